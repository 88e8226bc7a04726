/-
 Plain facts: the sheet of an invoice; the plain law BillTotalsAddUp is true of all data. No condition.
-/
import Derived.Test.YtalfglakknbjkaaGreatDoorYt
import Derived.Test.YtalfglakknbjkaaGreatDoorYn
set_option linter.all false
namespace Go.Md
open Go.Dn

theorem isAm_fits (z : Int) : bill_fits (W z) = some (isAm z, ()) := bill_fits_eq z
theorem allAm_take_succ {zs : List Int} {i : Nat} {z : Int} (h : zs[i]? = some z) : allAm (zs.take (i + 1)) = (allAm (zs.take i) && isAm z) := by
 unfold allAm
 rw [List.take_add_one, h, List.all_append]; simp
theorem allAm_false {zs : List Int} {i : Nat} {z : Int} (h : zs[i]? = some z) (hz : isAm z = false) : allAm zs = false := by
 unfold allAm
 rw [List.all_eq_false]
 exact ⟨z, List.mem_of_getElem? h, by simp [hz]⟩

theorem contains_eq (zs : List Int) (hl : zs.length ≤ 1000) : slices_ContainsFunc_whole_Int (zs.map W) () = some (!allAm zs, ()) := by
 unfold slices_ContainsFunc_whole_Int slices_IndexFunc_whole_Int
 have loop : ∀ f, zs.length < f → (allAm zs = true ∧ iter f ((zs.map W, (), (zs.length : Int), (0 : Int), ()) : slices_IndexFunc_whole_Int_x2) slices_IndexFunc_whole_Int_b2 = some (Sum.inr ())) ∨
   (allAm zs = false ∧ ∃ j : Nat, iter f ((zs.map W, (), (zs.length : Int), (0 : Int), ()) : slices_IndexFunc_whole_Int_x2) slices_IndexFunc_whole_Int_b2 = some (Sum.inl ((j : Int), ()))) := by
  intro f hf
  refine iter_post (Inv := fun i X => X = (zs.map W, (), (zs.length : Int), (i : Int), ()) ∧ allAm (zs.take i) = true) zs.length (fun r => (allAm zs = true ∧ r = some (Sum.inr ())) ∨ (allAm zs = false ∧ ∃ j : Nat, r = some (Sum.inl ((j : Int), ())))) ?_ ?_ f 0 _ ⟨rfl, rfl⟩ (by omega) (by omega)
  ·rintro i _ again hi ⟨rfl, hal⟩ ih
   unfold slices_IndexFunc_whole_Int_b2
   dsimp only
   have hz : zs[i]? = some zs[i] := getElem?_of hi
   generalize zs[i] = z at hz
   rw [bif_pos (by omega), idx_nat, List.getElem?_map, hz, Option.map_some, Option.bind_some]
   unfold bill_sheet_byLines_1
   rw [isAm_fits, Option.bind_some, Option.bind_some]
   dsimp only
   cases h : isAm z with
   | true =>
    rw [Bool.not_true, cond_false, w64_id (by omega) (by omega)]
    exact ih _ ⟨rfl, by rw [allAm_take_succ hz, hal, h]; rfl⟩
   | false => exact .inr ⟨allAm_false hz h, i, rfl⟩
  ·rintro _ again ⟨rfl, hal⟩
   unfold slices_IndexFunc_whole_Int_b2
   dsimp only
   rw [List.take_of_length_le (Nat.le_refl _)] at hal
   rw [bif_neg (by omega)]
   exact .inl ⟨hal, rfl⟩
 rw [List.length_map]
 rcases loop (zs.length + (Int.natAbs ((zs.length : Int)) + (Int.natAbs (0 : Int) + 2))) (by omega) with ⟨h, e⟩ | ⟨h, j, e⟩
 ·rw [e, joinB_inr, Option.bind_some, h]; rfl
 ·rw [e, joinB_inl, Option.bind_some, h]
  dsimp only
  rw [decide_eq_true (show (j : Int) ≥ 0 by omega)]; rfl

theorem contains_eq_b (zs : List Int) (hl : zs.length ≤ 1000) : slices_ContainsFunc_whole_Int_b (zs.map W) () = some (!allAm zs, ()) := by
 unfold slices_ContainsFunc_whole_Int_b slices_IndexFunc_whole_Int_b
 have loop : ∀ f, zs.length < f → (allAm zs = true ∧ iter f ((zs.map W, (), (zs.length : Int), (0 : Int), ()) : slices_IndexFunc_whole_Int_b_x2) slices_IndexFunc_whole_Int_b_b2 = some (Sum.inr ())) ∨
   (allAm zs = false ∧ ∃ j : Nat, iter f ((zs.map W, (), (zs.length : Int), (0 : Int), ()) : slices_IndexFunc_whole_Int_b_x2) slices_IndexFunc_whole_Int_b_b2 = some (Sum.inl ((j : Int), ()))) := by
  intro f hf
  refine iter_post (Inv := fun i X => X = (zs.map W, (), (zs.length : Int), (i : Int), ()) ∧ allAm (zs.take i) = true) zs.length (fun r => (allAm zs = true ∧ r = some (Sum.inr ())) ∨ (allAm zs = false ∧ ∃ j : Nat, r = some (Sum.inl ((j : Int), ())))) ?_ ?_ f 0 _ ⟨rfl, rfl⟩ (by omega) (by omega)
  ·rintro i _ again hi ⟨rfl, hal⟩ ih
   unfold slices_IndexFunc_whole_Int_b_b2
   dsimp only
   have hz : zs[i]? = some zs[i] := getElem?_of hi
   generalize zs[i] = z at hz
   rw [bif_pos (by omega), idx_nat, List.getElem?_map, hz, Option.map_some, Option.bind_some]
   unfold bill_sheet_extra_1
   rw [isAm_fits, Option.bind_some, Option.bind_some]
   dsimp only
   cases h : isAm z with
   | true =>
    rw [Bool.not_true, cond_false, w64_id (by omega) (by omega)]
    exact ih _ ⟨rfl, by rw [allAm_take_succ hz, hal, h]; rfl⟩
   | false => exact .inr ⟨allAm_false hz h, i, rfl⟩
  ·rintro _ again ⟨rfl, hal⟩
   unfold slices_IndexFunc_whole_Int_b_b2
   dsimp only
   rw [List.take_of_length_le (Nat.le_refl _)] at hal
   rw [bif_neg (by omega)]
   exact .inl ⟨hal, rfl⟩
 rw [List.length_map]
 rcases loop (zs.length + (Int.natAbs ((zs.length : Int)) + (Int.natAbs (0 : Int) + 2))) (by omega) with ⟨h, e⟩ | ⟨h, j, e⟩
 ·rw [e, joinB_inr, Option.bind_some, h]; rfl
 ·rw [e, joinB_inl, Option.bind_some, h]
  dsimp only
  rw [decide_eq_true (show (j : Int) ≥ 0 by omega)]; rfl

theorem contains_eq_c (zs : List Int) (hl : zs.length ≤ 1000) : slices_ContainsFunc_whole_Int_c (zs.map W) () = some (!allAm zs, ()) := by
 unfold slices_ContainsFunc_whole_Int_c slices_IndexFunc_whole_Int_c
 have loop : ∀ f, zs.length < f → (allAm zs = true ∧ iter f ((zs.map W, (), (zs.length : Int), (0 : Int), ()) : slices_IndexFunc_whole_Int_c_x2) slices_IndexFunc_whole_Int_c_b2 = some (Sum.inr ())) ∨
   (allAm zs = false ∧ ∃ j : Nat, iter f ((zs.map W, (), (zs.length : Int), (0 : Int), ()) : slices_IndexFunc_whole_Int_c_x2) slices_IndexFunc_whole_Int_c_b2 = some (Sum.inl ((j : Int), ()))) := by
  intro f hf
  refine iter_post (Inv := fun i X => X = (zs.map W, (), (zs.length : Int), (i : Int), ()) ∧ allAm (zs.take i) = true) zs.length (fun r => (allAm zs = true ∧ r = some (Sum.inr ())) ∨ (allAm zs = false ∧ ∃ j : Nat, r = some (Sum.inl ((j : Int), ())))) ?_ ?_ f 0 _ ⟨rfl, rfl⟩ (by omega) (by omega)
  ·rintro i _ again hi ⟨rfl, hal⟩ ih
   unfold slices_IndexFunc_whole_Int_c_b2
   dsimp only
   have hz : zs[i]? = some zs[i] := getElem?_of hi
   generalize zs[i] = z at hz
   rw [bif_pos (by omega), idx_nat, List.getElem?_map, hz, Option.map_some, Option.bind_some]
   unfold bill_sheet_tax_1
   rw [isAm_fits, Option.bind_some, Option.bind_some]
   dsimp only
   cases h : isAm z with
   | true =>
    rw [Bool.not_true, cond_false, w64_id (by omega) (by omega)]
    exact ih _ ⟨rfl, by rw [allAm_take_succ hz, hal, h]; rfl⟩
   | false => exact .inr ⟨allAm_false hz h, i, rfl⟩
  ·rintro _ again ⟨rfl, hal⟩
   unfold slices_IndexFunc_whole_Int_c_b2
   dsimp only
   rw [List.take_of_length_le (Nat.le_refl _)] at hal
   rw [bif_neg (by omega)]
   exact .inl ⟨hal, rfl⟩
 rw [List.length_map]
 rcases loop (zs.length + (Int.natAbs ((zs.length : Int)) + (Int.natAbs (0 : Int) + 2))) (by omega) with ⟨h, e⟩ | ⟨h, j, e⟩
 ·rw [e, joinB_inr, Option.bind_some, h]; rfl
 ·rw [e, joinB_inl, Option.bind_some, h]
  dsimp only
  rw [decide_eq_true (show (j : Int) ≥ 0 by omega)]; rfl

theorem contains_eq_d (zs : List Int) (hl : zs.length ≤ 1000) : slices_ContainsFunc_whole_Int_d (zs.map W) () = some (!allAm zs, ()) := by
 unfold slices_ContainsFunc_whole_Int_d slices_IndexFunc_whole_Int_d
 have loop : ∀ f, zs.length < f → (allAm zs = true ∧ iter f ((zs.map W, (), (zs.length : Int), (0 : Int), ()) : slices_IndexFunc_whole_Int_d_x2) slices_IndexFunc_whole_Int_d_b2 = some (Sum.inr ())) ∨
   (allAm zs = false ∧ ∃ j : Nat, iter f ((zs.map W, (), (zs.length : Int), (0 : Int), ()) : slices_IndexFunc_whole_Int_d_x2) slices_IndexFunc_whole_Int_d_b2 = some (Sum.inl ((j : Int), ()))) := by
  intro f hf
  refine iter_post (Inv := fun i X => X = (zs.map W, (), (zs.length : Int), (i : Int), ()) ∧ allAm (zs.take i) = true) zs.length (fun r => (allAm zs = true ∧ r = some (Sum.inr ())) ∨ (allAm zs = false ∧ ∃ j : Nat, r = some (Sum.inl ((j : Int), ())))) ?_ ?_ f 0 _ ⟨rfl, rfl⟩ (by omega) (by omega)
  ·rintro i _ again hi ⟨rfl, hal⟩ ih
   unfold slices_IndexFunc_whole_Int_d_b2
   dsimp only
   have hz : zs[i]? = some zs[i] := getElem?_of hi
   generalize zs[i] = z at hz
   rw [bif_pos (by omega), idx_nat, List.getElem?_map, hz, Option.map_some, Option.bind_some]
   unfold bill_sheet_totals_1
   rw [isAm_fits, Option.bind_some, Option.bind_some]
   dsimp only
   cases h : isAm z with
   | true =>
    rw [Bool.not_true, cond_false, w64_id (by omega) (by omega)]
    exact ih _ ⟨rfl, by rw [allAm_take_succ hz, hal, h]; rfl⟩
   | false => exact .inr ⟨allAm_false hz h, i, rfl⟩
  ·rintro _ again ⟨rfl, hal⟩
   unfold slices_IndexFunc_whole_Int_d_b2
   dsimp only
   rw [List.take_of_length_le (Nat.le_refl _)] at hal
   rw [bif_neg (by omega)]
   exact .inl ⟨hal, rfl⟩
 rw [List.length_map]
 rcases loop (zs.length + (Int.natAbs ((zs.length : Int)) + (Int.natAbs (0 : Int) + 2))) (by omega) with ⟨h, e⟩ | ⟨h, j, e⟩
 ·rw [e, joinB_inr, Option.bind_some, h]; rfl
 ·rw [e, joinB_inl, Option.bind_some, h]
  dsimp only
  rw [decide_eq_true (show (j : Int) ≥ 0 by omega)]; rfl

theorem clone_whole_eq (l : List D_whole_Int) (hl : l.length ≤ 1000) : slices_Clone_whole_Int l = some (l, ()) := by
 unfold slices_Clone_whole_Int
 have hc : (decide ((0 + l.length) * 32 ≤ 140737488355328) && decide (0 + l.length ≤ maxLen)) = true := by
  simp only [Bool.and_eq_true, decide_eq_true_eq]; rw [maxLen_eq]; omega
 rw [chk_pos hc]
 cases l with
 | nil => exact both_same _
 | cons x r => rfl

def shW (p : Nat × Int) : D_bill_share := ((p.1 : Int), W p.2)
def hasL (n : Nat) (fl : List Nat) : List Bool := (List.range n).map fun k => fl.contains k
theorem hasL_len (n : Nat) (fl : List Nat) : (hasL n fl).length = n := by simp [hasL]
theorem hasL_nil (n : Nat) : hasL n [] = List.replicate n false := by
 unfold hasL
 apply List.ext_getElem?
 intro i
 by_cases hi : i < n
 ·rw [List.getElem?_map, List.getElem?_range hi, List.getElem?_replicate, if_pos hi]; rfl
 ·rw [List.getElem?_eq_none (by simp; omega), List.getElem?_eq_none (by simp; omega)]
theorem hasL_set {n k : Nat} (fl : List Nat) : (hasL n fl).set k true = hasL n (fl ++ [k]) := by
 apply List.ext_getElem?
 intro i
 by_cases hi : i < n
 ·have e : ∀ f, (hasL n f)[i]? = some (f.contains i) := fun f => by unfold hasL; rw [List.getElem?_map, List.getElem?_range hi]; rfl
  rw [e]
  by_cases h : k = i
  ·subst h
   rw [List.getElem?_set_self (by rw [hasL_len]; exact hi)]; simp
  ·rw [List.getElem?_set_ne h, e]
   simp [show ¬ i = k from fun x => h x.symm]
 ·rw [List.getElem?_eq_none (by rw [List.length_set, hasL_len]; omega), List.getElem?_eq_none (by rw [hasL_len]; omega)]
theorem hasL_get {n k : Nat} (fl : List Nat) (h : k < n) : (hasL n fl)[k]? = some (fl.contains k) := by
 unfold hasL; rw [List.getElem?_map, List.getElem?_range h]; rfl
theorem basesOf_nil (n : Nat) : (basesOf n []).map W = List.replicate n (false, []) := by
 apply List.ext_getElem?
 intro i
 by_cases hi : i < n
 ·rw [List.getElem?_map, basesOf_get _ hi, List.getElem?_replicate, if_pos hi]; rfl
 ·rw [List.getElem?_eq_none (by rw [List.length_map, basesOf_len]; omega), List.getElem?_eq_none (by simp; omega)]
def Bx (v : D_api_Invoice) (nets lines bases : List Int) (sh : Br) (am : List Int) (has : List Bool) (tx : List Int) : D_api_Invoice × (List D_whole_Int) × (List D_whole_Int) × (List D_whole_Int) × (List D_bill_share) × (List D_whole_Int) × (List Bool) × (List D_whole_Int) × Unit :=
 (v, nets.map W, lines.map W, bases.map W, sh.map shW, am.map W, has, tx.map W, ())

theorem lineBr_append (v : D_api_Invoice) : ∀ (a b : List D_api_BillLine), lineBr v (a ++ b) = match lineBr v a with | some l => (lineBr v b).map (l ++ ·) | none => none
 | [], b => by simp [lineBr]
 | x :: a, b => by
  simp only [List.cons_append, lineBr]
  cases netZ v x with
  | none => rfl
  | some n =>
   dsimp only
   rw [lineBr_append v a b]
   cases lineBr v a with
   | none => rfl
   | some l => cases lineBr v b <;> rfl
def rateN (v : D_api_Invoice) (x : D_api_BillLine) : Nat := (ixOf (·.1) x.2.2.2.2.2.2.2.2 (vRates v)).getD 0
theorem lineBr_take {v : D_api_Invoice} {l : List D_api_BillLine} {i : Nat} {x : D_api_BillLine} (hx : l[i]? = some x) {b : Br} (h : lineBr v (l.take i) = some b) :
  lineBr v (l.take (i + 1)) = (netZ v x).map fun n => b ++ [(rateN v x, n)] := by
 rw [List.take_add_one, hx, lineBr_append, h]
 simp only [Option.toList, lineBr]
 cases netZ v x <;> rfl
theorem lineBr_none {v : D_api_Invoice} {l : List D_api_BillLine} {i : Nat} (h : lineBr v (l.take i) = none) : lineBr v l = none := by
 have := lineBr_append v (l.take i) (l.drop i)
 rw [List.take_append_drop, h] at this
 exact this
theorem MU_eq : MU = 1000000000000000 := rfl
structure BrOk (n : Nat) (b : Br) : Prop where
 ix : ∀ p ∈ b, p.1 < n
 am : ∀ p ∈ b, (p.2.natAbs : Int) ≤ MU
theorem atB_le {n : Nat} {b : Br} (h : BrOk n b) (k : Nat) : (atB b k).natAbs ≤ b.length * 1000000000000000 := by
 have am := h.am
 have hMU := MU_eq
 clear h
 induction b with
 | nil => simp [atB]
 | cons p b ih =>
  have h1 := ih fun q hq => am q (List.mem_cons_of_mem _ hq)
  have h2 := am p List.mem_cons_self
  simp only [atB, List.length_cons, Nat.add_mul, Nat.one_mul]
  split <;> omega
theorem atB_Le {n : Nat} {b : Br} (h : BrOk n b) (hl : b.length ≤ 2000) (k : Nat) : Le 19 (atB b k) := by
 have h1 := atB_le h k
 have h2 : b.length * 1000000000000000 ≤ 2000 * 1000000000000000 := Nat.mul_le_mul_right _ hl
 exact Le.int (by omega) (by omega)
theorem MU_Le {z : Int} (h : (z.natAbs : Int) ≤ MU) : Le 19 z := by
 have := MU_eq
 exact Le.int (by omega) (by omega)

theorem byLines_loop {v : D_api_Invoice} (hv : InvOk v) (f : Nat) (hf : (vLines v).length < f) (b0 : List D_whole_Int) (a0 t0 : List D_whole_Int) :
  (∃ lb, lineBr v (vLines v) = some lb ∧ BrOk (vRates v).length lb ∧ lb.length = (vLines v).length ∧ iter f ((vLines v, ((vLines v).length : Int), (0 : Int), v.1, v.2.1, v.2.2.1, v.2.2.2.1, v.2.2.2.2.1, v.2.2.2.2.2.1, v.2.2.2.2.2.2.1, v.2.2.2.2.2.2.2.1, v.2.2.2.2.2.2.2.2, ([] : List D_whole_Int), ([] : List D_bill_share), List.replicate (Int.toNat ((vRates v).length : Int)) ((false, []) : D_whole_Int), List.replicate (Int.toNat ((vRates v).length : Int)) false, b0, a0, t0, ()) : bill_sheet_byLines_x4) bill_sheet_byLines_b4 = some (Sum.inr (v.1, v.2.1, v.2.2.1, v.2.2.2.1, v.2.2.2.2.1, v.2.2.2.2.2.1, v.2.2.2.2.2.2.1, v.2.2.2.2.2.2.2.1, v.2.2.2.2.2.2.2.2, (lb.map (·.2)).map W, lb.map shW, (basesOf (vRates v).length lb).map W, hasL (vRates v).length (lb.map (·.1)), b0, a0, t0, ()))) ∨
  (lineBr v (vLines v) = none ∧ ∃ b, iter f ((vLines v, ((vLines v).length : Int), (0 : Int), v.1, v.2.1, v.2.2.1, v.2.2.2.1, v.2.2.2.2.1, v.2.2.2.2.2.1, v.2.2.2.2.2.2.1, v.2.2.2.2.2.2.2.1, v.2.2.2.2.2.2.2.2, ([] : List D_whole_Int), ([] : List D_bill_share), List.replicate (Int.toNat ((vRates v).length : Int)) ((false, []) : D_whole_Int), List.replicate (Int.toNat ((vRates v).length : Int)) false, b0, a0, t0, ()) : bill_sheet_byLines_x4) bill_sheet_byLines_b4 = some (Sum.inl (1, b, ()))) := by
 have hrn : 0 < (vRates v).length ∧ (vRates v).length ≤ 20 := hv.rn
 have hln : 0 < (vLines v).length ∧ (vLines v).length ≤ 500 := hv.ln
 refine iter_post (Inv := fun i X => ∃ lb, lineBr v ((vLines v).take i) = some lb ∧ BrOk (vRates v).length lb ∧ lb.length = i ∧ X = ((vLines v, ((vLines v).length : Int), (i : Int), v.1, v.2.1, v.2.2.1, v.2.2.2.1, v.2.2.2.2.1, v.2.2.2.2.2.1, v.2.2.2.2.2.2.1, v.2.2.2.2.2.2.2.1, v.2.2.2.2.2.2.2.2, (lb.map (·.2)).map W, lb.map shW, (basesOf (vRates v).length lb).map W, hasL (vRates v).length (lb.map (·.1)), b0, a0, t0, ()) : bill_sheet_byLines_x4)) (vLines v).length
  (fun r => (∃ lb, lineBr v (vLines v) = some lb ∧ BrOk (vRates v).length lb ∧ lb.length = (vLines v).length ∧ r = some (Sum.inr (v.1, v.2.1, v.2.2.1, v.2.2.2.1, v.2.2.2.2.1, v.2.2.2.2.2.1, v.2.2.2.2.2.2.1, v.2.2.2.2.2.2.2.1, v.2.2.2.2.2.2.2.2, (lb.map (·.2)).map W, lb.map shW, (basesOf (vRates v).length lb).map W, hasL (vRates v).length (lb.map (·.1)), b0, a0, t0, ()))) ∨ (lineBr v (vLines v) = none ∧ ∃ b, r = some (Sum.inl (1, b, ())))) ?_ ?_ f 0 _ ⟨[], rfl, ⟨by simp, by simp⟩, rfl, ?_⟩ (by omega) (by omega)
 ·rintro i _ again hi ⟨lb, h1, h2, h3, rfl⟩ ih
  unfold bill_sheet_byLines_b4
  dsimp only
  have hx : (vLines v)[i]? = some (vLines v)[i] := getElem?_of hi
  have hxm := List.getElem_mem hi
  generalize (vLines v)[i] = x at hx hxm
  have hxo := hv.lines x hxm
  have hstep := lineBr_take hx h1
  rw [bif_pos (by omega), idx_nat, hx, Option.bind_some]
  rw [show (v.1, v.2.1, v.2.2.1, v.2.2.2.1, v.2.2.2.2.1, v.2.2.2.2.2.1, v.2.2.2.2.2.2.1, v.2.2.2.2.2.2.2.1, v.2.2.2.2.2.2.2.2) = v from rfl, bill_net_eq hv hxo, Option.bind_some]
  dsimp only
  cases hn : netZ v x with
  | none =>
   rw [hn] at hstep
   exact .inr ⟨lineBr_none hstep, _, rfl⟩
  | some d =>
   rw [hn] at hstep
   obtain ⟨hd1, hd2⟩ := netZ_some hn
   rw [Option.isSome_some, Bool.not_true, cond_false, ← hd1]
   obtain ⟨k, hk1, hk2⟩ := bill_rateAt_eq (vRates v) x.2.2.2.2.2.2.2.2 (by omega) hv.asc
   obtain ⟨k', hk'⟩ := Option.isSome_iff_exists.1 hxo.rate
   obtain rfl := hk2 k' hk'
   obtain ⟨rt, hrt, _⟩ := ixOf_some hk'
   have hkl : k < (vRates v).length := (List.getElem?_eq_some_iff.1 hrt).1
   have hrk : rateN v x = k := by unfold rateN; rw [hk']; rfl
   rw [hk1, Option.bind_some]
   dsimp only
   have hcm : (hasL (vRates v).length (lb.map (·.1)))[k]? = some ((lb.map (·.1)).contains k) := hasL_get _ hkl
   have hbm : ((basesOf (vRates v).length lb).map W)[k]? = some (W (atB lb k)) := by rw [List.getElem?_map, basesOf_get _ hkl]; rfl
   have hck : (decide (0 ≤ (k : Int)) && decide ((k : Int) < (((basesOf (vRates v).length lb).map W).length : Int))) = true := by
    rw [List.length_map, basesOf_len]; simp only [Bool.and_eq_true, decide_eq_true_eq]; omega
   rw [chk_pos (chk_app (by simp; omega) (by simp; omega)), chk_pos hck, Int.toNat_natCast, hbm, Option.bind_some, whole_Int_Plus_eq _ _ ((atB_Le h2 (by omega) k).w (by omega)) ((MU_Le hd2).w (by omega)), Option.bind_some, chk_pos hck, Option.bind_some, chk_pos (chk_app (by simp; omega) (by simp; omega)), chk_pos (by rw [hasL_len]; simp only [Bool.and_eq_true, decide_eq_true_eq]; omega), hcm, Option.bind_some, w64_id (by omega) (by omega)]
   refine ih _ ⟨lb ++ [(k, d)], by rw [hstep, hrk]; rfl, ⟨?_, ?_⟩, by simp [h3], ?_⟩
   ·intro p hp
    rcases List.mem_append.1 hp with hp | hp
    ·exact h2.ix p hp
    ·rw [List.mem_singleton.1 hp]; exact hkl
   ·intro p hp
    rcases List.mem_append.1 hp with hp | hp
    ·exact h2.am p hp
    ·rw [List.mem_singleton.1 hp]; exact hd2
   ·dsimp only
    rw [← List.map_set, basesOf_set, hasL_set]
    simp only [List.map_append, List.map_cons, List.map_nil, shW]
    rfl
 ·rintro _ again ⟨lb, h1, h2, h3, rfl⟩
  unfold bill_sheet_byLines_b4
  dsimp only
  rw [bif_neg (by omega)]
  rw [List.take_of_length_le (Nat.le_refl _)] at h1
  exact .inl ⟨lb, h1, h2, h3, rfl⟩
 ·simp only [List.map_nil, hasL_nil, basesOf_nil, Int.toNat_natCast]
  rfl

theorem bill_byLines_eq {v : D_api_Invoice} (hv : InvOk v) :
  (∃ lb, lineBr v (vLines v) = some lb ∧ BrOk (vRates v).length lb ∧ lb.length = (vLines v).length ∧ allAm (basesOf (vRates v).length lb) = true ∧ bill_sheet_byLines (v, [], [], [], [], [], [], [], ()) = some (0, Bx v (lb.map (·.2)) (basesOf (vRates v).length lb) (basesOf (vRates v).length lb) lb [] (hasL (vRates v).length (lb.map (·.1))) [], ())) ∨
  ((lineBr v (vLines v) = none ∨ ∃ lb, lineBr v (vLines v) = some lb ∧ allAm (basesOf (vRates v).length lb) = false) ∧ ∃ b, bill_sheet_byLines (v, [], [], [], [], [], [], [], ()) = some (1, b, ())) := by
 have hrn : 0 < (vRates v).length ∧ (vRates v).length ≤ 20 := hv.rn
 have hrn' := hv.rn
 unfold bill_sheet_byLines
 dsimp only
 rw [chk_pos (by simp only [Bool.and_eq_true, decide_eq_true_eq]; omega), chk_pos (by simp only [Bool.and_eq_true, decide_eq_true_eq]; omega)]
 rcases byLines_loop hv ((vLines v).length + (Int.natAbs (((vLines v).length : Int)) + (Int.natAbs (0 : Int) + (List.length v.1 + (List.length v.2.1 + (Int.natAbs v.2.2.1 + (Int.natAbs v.2.2.2.1 + (Int.natAbs v.2.2.2.2.1 + (List.length v.2.2.2.2.2.2.1 + (List.length v.2.2.2.2.2.2.2.1 + (List.length v.2.2.2.2.2.2.2.2 + (List.length ([] : List D_whole_Int) + (List.length ([] : List D_bill_share) + (List.length (List.replicate (Int.toNat ((vRates v).length : Int)) ((false, []) : D_whole_Int)) + (List.length (List.replicate (Int.toNat ((vRates v).length : Int)) false) + (List.length ([] : List D_whole_Int) + (List.length ([] : List D_whole_Int) + (List.length ([] : List D_whole_Int) + 2)))))))))))))))))) (by omega) [] [] [] with ⟨lb, h1, h2, h3, e⟩ | ⟨h1, b, e⟩
 ·rw [e, joinB_inr]
  dsimp only
  have hbl := basesOf_len (vRates v).length lb
  rw [contains_eq _ (by rw [hbl]; omega), Option.bind_some]
  dsimp only
  cases ha : allAm (basesOf (vRates v).length lb) with
  | true =>
   rw [Bool.not_true, cond_false, clone_whole_eq _ (by rw [List.length_map, hbl]; omega), Option.bind_some]
   exact .inl ⟨lb, h1, h2, h3, ha, rfl⟩
  | false => exact .inr ⟨.inr ⟨lb, h1, ha⟩, _, rfl⟩
 ·rw [e, joinB_inl]
  exact .inr ⟨.inl h1, b, rfl⟩

end Go.Md

namespace Go.Md
open Go.Dn

def divRest (v5 : ((List Int) × Bool × Bool × (List Int) × (List UInt8) × (List UInt8) × Int × Int × Int × Bool × (List D_api_Rate) × (List D_api_BillLine) × (List D_api_Extra) × (List D_whole_Int) × (List D_whole_Int) × (List D_whole_Int) × (List D_bill_share) × (List D_whole_Int) × (List Bool) × (List D_whole_Int) × Unit)) : Option (Int × (D_api_Invoice × (List D_whole_Int) × (List D_whole_Int) × (List D_whole_Int) × (List D_bill_share) × (List D_whole_Int) × (List Bool) × (List D_whole_Int) × Unit) × Unit) :=
 bif !v5.2.1 then
  Option.bind (bill_sheet_bring ((v5.2.2.2.2.1, v5.2.2.2.2.2.1, v5.2.2.2.2.2.2.1, v5.2.2.2.2.2.2.2.1, v5.2.2.2.2.2.2.2.2.1, v5.2.2.2.2.2.2.2.2.2.1, v5.2.2.2.2.2.2.2.2.2.2.1, v5.2.2.2.2.2.2.2.2.2.2.2.1, v5.2.2.2.2.2.2.2.2.2.2.2.2.1), v5.2.2.2.2.2.2.2.2.2.2.2.2.2.2.1, v5.2.2.2.2.2.2.2.2.2.2.2.2.2.1, v5.2.2.2.2.2.2.2.2.2.2.2.2.2.2.2.1, v5.2.2.2.2.2.2.2.2.2.2.2.2.2.2.2.2.1, v5.2.2.2.2.2.2.2.2.2.2.2.2.2.2.2.2.2.1, v5.2.2.2.2.2.2.2.2.2.2.2.2.2.2.2.2.2.2.1, v5.2.2.2.2.2.2.2.2.2.2.2.2.2.2.2.2.2.2.2.1, ()) 0 (v5.2.2.1, v5.2.2.2.1)) fun r6 =>
  chk (decide (0 ≤ (0 : Int)) && decide ((0 : Int) < (List.length r6.1.2.2.2.2.2.2.1 : Int))) <|
  Option.bind (r6.1.2.2.2.2.2.2.1[0]?) fun y7 =>
  bif y7 then
   chk (decide (0 ≤ (0 : Int)) && decide ((0 : Int) < (List.length r6.1.2.2.2.2.2.2.1 : Int))) <|
   Option.bind (r6.1.2.2.2.2.2.2.1[0]?) fun _ =>
   some (0, (r6.1.1, r6.1.2.1, r6.1.2.2.1, r6.1.2.2.2.1, r6.1.2.2.2.2.1, r6.1.2.2.2.2.2.1, List.set r6.1.2.2.2.2.2.2.1 0 true, r6.1.2.2.2.2.2.2.2.1, ()), ())
  else
   Option.bind (whole_Int_Sign (v5.2.2.1, v5.2.2.2.1)) fun r9 =>
   chk (decide (0 ≤ (0 : Int)) && decide ((0 : Int) < (List.length r6.1.2.2.2.2.2.2.1 : Int))) <|
   Option.bind (r6.1.2.2.2.2.2.2.1[0]?) fun _ =>
   some (0, (r6.1.1, r6.1.2.1, r6.1.2.2.1, r6.1.2.2.2.1, r6.1.2.2.2.2.1, r6.1.2.2.2.2.2.1, List.set r6.1.2.2.2.2.2.2.1 0 (r9.1 != 0), r6.1.2.2.2.2.2.2.2.1, ()), ())
 else
  Option.bind (slices_ContainsFunc_int v5.1 ()) fun r11 =>
  bif r11.1 then
   some (2, ((v5.2.2.2.2.1, v5.2.2.2.2.2.1, v5.2.2.2.2.2.2.1, v5.2.2.2.2.2.2.2.1, v5.2.2.2.2.2.2.2.2.1, v5.2.2.2.2.2.2.2.2.2.1, v5.2.2.2.2.2.2.2.2.2.2.1, v5.2.2.2.2.2.2.2.2.2.2.2.1, v5.2.2.2.2.2.2.2.2.2.2.2.2.1), v5.2.2.2.2.2.2.2.2.2.2.2.2.2.2.1, v5.2.2.2.2.2.2.2.2.2.2.2.2.2.1, v5.2.2.2.2.2.2.2.2.2.2.2.2.2.2.2.1, v5.2.2.2.2.2.2.2.2.2.2.2.2.2.2.2.2.1, v5.2.2.2.2.2.2.2.2.2.2.2.2.2.2.2.2.2.1, v5.2.2.2.2.2.2.2.2.2.2.2.2.2.2.2.2.2.2.1, v5.2.2.2.2.2.2.2.2.2.2.2.2.2.2.2.2.2.2.2.1, ()), ())
  else
   Option.bind (amount_Made (v5.2.2.1, v5.2.2.2.1) v5.2.2.2.2.2.2.2.1) fun r12 =>
   Option.bind (amount_Shares r12.1 v5.1) fun r13 =>
   bif r13.2.1 != 0 then
    some (r13.2.1, ((v5.2.2.2.2.1, v5.2.2.2.2.2.1, v5.2.2.2.2.2.2.1, v5.2.2.2.2.2.2.2.1, v5.2.2.2.2.2.2.2.2.1, v5.2.2.2.2.2.2.2.2.2.1, v5.2.2.2.2.2.2.2.2.2.2.1, v5.2.2.2.2.2.2.2.2.2.2.2.1, v5.2.2.2.2.2.2.2.2.2.2.2.2.1), v5.2.2.2.2.2.2.2.2.2.2.2.2.2.2.1, v5.2.2.2.2.2.2.2.2.2.2.2.2.2.1, v5.2.2.2.2.2.2.2.2.2.2.2.2.2.2.2.1, v5.2.2.2.2.2.2.2.2.2.2.2.2.2.2.2.2.1, v5.2.2.2.2.2.2.2.2.2.2.2.2.2.2.2.2.2.1, v5.2.2.2.2.2.2.2.2.2.2.2.2.2.2.2.2.2.2.1, v5.2.2.2.2.2.2.2.2.2.2.2.2.2.2.2.2.2.2.2.1, ()), ())
   else
    joinB (β := (Int × (D_api_Invoice × (List D_whole_Int) × (List D_whole_Int) × (List D_whole_Int) × (List D_bill_share) × (List D_whole_Int) × (List Bool) × (List D_whole_Int) × Unit) × Unit)) (γ := ((List UInt8) × (List UInt8) × Int × Int × Int × Bool × (List D_api_Rate) × (List D_api_BillLine) × (List D_api_Extra) × (List D_whole_Int) × (List D_whole_Int) × (List D_whole_Int) × (List D_bill_share) × (List D_whole_Int) × (List Bool) × (List D_whole_Int) × Unit)) (
     iter (X := bill_sheet_divide_x21) (β := bill_sheet_divide_r21) (List.length r13.1 + (Int.natAbs ((List.length r13.1 : Int)) + (Int.natAbs (0 : Int) + (List.length v5.2.2.2.2.1 + (List.length v5.2.2.2.2.2.1 + (Int.natAbs v5.2.2.2.2.2.2.1 + (Int.natAbs v5.2.2.2.2.2.2.2.1 + (Int.natAbs v5.2.2.2.2.2.2.2.2.1 + (List.length v5.2.2.2.2.2.2.2.2.2.2.1 + (List.length v5.2.2.2.2.2.2.2.2.2.2.2.1 + (List.length v5.2.2.2.2.2.2.2.2.2.2.2.2.1 + (List.length v5.2.2.2.2.2.2.2.2.2.2.2.2.2.2.1 + (List.length v5.2.2.2.2.2.2.2.2.2.2.2.2.2.1 + (List.length v5.2.2.2.2.2.2.2.2.2.2.2.2.2.2.2.1 + (List.length v5.2.2.2.2.2.2.2.2.2.2.2.2.2.2.2.2.1 + (List.length v5.2.2.2.2.2.2.2.2.2.2.2.2.2.2.2.2.2.1 + (List.length v5.2.2.2.2.2.2.2.2.2.2.2.2.2.2.2.2.2.2.1 + (List.length v5.2.2.2.2.2.2.2.2.2.2.2.2.2.2.2.2.2.2.2.1 + 2)))))))))))))))))) (r13.1, (List.length r13.1 : Int), 0, v5.2.2.2.2.1, v5.2.2.2.2.2.1, v5.2.2.2.2.2.2.1, v5.2.2.2.2.2.2.2.1, v5.2.2.2.2.2.2.2.2.1, v5.2.2.2.2.2.2.2.2.2.1, v5.2.2.2.2.2.2.2.2.2.2.1, v5.2.2.2.2.2.2.2.2.2.2.2.1, v5.2.2.2.2.2.2.2.2.2.2.2.2.1, v5.2.2.2.2.2.2.2.2.2.2.2.2.2.2.1, v5.2.2.2.2.2.2.2.2.2.2.2.2.2.1, v5.2.2.2.2.2.2.2.2.2.2.2.2.2.2.2.1, v5.2.2.2.2.2.2.2.2.2.2.2.2.2.2.2.2.1, v5.2.2.2.2.2.2.2.2.2.2.2.2.2.2.2.2.2.1, v5.2.2.2.2.2.2.2.2.2.2.2.2.2.2.2.2.2.2.1, v5.2.2.2.2.2.2.2.2.2.2.2.2.2.2.2.2.2.2.2.1, ()) (bill_sheet_divide_b21)) fun v19 =>
    some (0, ((v19.1, v19.2.1, v19.2.2.1, v19.2.2.2.1, v19.2.2.2.2.1, v19.2.2.2.2.2.1, v19.2.2.2.2.2.2.1, v19.2.2.2.2.2.2.2.1, v19.2.2.2.2.2.2.2.2.1), v19.2.2.2.2.2.2.2.2.2.1, v19.2.2.2.2.2.2.2.2.2.2.1, v19.2.2.2.2.2.2.2.2.2.2.2.1, v19.2.2.2.2.2.2.2.2.2.2.2.2.1, v19.2.2.2.2.2.2.2.2.2.2.2.2.2.1, v19.2.2.2.2.2.2.2.2.2.2.2.2.2.2.1, v19.2.2.2.2.2.2.2.2.2.2.2.2.2.2.2.1, ()), ())

def extraRest (v8 : (Int × Bool × Bool × Int × Int × (List UInt8) × Bool × (List Int) × (List UInt8) × (List UInt8) × Int × Int × Int × Bool × (List D_api_Rate) × (List D_api_BillLine) × (List D_api_Extra) × (List D_whole_Int) × (List D_whole_Int) × (List D_whole_Int) × (List D_bill_share) × (List D_whole_Int) × (List Bool) × (List D_whole_Int) × Unit)) : Option (Int × (D_api_Invoice × (List D_whole_Int) × (List D_whole_Int) × (List D_whole_Int) × (List D_bill_share) × (List D_whole_Int) × (List Bool) × (List D_whole_Int) × Unit) × Unit) :=
 Option.bind (amount_Scaled (v8.2.2.2.1, v8.2.2.2.2.1) (if v8.2.2.2.2.1 > v8.2.2.2.2.2.2.2.2.2.2.2.1 then v8.2.2.2.2.1 else v8.2.2.2.2.2.2.2.2.2.2.2.1)) fun r9 =>
 joinB (β := (Int × (D_api_Invoice × (List D_whole_Int) × (List D_whole_Int) × (List D_whole_Int) × (List D_bill_share) × (List D_whole_Int) × (List Bool) × (List D_whole_Int) × Unit) × Unit)) (γ := (Int × Bool × Bool × (List Int) × (List UInt8) × (List UInt8) × Int × Int × Int × Bool × (List D_api_Rate) × (List D_api_BillLine) × (List D_api_Extra) × (List D_whole_Int) × (List D_whole_Int) × (List D_whole_Int) × (List D_bill_share) × (List D_whole_Int) × (List Bool) × (List D_whole_Int) × Unit)) (
  bif v8.2.2.1 then
   Option.bind (bill_part (v8.2.2.2.2.2.2.2.2.1, v8.2.2.2.2.2.2.2.2.2.1, v8.2.2.2.2.2.2.2.2.2.2.1, v8.2.2.2.2.2.2.2.2.2.2.2.1, v8.2.2.2.2.2.2.2.2.2.2.2.2.1, v8.2.2.2.2.2.2.2.2.2.2.2.2.2.1, v8.2.2.2.2.2.2.2.2.2.2.2.2.2.2.1, v8.2.2.2.2.2.2.2.2.2.2.2.2.2.2.2.1, v8.2.2.2.2.2.2.2.2.2.2.2.2.2.2.2.2.1) (v8.2.2.2.2.2.2.1, v8.2.2.2.2.2.2.2.1) (v8.2.2.2.1, v8.2.2.2.2.1)) fun r10 =>
   some (Sum.inr (v8.1, v8.2.1, r10.1.1, r10.1.2, v8.2.2.2.2.2.2.2.2.1, v8.2.2.2.2.2.2.2.2.2.1, v8.2.2.2.2.2.2.2.2.2.2.1, v8.2.2.2.2.2.2.2.2.2.2.2.1, v8.2.2.2.2.2.2.2.2.2.2.2.2.1, v8.2.2.2.2.2.2.2.2.2.2.2.2.2.1, v8.2.2.2.2.2.2.2.2.2.2.2.2.2.2.1, v8.2.2.2.2.2.2.2.2.2.2.2.2.2.2.2.1, v8.2.2.2.2.2.2.2.2.2.2.2.2.2.2.2.2.1, v8.2.2.2.2.2.2.2.2.2.2.2.2.2.2.2.2.2.1, v8.2.2.2.2.2.2.2.2.2.2.2.2.2.2.2.2.2.2.1, v8.2.2.2.2.2.2.2.2.2.2.2.2.2.2.2.2.2.2.2.1, v8.2.2.2.2.2.2.2.2.2.2.2.2.2.2.2.2.2.2.2.2.1, v8.2.2.2.2.2.2.2.2.2.2.2.2.2.2.2.2.2.2.2.2.2.1, v8.2.2.2.2.2.2.2.2.2.2.2.2.2.2.2.2.2.2.2.2.2.2.1, v8.2.2.2.2.2.2.2.2.2.2.2.2.2.2.2.2.2.2.2.2.2.2.2.1, ()))
  else
   some (Sum.inr (v8.1, v8.2.1, r9.1.1, r9.1.2, v8.2.2.2.2.2.2.2.2.1, v8.2.2.2.2.2.2.2.2.2.1, v8.2.2.2.2.2.2.2.2.2.2.1, v8.2.2.2.2.2.2.2.2.2.2.2.1, v8.2.2.2.2.2.2.2.2.2.2.2.2.1, v8.2.2.2.2.2.2.2.2.2.2.2.2.2.1, v8.2.2.2.2.2.2.2.2.2.2.2.2.2.2.1, v8.2.2.2.2.2.2.2.2.2.2.2.2.2.2.2.1, v8.2.2.2.2.2.2.2.2.2.2.2.2.2.2.2.2.1, v8.2.2.2.2.2.2.2.2.2.2.2.2.2.2.2.2.2.1, v8.2.2.2.2.2.2.2.2.2.2.2.2.2.2.2.2.2.2.1, v8.2.2.2.2.2.2.2.2.2.2.2.2.2.2.2.2.2.2.2.1, v8.2.2.2.2.2.2.2.2.2.2.2.2.2.2.2.2.2.2.2.2.1, v8.2.2.2.2.2.2.2.2.2.2.2.2.2.2.2.2.2.2.2.2.2.1, v8.2.2.2.2.2.2.2.2.2.2.2.2.2.2.2.2.2.2.2.2.2.2.1, v8.2.2.2.2.2.2.2.2.2.2.2.2.2.2.2.2.2.2.2.2.2.2.2.1, ()))) fun v11 =>
 Option.bind (bill_fits (v11.2.2.1, v11.2.2.2.1)) fun r12 =>
 bif !r12.1 then
  some (1, ((v11.2.2.2.2.1, v11.2.2.2.2.2.1, v11.2.2.2.2.2.2.1, v11.2.2.2.2.2.2.2.1, v11.2.2.2.2.2.2.2.2.1, v11.2.2.2.2.2.2.2.2.2.1, v11.2.2.2.2.2.2.2.2.2.2.1, v11.2.2.2.2.2.2.2.2.2.2.2.1, v11.2.2.2.2.2.2.2.2.2.2.2.2.1), v11.2.2.2.2.2.2.2.2.2.2.2.2.2.2.1, v11.2.2.2.2.2.2.2.2.2.2.2.2.2.1, v11.2.2.2.2.2.2.2.2.2.2.2.2.2.2.2.1, v11.2.2.2.2.2.2.2.2.2.2.2.2.2.2.2.2.1, v11.2.2.2.2.2.2.2.2.2.2.2.2.2.2.2.2.2.1, v11.2.2.2.2.2.2.2.2.2.2.2.2.2.2.2.2.2.2.1, v11.2.2.2.2.2.2.2.2.2.2.2.2.2.2.2.2.2.2.2.1, ()), ())
 else
  chk (decide (((List.length v11.2.2.2.2.2.2.2.2.2.2.2.2.2.2.2.2.2.1) + 1) * 32 ≤ 140737488355328) && decide ((List.length v11.2.2.2.2.2.2.2.2.2.2.2.2.2.2.2.2.2.1) + 1 ≤ maxLen)) <|
  bif v11.2.1 then
   Option.bind (bill_sheet_bring ((v11.2.2.2.2.1, v11.2.2.2.2.2.1, v11.2.2.2.2.2.2.1, v11.2.2.2.2.2.2.2.1, v11.2.2.2.2.2.2.2.2.1, v11.2.2.2.2.2.2.2.2.2.1, v11.2.2.2.2.2.2.2.2.2.2.1, v11.2.2.2.2.2.2.2.2.2.2.2.1, v11.2.2.2.2.2.2.2.2.2.2.2.2.1), v11.2.2.2.2.2.2.2.2.2.2.2.2.2.2.1, v11.2.2.2.2.2.2.2.2.2.2.2.2.2.1, v11.2.2.2.2.2.2.2.2.2.2.2.2.2.2.2.1, v11.2.2.2.2.2.2.2.2.2.2.2.2.2.2.2.2.1, v11.2.2.2.2.2.2.2.2.2.2.2.2.2.2.2.2.2.1 ++ [(v11.2.2.1, v11.2.2.2.1)], v11.2.2.2.2.2.2.2.2.2.2.2.2.2.2.2.2.2.2.1, v11.2.2.2.2.2.2.2.2.2.2.2.2.2.2.2.2.2.2.2.1, ()) v11.1 (v11.2.2.1, v11.2.2.2.1)) fun r13 =>
   chk (decide (0 ≤ v11.1) && decide (v11.1 < (List.length r13.1.2.2.2.2.2.2.1 : Int))) <|
   Option.bind (r13.1.2.2.2.2.2.2.1[v11.1.toNat]?) fun _ =>
   Option.bind (slices_ContainsFunc_whole_Int_b r13.1.2.2.2.1 ()) fun r15 =>
   bif r15.1 then
    some (1, (r13.1.1, r13.1.2.1, r13.1.2.2.1, r13.1.2.2.2.1, r13.1.2.2.2.2.1, r13.1.2.2.2.2.2.1, List.set r13.1.2.2.2.2.2.2.1 v11.1.toNat true, r13.1.2.2.2.2.2.2.2.1, ()), ())
   else
    some (0, (r13.1.1, r13.1.2.1, r13.1.2.2.1, r13.1.2.2.2.1, r13.1.2.2.2.2.1, r13.1.2.2.2.2.2.1, List.set r13.1.2.2.2.2.2.2.1 v11.1.toNat true, r13.1.2.2.2.2.2.2.2.1, ()), ())
  else
   Option.bind (bill_sheet_divide ((v11.2.2.2.2.1, v11.2.2.2.2.2.1, v11.2.2.2.2.2.2.1, v11.2.2.2.2.2.2.2.1, v11.2.2.2.2.2.2.2.2.1, v11.2.2.2.2.2.2.2.2.2.1, v11.2.2.2.2.2.2.2.2.2.2.1, v11.2.2.2.2.2.2.2.2.2.2.2.1, v11.2.2.2.2.2.2.2.2.2.2.2.2.1), v11.2.2.2.2.2.2.2.2.2.2.2.2.2.2.1, v11.2.2.2.2.2.2.2.2.2.2.2.2.2.1, v11.2.2.2.2.2.2.2.2.2.2.2.2.2.2.2.1, v11.2.2.2.2.2.2.2.2.2.2.2.2.2.2.2.2.1, v11.2.2.2.2.2.2.2.2.2.2.2.2.2.2.2.2.2.1 ++ [(v11.2.2.1, v11.2.2.2.1)], v11.2.2.2.2.2.2.2.2.2.2.2.2.2.2.2.2.2.2.1, v11.2.2.2.2.2.2.2.2.2.2.2.2.2.2.2.2.2.2.2.1, ()) (v11.2.2.1, v11.2.2.2.1)) fun r16 =>
   bif r16.1 != 0 then
    some (r16.1, (r16.2.1.1, r16.2.1.2.1, r16.2.1.2.2.1, r16.2.1.2.2.2.1, r16.2.1.2.2.2.2.1, r16.2.1.2.2.2.2.2.1, r16.2.1.2.2.2.2.2.2.1, r16.2.1.2.2.2.2.2.2.2.1, ()), ())
   else
    Option.bind (slices_ContainsFunc_whole_Int_b r16.2.1.2.2.2.1 ()) fun r17 =>
    bif r17.1 then
     some (1, (r16.2.1.1, r16.2.1.2.1, r16.2.1.2.2.1, r16.2.1.2.2.2.1, r16.2.1.2.2.2.2.1, r16.2.1.2.2.2.2.2.1, r16.2.1.2.2.2.2.2.2.1, r16.2.1.2.2.2.2.2.2.2.1, ()), ())
    else
     some (0, (r16.2.1.1, r16.2.1.2.1, r16.2.1.2.2.1, r16.2.1.2.2.2.1, r16.2.1.2.2.2.2.1, r16.2.1.2.2.2.2.2.1, r16.2.1.2.2.2.2.2.2.1, r16.2.1.2.2.2.2.2.2.2.1, ()), ())

def extraTail (v11 : (Int × Bool × Bool × (List Int) × (List UInt8) × (List UInt8) × Int × Int × Int × Bool × (List D_api_Rate) × (List D_api_BillLine) × (List D_api_Extra) × (List D_whole_Int) × (List D_whole_Int) × (List D_whole_Int) × (List D_bill_share) × (List D_whole_Int) × (List Bool) × (List D_whole_Int) × Unit)) : Option (Int × (D_api_Invoice × (List D_whole_Int) × (List D_whole_Int) × (List D_whole_Int) × (List D_bill_share) × (List D_whole_Int) × (List Bool) × (List D_whole_Int) × Unit) × Unit) :=
 Option.bind (bill_fits (v11.2.2.1, v11.2.2.2.1)) fun r12 =>
 bif !r12.1 then
  some (1, ((v11.2.2.2.2.1, v11.2.2.2.2.2.1, v11.2.2.2.2.2.2.1, v11.2.2.2.2.2.2.2.1, v11.2.2.2.2.2.2.2.2.1, v11.2.2.2.2.2.2.2.2.2.1, v11.2.2.2.2.2.2.2.2.2.2.1, v11.2.2.2.2.2.2.2.2.2.2.2.1, v11.2.2.2.2.2.2.2.2.2.2.2.2.1), v11.2.2.2.2.2.2.2.2.2.2.2.2.2.2.1, v11.2.2.2.2.2.2.2.2.2.2.2.2.2.1, v11.2.2.2.2.2.2.2.2.2.2.2.2.2.2.2.1, v11.2.2.2.2.2.2.2.2.2.2.2.2.2.2.2.2.1, v11.2.2.2.2.2.2.2.2.2.2.2.2.2.2.2.2.2.1, v11.2.2.2.2.2.2.2.2.2.2.2.2.2.2.2.2.2.2.1, v11.2.2.2.2.2.2.2.2.2.2.2.2.2.2.2.2.2.2.2.1, ()), ())
 else
  chk (decide (((List.length v11.2.2.2.2.2.2.2.2.2.2.2.2.2.2.2.2.2.1) + 1) * 32 ≤ 140737488355328) && decide ((List.length v11.2.2.2.2.2.2.2.2.2.2.2.2.2.2.2.2.2.1) + 1 ≤ maxLen)) <|
  bif v11.2.1 then
   Option.bind (bill_sheet_bring ((v11.2.2.2.2.1, v11.2.2.2.2.2.1, v11.2.2.2.2.2.2.1, v11.2.2.2.2.2.2.2.1, v11.2.2.2.2.2.2.2.2.1, v11.2.2.2.2.2.2.2.2.2.1, v11.2.2.2.2.2.2.2.2.2.2.1, v11.2.2.2.2.2.2.2.2.2.2.2.1, v11.2.2.2.2.2.2.2.2.2.2.2.2.1), v11.2.2.2.2.2.2.2.2.2.2.2.2.2.2.1, v11.2.2.2.2.2.2.2.2.2.2.2.2.2.1, v11.2.2.2.2.2.2.2.2.2.2.2.2.2.2.2.1, v11.2.2.2.2.2.2.2.2.2.2.2.2.2.2.2.2.1, v11.2.2.2.2.2.2.2.2.2.2.2.2.2.2.2.2.2.1 ++ [(v11.2.2.1, v11.2.2.2.1)], v11.2.2.2.2.2.2.2.2.2.2.2.2.2.2.2.2.2.2.1, v11.2.2.2.2.2.2.2.2.2.2.2.2.2.2.2.2.2.2.2.1, ()) v11.1 (v11.2.2.1, v11.2.2.2.1)) fun r13 =>
   chk (decide (0 ≤ v11.1) && decide (v11.1 < (List.length r13.1.2.2.2.2.2.2.1 : Int))) <|
   Option.bind (r13.1.2.2.2.2.2.2.1[v11.1.toNat]?) fun _ =>
   Option.bind (slices_ContainsFunc_whole_Int_b r13.1.2.2.2.1 ()) fun r15 =>
   bif r15.1 then
    some (1, (r13.1.1, r13.1.2.1, r13.1.2.2.1, r13.1.2.2.2.1, r13.1.2.2.2.2.1, r13.1.2.2.2.2.2.1, List.set r13.1.2.2.2.2.2.2.1 v11.1.toNat true, r13.1.2.2.2.2.2.2.2.1, ()), ())
   else
    some (0, (r13.1.1, r13.1.2.1, r13.1.2.2.1, r13.1.2.2.2.1, r13.1.2.2.2.2.1, r13.1.2.2.2.2.2.1, List.set r13.1.2.2.2.2.2.2.1 v11.1.toNat true, r13.1.2.2.2.2.2.2.2.1, ()), ())
  else
   Option.bind (bill_sheet_divide ((v11.2.2.2.2.1, v11.2.2.2.2.2.1, v11.2.2.2.2.2.2.1, v11.2.2.2.2.2.2.2.1, v11.2.2.2.2.2.2.2.2.1, v11.2.2.2.2.2.2.2.2.2.1, v11.2.2.2.2.2.2.2.2.2.2.1, v11.2.2.2.2.2.2.2.2.2.2.2.1, v11.2.2.2.2.2.2.2.2.2.2.2.2.1), v11.2.2.2.2.2.2.2.2.2.2.2.2.2.2.1, v11.2.2.2.2.2.2.2.2.2.2.2.2.2.1, v11.2.2.2.2.2.2.2.2.2.2.2.2.2.2.2.1, v11.2.2.2.2.2.2.2.2.2.2.2.2.2.2.2.2.1, v11.2.2.2.2.2.2.2.2.2.2.2.2.2.2.2.2.2.1 ++ [(v11.2.2.1, v11.2.2.2.1)], v11.2.2.2.2.2.2.2.2.2.2.2.2.2.2.2.2.2.2.1, v11.2.2.2.2.2.2.2.2.2.2.2.2.2.2.2.2.2.2.2.1, ()) (v11.2.2.1, v11.2.2.2.1)) fun r16 =>
   bif r16.1 != 0 then
    some (r16.1, (r16.2.1.1, r16.2.1.2.1, r16.2.1.2.2.1, r16.2.1.2.2.2.1, r16.2.1.2.2.2.2.1, r16.2.1.2.2.2.2.2.1, r16.2.1.2.2.2.2.2.2.1, r16.2.1.2.2.2.2.2.2.2.1, ()), ())
   else
    Option.bind (slices_ContainsFunc_whole_Int_b r16.2.1.2.2.2.1 ()) fun r17 =>
    bif r17.1 then
     some (1, (r16.2.1.1, r16.2.1.2.1, r16.2.1.2.2.1, r16.2.1.2.2.2.1, r16.2.1.2.2.2.2.1, r16.2.1.2.2.2.2.2.1, r16.2.1.2.2.2.2.2.2.1, r16.2.1.2.2.2.2.2.2.2.1, ()), ())
    else
     some (0, (r16.2.1.1, r16.2.1.2.1, r16.2.1.2.2.1, r16.2.1.2.2.2.1, r16.2.1.2.2.2.2.1, r16.2.1.2.2.2.2.2.1, r16.2.1.2.2.2.2.2.2.1, r16.2.1.2.2.2.2.2.2.2.1, ()), ())


theorem whole_Int_Abs_eq (z : Int) (h : z.natAbs < 4294967296 ^ 99) : whole_Int_Abs (W z) = some (W (z.natAbs : Int), ()) := by
 unfold whole_Int_Abs
 have hl := W_len h
 rw [whole_made_eq _ (W z).2 (dg32_dig _) (by omega)]
 simp only [Option.bind_some, Bool.false_eq_true, if_false]
 congr 3
 simp only [W, v32_dg]
theorem contains_int_eq (zs : List Nat) (hl : zs.length ≤ 1000) : slices_ContainsFunc_int (wI zs) () = some (zs.any fun z => decide (1000000000 < z), ()) := by
 unfold slices_ContainsFunc_int slices_IndexFunc_int
 have loop : ∀ f, zs.length < f → ((zs.any fun z => decide (1000000000 < z)) = false ∧ iter f ((wI zs, (), (zs.length : Int), (0 : Int), ()) : slices_IndexFunc_int_x2) slices_IndexFunc_int_b2 = some (Sum.inr ())) ∨
   ((zs.any fun z => decide (1000000000 < z)) = true ∧ ∃ j : Nat, iter f ((wI zs, (), (zs.length : Int), (0 : Int), ()) : slices_IndexFunc_int_x2) slices_IndexFunc_int_b2 = some (Sum.inl ((j : Int), ()))) := by
  intro f hf
  refine iter_post (Inv := fun i X => X = (wI zs, (), (zs.length : Int), (i : Int), ()) ∧ ((zs.take i).any fun z => decide (1000000000 < z)) = false) zs.length (fun r => ((zs.any fun z => decide (1000000000 < z)) = false ∧ r = some (Sum.inr ())) ∨ ((zs.any fun z => decide (1000000000 < z)) = true ∧ ∃ j : Nat, r = some (Sum.inl ((j : Int), ())))) ?_ ?_ f 0 _ ⟨rfl, rfl⟩ (by omega) (by omega)
  ·rintro i _ again hi ⟨rfl, hal⟩ ih
   unfold slices_IndexFunc_int_b2
   dsimp only
   have hz : zs[i]? = some zs[i] := getElem?_of hi
   generalize zs[i] = z at hz
   rw [bif_pos (by omega), idx_nat, wI_get hz, Option.bind_some]
   unfold bill_sheet_divide_1
   rw [Option.bind_some]
   dsimp only
   by_cases h : (z : Int) > 1000000000
   ·rw [bif_pos h]
    refine .inr ⟨?_, i, rfl⟩
    rw [List.any_eq_true]
    exact ⟨z, List.mem_of_getElem? hz, by rw [decide_eq_true_eq]; omega⟩
   ·rw [bif_neg h, w64_id (by omega) (by omega)]
    refine ih _ ⟨rfl, ?_⟩
    rw [List.take_add_one, hz, List.any_append, hal]
    simp; omega
  ·rintro _ again ⟨rfl, hal⟩
   unfold slices_IndexFunc_int_b2
   dsimp only
   rw [List.take_of_length_le (Nat.le_refl _)] at hal
   rw [bif_neg (by omega)]
   exact .inl ⟨hal, rfl⟩
 rw [wI_len]
 rcases loop (zs.length + (Int.natAbs ((zs.length : Int)) + (Int.natAbs (0 : Int) + 2))) (by omega) with ⟨h, e⟩ | ⟨h, j, e⟩
 ·rw [e, joinB_inr, Option.bind_some, h]; rfl
 ·rw [e, joinB_inl, Option.bind_some, h]
  dsimp only
  rw [decide_eq_true (show (j : Int) ≥ 0 by omega)]

theorem BrOk.snoc {n : Nat} {b : Br} (h : BrOk n b) {k : Nat} {d : Int} (hk : k < n) (hd : (d.natAbs : Int) ≤ MU) : BrOk n (b ++ [(k, d)]) := by
 refine ⟨fun p hp => ?_, fun p hp => ?_⟩
 ·rcases List.mem_append.1 hp with hp | hp
  ·exact h.ix p hp
  ·rw [List.mem_singleton.1 hp]; exact hk
 ·rcases List.mem_append.1 hp with hp | hp
  ·exact h.am p hp
  ·rw [List.mem_singleton.1 hp]; exact hd

theorem bring_eq (v : D_api_Invoice) (nets lines : List Int) {n : Nat} (hn : n ≤ 20) {sh : Br} (hsh : BrOk n sh) (hl : sh.length ≤ 1999) (am : List Int) (has : List Bool) (tx : List Int) {k : Nat} (hk : k < n) {d : Int} (hd : (d.natAbs : Int) ≤ MU) :
  bill_sheet_bring (Bx v nets lines (basesOf n sh) sh am has tx) (k : Int) (W d) = some (Bx v nets lines (basesOf n (sh ++ [(k, d)])) (sh ++ [(k, d)]) am has tx, ()) := by
 unfold bill_sheet_bring Bx
 dsimp only
 have hbm : ((basesOf n sh).map W)[k]? = some (W (atB sh k)) := by rw [List.getElem?_map, basesOf_get _ hk]; rfl
 have hck : (decide (0 ≤ (k : Int)) && decide ((k : Int) < (((basesOf n sh).map W).length : Int))) = true := by
  rw [List.length_map, basesOf_len]; simp only [Bool.and_eq_true, decide_eq_true_eq]; omega
 rw [chk_pos hck, Int.toNat_natCast, hbm, Option.bind_some, whole_Int_Plus_eq _ _ ((atB_Le hsh (by omega) k).w (by omega)) ((MU_Le hd).w (by omega)), Option.bind_some, chk_pos hck, Option.bind_some, chk_pos (chk_app (by simp; omega) (by simp; omega))]
 dsimp only
 rw [← List.map_set, basesOf_set, List.map_append]
 rfl

theorem div_weights {v : D_api_Invoice} {lines : List Int} (hl : lines.length ≤ 20) (hal : allAm lines = true) (a : D_whole_Int) (N L B : List D_whole_Int) (S : List D_bill_share) (A : List D_whole_Int) (H : List Bool) (T : List D_whole_Int) (f : Nat) (hf : lines.length < f) :
  iter f (([], false, lines.map W, (lines.length : Int), (0 : Int), a.1, a.2, v.1, v.2.1, v.2.2.1, v.2.2.2.1, v.2.2.2.2.1, v.2.2.2.2.2.1, v.2.2.2.2.2.2.1, v.2.2.2.2.2.2.2.1, v.2.2.2.2.2.2.2.2, N, L, B, S, A, H, T, ()) : bill_sheet_divide_x4) bill_sheet_divide_b4 =
   some (Sum.inr (wI (lines.map Int.natAbs), !(lines.all fun b => b == 0), a.1, a.2, v.1, v.2.1, v.2.2.1, v.2.2.2.1, v.2.2.2.2.1, v.2.2.2.2.2.1, v.2.2.2.2.2.2.1, v.2.2.2.2.2.2.2.1, v.2.2.2.2.2.2.2.2, N, L, B, S, A, H, T, ())) := by
 refine iter_post (Inv := fun i X => X = ((wI ((lines.take i).map Int.natAbs), !((lines.take i).all fun b => b == 0), lines.map W, (lines.length : Int), (i : Int), a.1, a.2, v.1, v.2.1, v.2.2.1, v.2.2.2.1, v.2.2.2.2.1, v.2.2.2.2.2.1, v.2.2.2.2.2.2.1, v.2.2.2.2.2.2.2.1, v.2.2.2.2.2.2.2.2, N, L, B, S, A, H, T, ()) : bill_sheet_divide_x4)) lines.length
  (fun r => r = some (Sum.inr (wI (lines.map Int.natAbs), !(lines.all fun b => b == 0), a.1, a.2, v.1, v.2.1, v.2.2.1, v.2.2.2.1, v.2.2.2.2.1, v.2.2.2.2.2.1, v.2.2.2.2.2.2.1, v.2.2.2.2.2.2.2.1, v.2.2.2.2.2.2.2.2, N, L, B, S, A, H, T, ()))) ?_ ?_ f 0 _ rfl (by omega) (by omega)
 ·rintro i _ again hi rfl ih
  unfold bill_sheet_divide_b4
  dsimp only
  have hz : lines[i]? = some lines[i] := getElem?_of hi
  have hzm : isAm lines[i] = true := List.all_eq_true.1 hal _ (List.getElem_mem hi)
  generalize lines[i] = z at hz hzm
  have hzb : (z.natAbs : Int) ≤ MU := by unfold isAm at hzm; exact of_decide_eq_true hzm
  have hMU := MU_eq
  have hw := MU_Le hzb
  rw [bif_pos (by omega), idx_nat, List.getElem?_map, hz, Option.map_some, Option.bind_some, whole_Int_Abs_eq _ (hw.w (by omega)), Option.bind_some]
  dsimp only
  rw [whole_Int_Int_eq _ _ (by omega) (by omega), Option.bind_some, if_pos (by omega)]
  dsimp only
  rw [chk_pos (chk_app (by rw [wI_len]; simp; omega) (by rw [wI_len]; simp; omega)), w64_id (by omega) (by omega)]
  have e1 : wI ((lines.take i).map Int.natAbs) ++ [(z.natAbs : Int)] = wI ((lines.take (i + 1)).map Int.natAbs) := by
   rw [List.take_add_one, hz, List.map_append]
   unfold wI
   rw [List.map_append]
   rfl
  have e2 : ((lines.take (i + 1)).all fun b => b == 0) = (((lines.take i).all fun b => b == 0) && (z == 0)) := by
   rw [List.take_add_one, hz, List.all_append]; simp
  have := ih _ rfl
  rw [← e1, e2] at this
  cases hx : ((lines.take i).all fun b => b == 0) with
  | false => rw [hx] at this; exact this
  | true =>
   rw [hx, Bool.true_and] at this
   rw [Bool.not_true, cond_false]
   have e3 : decide ((z.natAbs : Int) > 0) = !(z == 0) := by
    by_cases h : z = 0
    ·subst h; rfl
    ·rw [decide_eq_true (by omega), show (z == 0) = false by simpa using h]; rfl
   rw [e3]; exact this
 ·rintro _ again rfl
  unfold bill_sheet_divide_b4
  dsimp only
  rw [bif_neg (by omega), List.take_of_length_le (Nat.le_refl _)]

theorem div_shares {v : D_api_Invoice} {nets lines am tx : List Int} {n : Nat} (hn : n ≤ 20) {sh : Br} (hsh : BrOk n sh) (hl : sh.length ≤ 1900) (fl : List Nat) {xs : List Int} {pl : Int} (hxl : xs.length = n) (hxs : ∀ x ∈ xs, (x.natAbs : Int) ≤ MU) (f : Nat) (hf : xs.length < f) :
  iter f ((xs.map (fun x => (x, pl)), (xs.length : Int), (0 : Int), v.1, v.2.1, v.2.2.1, v.2.2.2.1, v.2.2.2.2.1, v.2.2.2.2.2.1, v.2.2.2.2.2.2.1, v.2.2.2.2.2.2.2.1, v.2.2.2.2.2.2.2.2, nets.map W, lines.map W, (basesOf n sh).map W, sh.map shW, am.map W, hasL n fl, tx.map W, ()) : bill_sheet_divide_x21) bill_sheet_divide_b21 =
   some (Sum.inr (v.1, v.2.1, v.2.2.1, v.2.2.2.1, v.2.2.2.2.1, v.2.2.2.2.2.1, v.2.2.2.2.2.2.1, v.2.2.2.2.2.2.2.1, v.2.2.2.2.2.2.2.2, nets.map W, lines.map W, (basesOf n (sh ++ nzBr 0 xs)).map W, (sh ++ nzBr 0 xs).map shW, am.map W, hasL n (fl ++ (nzBr 0 xs).map (·.1)), tx.map W, ())) := by
 have nz_snoc : ∀ (l : List Int) (k : Nat) (x : Int), nzBr k (l ++ [x]) = nzBr k l ++ (if x = 0 then [] else [(k + l.length, x)]) := by
  intro l
  induction l with
  | nil => intro k x; simp [nzBr]
  | cons y l ih =>
   intro k x
   simp only [List.cons_append, nzBr, ih (k + 1) x, List.length_cons]
   rw [show k + 1 + l.length = k + (l.length + 1) by omega]
   split <;> simp
 have nz_len : ∀ (l : List Int) (k : Nat), (nzBr k l).length ≤ l.length := by
  intro l
  induction l with
  | nil => intro k; simp [nzBr]
  | cons y l ih =>
   intro k
   have := ih (k + 1)
   simp only [nzBr]
   split <;> simp <;> omega
 refine iter_post (Inv := fun i X => BrOk n (sh ++ nzBr 0 (xs.take i)) ∧ X = ((xs.map (fun x => (x, pl)), (xs.length : Int), (i : Int), v.1, v.2.1, v.2.2.1, v.2.2.2.1, v.2.2.2.2.1, v.2.2.2.2.2.1, v.2.2.2.2.2.2.1, v.2.2.2.2.2.2.2.1, v.2.2.2.2.2.2.2.2, nets.map W, lines.map W, (basesOf n (sh ++ nzBr 0 (xs.take i))).map W, (sh ++ nzBr 0 (xs.take i)).map shW, am.map W, hasL n (fl ++ (nzBr 0 (xs.take i)).map (·.1)), tx.map W, ()) : bill_sheet_divide_x21)) xs.length
  (fun r => r = some (Sum.inr (v.1, v.2.1, v.2.2.1, v.2.2.2.1, v.2.2.2.2.1, v.2.2.2.2.2.1, v.2.2.2.2.2.2.1, v.2.2.2.2.2.2.2.1, v.2.2.2.2.2.2.2.2, nets.map W, lines.map W, (basesOf n (sh ++ nzBr 0 xs)).map W, (sh ++ nzBr 0 xs).map shW, am.map W, hasL n (fl ++ (nzBr 0 xs).map (·.1)), tx.map W, ()))) ?_ ?_ f 0 _ ⟨by simpa [nzBr] using hsh, by simp [nzBr]⟩ (by omega) (by omega)
 ·rintro i _ again hi ⟨hok, rfl⟩ ih
  unfold bill_sheet_divide_b21
  dsimp only
  have hx : xs[i]? = some xs[i] := getElem?_of hi
  have hxm := hxs _ (List.getElem_mem hi)
  generalize xs[i] = x at hx hxm
  have hMU := MU_eq
  have hbl := nz_len (xs.take i) 0
  rw [List.length_take] at hbl
  have hsl : (sh ++ nzBr 0 (xs.take i)).length ≤ 1999 := by rw [List.length_append]; omega
  have hnext := nz_snoc (xs.take i) 0 x
  have htk : xs.take (i + 1) = xs.take i ++ [x] := by rw [List.take_add_one, hx]; rfl
  have hlt : (xs.take i).length = i := by rw [List.length_take]; omega
  rw [← htk, hlt, Nat.zero_add] at hnext
  rw [bif_pos (by omega), idx_nat, List.getElem?_map, hx, Option.map_some, Option.bind_some]
  dsimp only
  have hin : i < n := by omega
  by_cases h0 : x = 0
  ·rw [if_pos h0, List.append_nil] at hnext
   rw [show (x != 0) = false by simpa using h0, cond_false, w64_id (by omega) (by omega)]
   refine ih _ ⟨by rw [hnext]; exact hok, by rw [hnext]; rfl⟩
  ·rw [if_neg h0] at hnext
   have hb := bring_eq v nets lines hn hok hsl am (hasL n (fl ++ (nzBr 0 (xs.take i)).map (·.1))) tx hin hxm
   unfold Bx at hb
   rw [show (x != 0) = true by simpa using h0, cond_true, whole_Of_eq _ (by omega) (by omega), Option.bind_some]
   dsimp only
   rw [show (v.1, v.2.1, v.2.2.1, v.2.2.2.1, v.2.2.2.2.1, v.2.2.2.2.2.1, v.2.2.2.2.2.2.1, v.2.2.2.2.2.2.2.1, v.2.2.2.2.2.2.2.2) = v from rfl, hb, Option.bind_some]
   dsimp only
   rw [chk_pos (by rw [hasL_len]; simp only [Bool.and_eq_true, decide_eq_true_eq]; omega), Int.toNat_natCast, hasL_get _ hin, Option.bind_some, w64_id (by omega) (by omega), hasL_set]
   refine ih _ ⟨by rw [hnext, ← List.append_assoc]; exact hok.snoc hin hxm, ?_⟩
   rw [hnext]
   simp only [List.append_assoc, List.map_append, List.map_cons, List.map_nil]
   rfl
 ·rintro _ again ⟨_, rfl⟩
  unfold bill_sheet_divide_b21
  dsimp only
  rw [bif_neg (by omega), List.take_of_length_le (Nat.le_refl _)]

end Go.Md

namespace Go.Md
open Go.Dn

theorem rnd_zero {way : Int} {b : Nat} (hb : 0 < b) : rnd way 0 b = 0 := by
 unfold rnd rndUp
 simp only [Int.natAbs_zero, Nat.zero_div, Nat.zero_mod, Int.lt_irrefl, decide_false, Bool.not_false, Bool.true_and, Bool.false_and, Nat.lt_irrefl]
 have h1 : ¬ b ≤ 2 * 0 := by omega
 have h2 : ¬ (b < 2 * 0 ∨ (2 * 0 = b ∧ 0 % 2 = 1)) := by omega
 simp [h1]
theorem abs_sum_pos : ∀ {l : List Int}, (l.all fun b => b == 0) = false → 0 < (l.map Int.natAbs).sum
 | [], h => by simp at h
 | x :: l, h => by
  by_cases hx : x = 0
  ·subst hx
   have := abs_sum_pos (l := l) (by simpa using h)
   simp only [List.map_cons, List.sum_cons]; omega
  ·simp only [List.map_cons, List.sum_cons]; omega
theorem pctK_ok {v : D_api_Invoice} (hv : InvOk v) (k : Nat) : DecOk (pctK v k) := by
 unfold pctK
 rw [List.getD_eq_getElem?_getD]
 cases h : (vRates v)[k]? with
 | none => exact ⟨by simp, by simp, by simp⟩
 | some r =>
  have := hv.rates r (List.mem_of_getElem? h)
  unfold inR at this
  rw [decide_eq_true_eq] at this
  exact this.1
end Go.Md

namespace Go.Md
open Go.Dn

theorem hasL_dup {n k : Nat} {fl : List Nat} (h : fl.contains k = true) : hasL n (fl ++ [k]) = hasL n fl := by
 unfold hasL
 apply List.map_congr_left
 intro i _
 by_cases e : i = k
 ·subst e; rw [h]; simp
 ·simp [e]
theorem hasL_same {n k : Nat} {fl : List Nat} (hk : k < n) (h : fl.contains k = false) : (hasL n fl).set k false = hasL n fl := by
 apply List.ext_getElem?
 intro i
 by_cases e : k = i
 ·subst e
  rw [List.getElem?_set_self (by rw [hasL_len]; exact hk), hasL_get _ hk, h]
 ·rw [List.getElem?_set_ne e]
theorem any_abs (lines : List Int) : ((lines.map Int.natAbs).any fun z => decide (1000000000 < z)) = lines.any fun b => decide (MW < b.natAbs) := by
 rw [List.any_map]; rfl
theorem isAm_iff {d : Int} : isAm d = true ↔ (d.natAbs : Int) ≤ MU := by unfold isAm; rw [decide_eq_true_eq]

theorem divide_eq {v : D_api_Invoice} (hv : InvOk v) (nets am tx : List Int) {n : Nat} (hn0 : 0 < n) (hn : n ≤ 20) {lines : List Int} (hll : lines.length = n) (hal : allAm lines = true) {sh : Br} (hsh : BrOk n sh) (hl : sh.length ≤ 1900) (fl : List Nat) {d : Int} (hd : (d.natAbs : Int) ≤ MU) :
  (∃ p g, bringG none d lines = .inr (d, p, g) ∧ BrOk n (sh ++ p) ∧ p.length ≤ 20 ∧ bill_sheet_divide (Bx v nets lines (basesOf n sh) sh am (hasL n fl) tx) (W d) = some (0, Bx v nets lines (basesOf n (sh ++ p)) (sh ++ p) am (hasL n (fl ++ g)) tx, ())) ∨
  (bringG none d lines = .inl 2 ∧ ∃ b, bill_sheet_divide (Bx v nets lines (basesOf n sh) sh am (hasL n fl) tx) (W d) = some (2, b, ())) := by
 have hpl := hv.pl
 have hMU := MU_eq
 have hb : bill_sheet_divide (Bx v nets lines (basesOf n sh) sh am (hasL n fl) tx) (W d) = divRest (wI (lines.map Int.natAbs), !(lines.all fun b => b == 0), (W d).1, (W d).2, v.1, v.2.1, v.2.2.1, v.2.2.2.1, v.2.2.2.2.1, v.2.2.2.2.2.1, v.2.2.2.2.2.2.1, v.2.2.2.2.2.2.2.1, v.2.2.2.2.2.2.2.2, lines.map W, nets.map W, (basesOf n sh).map W, sh.map shW, am.map W, hasL n fl, tx.map W, ()) := by
  unfold bill_sheet_divide Bx
  dsimp only
  rw [List.length_map, div_weights (v := v) (by omega) hal (W d) (lines.map W) (nets.map W) ((basesOf n sh).map W) (sh.map shW) (am.map W) (hasL n fl) (tx.map W) _ ?_, joinB_inr]
  ·rfl
  ·simp; omega
 rw [hb]
 have him : isAm d = true := isAm_iff.2 hd
 unfold divRest bringG
 rw [him, cond_true]
 dsimp only
 cases hz : (lines.all fun b => b == 0) with
 | true =>
  rw [Bool.not_true, Bool.not_false, cond_true, cond_true]
  refine .inl ⟨[(0, d)], bif d == 0 then [] else [0], rfl, hsh.snoc hn0 hd, by simp, ?_⟩
  have hbr : bill_sheet_bring (Bx v nets lines (basesOf n sh) sh am (hasL n fl) tx) 0 (W d) = some (Bx v nets lines (basesOf n (sh ++ [(0, d)])) (sh ++ [(0, d)]) am (hasL n fl) tx, ()) := bring_eq v nets lines hn hsh (by omega) am (hasL n fl) tx (k := 0) hn0 hd
  unfold Bx at hbr ⊢
  rw [show (v.1, v.2.1, v.2.2.1, v.2.2.2.1, v.2.2.2.2.1, v.2.2.2.2.2.1, v.2.2.2.2.2.2.1, v.2.2.2.2.2.2.2.1, v.2.2.2.2.2.2.2.2) = v from rfl, show ((W d).1, (W d).2) = W d from rfl, hbr, Option.bind_some]
  dsimp only
  have hg0 : (hasL n fl)[0]? = some (fl.contains 0) := hasL_get _ hn0
  rw [chk_pos (by rw [hasL_len]; simp only [Bool.and_eq_true, decide_eq_true_eq]; omega), hg0, Option.bind_some]
  cases hc : fl.contains 0 with
  | true =>
   rw [cond_true, chk_pos (by rw [hasL_len]; simp only [Bool.and_eq_true, decide_eq_true_eq]; omega), Option.bind_some, hasL_set, hasL_dup hc]
   cases hd0 : d == 0 with
   | true => rw [cond_true, List.append_nil]
   | false => rw [cond_false, hasL_dup hc]
  | false =>
   rw [cond_false, whole_Int_Sign_eq, Option.bind_some, chk_pos (by rw [hasL_len]; simp only [Bool.and_eq_true, decide_eq_true_eq]; omega), Option.bind_some]
   dsimp only
   by_cases hd0 : d = 0
   ·subst hd0
    rw [show ((Int.sign 0) != 0) = false from rfl, hasL_same hn0 hc, show ((0 : Int) == 0) = true from rfl, cond_true, List.append_nil]
   ·have hs : (d.sign != 0) = true := by
     have := mt Int.sign_eq_zero_iff_zero.1 hd0
     simpa using this
    rw [hs, hasL_set, show (d == 0) = false by simpa using hd0, cond_false]
 | false =>
  rw [Bool.not_false, Bool.not_true, cond_false, cond_false, contains_int_eq _ (by simp; omega), Option.bind_some, any_abs]
  dsimp only
  cases hw : (lines.any fun b => decide (MW < b.natAbs)) with
  | true => rw [cond_true, cond_true]; exact .inr ⟨rfl, _, rfl⟩
  | false =>
   rw [cond_false, cond_false, show ((W d).1, (W d).2) = W d from rfl, amount_Made_eq, Option.bind_some, if_pos (by omega)]
   dsimp only
   have hws : WtsOk (lines.map Int.natAbs) := by
    refine ⟨by simp; omega, fun w hwm => ?_, abs_sum_pos hz⟩
    have := hw
    rw [← any_abs, List.any_eq_false] at this
    have h1 := this w hwm
    simpa using h1
   rw [amount_Shares_eq d v.2.2.2.1 (by omega) (by omega) _ hws, Option.bind_some]
   dsimp only
   rw [show ((0 : Int) != 0) = false from rfl, cond_false]
   have hxl : (sharesZ d (lines.map Int.natAbs)).length = n := by rw [sharesZ_len, List.length_map, hll]
   have hxs : ∀ x ∈ sharesZ d (lines.map Int.natAbs), (x.natAbs : Int) ≤ MU := fun x hx => by
    have := sharesZ_le (n := d) hws.pos hx
    omega
   have hmem := nzBr_mem (sharesZ d (lines.map Int.natAbs)) 0
   have hlenz : (nzBr 0 (sharesZ d (lines.map Int.natAbs))).length ≤ 20 := by
    have nz_len : ∀ (l : List Int) (k : Nat), (nzBr k l).length ≤ l.length := by
     intro l
     induction l with
     | nil => intro k; simp [nzBr]
     | cons y l ih =>
      intro k
      have := ih (k + 1)
      simp only [nzBr]
      split <;> simp <;> omega
    have := nz_len (sharesZ d (lines.map Int.natAbs)) 0
    omega
   refine .inl ⟨_, _, rfl, ⟨fun p hp => ?_, fun p hp => ?_⟩, hlenz, ?_⟩
   ·rcases List.mem_append.1 hp with hp | hp
    ·exact hsh.ix p hp
    ·have := (hmem p hp).2.1; omega
   ·rcases List.mem_append.1 hp with hp | hp
    ·exact hsh.am p hp
    ·exact hxs _ (hmem p hp).2.2.1
   ·rw [List.length_map, div_shares (v := v) (nets := nets) (lines := lines) (am := am) (tx := tx) hn hsh hl fl (pl := v.2.2.2.1) hxl hxs _ ?_, joinB_inr]
    ·rfl
    ·simp; omega

theorem extraTail_eq {v : D_api_Invoice} (hv : InvOk v) (nets : List Int) (am tx : List Int) {n : Nat} (hn0 : 0 < n) (hn : n ≤ 20) {lines : List Int} (hll : lines.length = n) (hal : allAm lines = true) {sh : Br} (hsh : BrOk n sh) (hl : sh.length ≤ 1900) (hal2 : am.length ≤ 1000) (fl : List Nat)
  (o : Option Nat) (k : Nat) (ho : ∀ k', o = some k' → k = k' ∧ k' < n) (d : Int) :
  (∃ p g, bringG o d lines = .inr (d, p, g) ∧ BrOk n (sh ++ p) ∧ p.length ≤ 20 ∧ extraTail ((k : Int), o.isSome, (W d).1, (W d).2, v.1, v.2.1, v.2.2.1, v.2.2.2.1, v.2.2.2.2.1, v.2.2.2.2.2.1, v.2.2.2.2.2.2.1, v.2.2.2.2.2.2.2.1, v.2.2.2.2.2.2.2.2, lines.map W, nets.map W, (basesOf n sh).map W, sh.map shW, am.map W, hasL n fl, tx.map W, ()) =
   some (bif allAm (basesOf n (sh ++ p)) then 0 else 1, Bx v nets lines (basesOf n (sh ++ p)) (sh ++ p) (am ++ [d]) (hasL n (fl ++ g)) tx, ())) ∨
  (∃ f b, f ≠ 0 ∧ bringG o d lines = .inl f ∧ extraTail ((k : Int), o.isSome, (W d).1, (W d).2, v.1, v.2.1, v.2.2.1, v.2.2.2.1, v.2.2.2.2.1, v.2.2.2.2.2.1, v.2.2.2.2.2.2.1, v.2.2.2.2.2.2.2.1, v.2.2.2.2.2.2.2.2, lines.map W, nets.map W, (basesOf n sh).map W, sh.map shW, am.map W, hasL n fl, tx.map W, ()) = some (f, b, ())) := by
 unfold extraTail
 dsimp only
 rw [show ((W d).1, (W d).2) = W d from rfl, isAm_fits, Option.bind_some]
 dsimp only
 cases him : isAm d with
 | false =>
  refine .inr ⟨1, _, by omega, ?_, rfl⟩
  unfold bringG; rw [him]; rfl
 | true =>
  have hd := isAm_iff.1 him
  rw [Bool.not_true, cond_false, chk_pos (chk_app (by simp; omega) (by simp; omega))]
  rw [show (v.1, v.2.1, v.2.2.1, v.2.2.2.1, v.2.2.2.2.1, v.2.2.2.2.2.1, v.2.2.2.2.2.2.1, v.2.2.2.2.2.2.2.1, v.2.2.2.2.2.2.2.2) = v from rfl, show am.map W ++ [W d] = (am ++ [d]).map W by simp]
  cases o with
  | some k' =>
   obtain ⟨rfl, hk⟩ := ho k' rfl
   have hb := bring_eq v nets lines hn hsh (by omega) (am ++ [d]) (hasL n fl) tx hk hd
   unfold Bx at hb
   rw [Option.isSome_some, cond_true, hb, Option.bind_some]
   dsimp only
   rw [chk_pos (by rw [hasL_len]; simp only [Bool.and_eq_true, decide_eq_true_eq]; omega), Int.toNat_natCast, hasL_get _ hk, Option.bind_some, contains_eq_b _ (by rw [basesOf_len]; omega), Option.bind_some, hasL_set]
   dsimp only
   refine .inl ⟨[(k, d)], [k], by unfold bringG; rw [him]; rfl, hsh.snoc hk hd, by simp, ?_⟩
   unfold Bx
   cases allAm (basesOf n (sh ++ [(k, d)])) <;> rfl
  | none =>
   rw [Option.isSome_none, cond_false]
   rcases divide_eq hv nets (am ++ [d]) tx hn0 hn hll hal hsh hl fl hd with ⟨p, g, h1, h2, h3, h4⟩ | ⟨h1, b, h4⟩
   ·unfold Bx at h4
    rw [h4, Option.bind_some]
    dsimp only
    rw [show ((0 : Int) != 0) = false from rfl, cond_false, contains_eq_b _ (by rw [basesOf_len]; omega), Option.bind_some]
    dsimp only
    refine .inl ⟨p, g, h1, h2, h3, ?_⟩
    unfold Bx
    cases allAm (basesOf n (sh ++ p)) <;> rfl
   ·unfold Bx at h4
    rw [h4, Option.bind_some]
    exact .inr ⟨2, _, by omega, h1, rfl⟩

end Go.Md

namespace Go.Md
open Go.Dn

theorem extraRest_eq {v : D_api_Invoice} (hv : InvOk v) {x : D_api_Extra} (hx : ExtOk (vPl v) x) (nb : Bool) (k : Int) {g : Int} (hg : Le 40 g) (L N B : List D_whole_Int) (S : List D_bill_share) (A : List D_whole_Int) (H : List Bool) (T : List D_whole_Int) :
  extraRest (k, nb, x.1, x.2.1.1, x.2.1.2, x.2.2, (W g).1, (W g).2, v.1, v.2.1, v.2.2.1, v.2.2.2.1, v.2.2.2.2.1, v.2.2.2.2.2.1, v.2.2.2.2.2.2.1, v.2.2.2.2.2.2.2.1, v.2.2.2.2.2.2.2.2, L, N, B, S, A, H, T, ()) =
   extraTail (k, nb, (W (amtZ (vWay v) (vPl v) g x)).1, (W (amtZ (vWay v) (vPl v) g x)).2, v.1, v.2.1, v.2.2.1, v.2.2.2.1, v.2.2.2.2.1, v.2.2.2.2.2.1, v.2.2.2.2.2.2.1, v.2.2.2.2.2.2.2.1, v.2.2.2.2.2.2.2.2, L, N, B, S, A, H, T, ()) := by
 have hpl := hv.pl
 have hd1 := hx.dec.1; have hd2 := hx.dec.2
 unfold extraRest
 dsimp only
 have hmx : (if x.2.1.2 > v.2.2.2.1 then x.2.1.2 else v.2.2.2.1) = max v.2.2.2.1 x.2.1.2 := by omega
 rw [hmx, show (x.2.1.1, x.2.1.2) = x.2.1 from rfl, amount_Scaled_eq _ _ (by omega) (by omega) (by omega) (by omega) (by omega), Option.bind_some]
 dsimp only
 cases hp : x.1 with
 | true =>
  rw [cond_true, show (v.1, v.2.1, v.2.2.1, v.2.2.2.1, v.2.2.2.2.1, v.2.2.2.2.2.1, v.2.2.2.2.2.2.1, v.2.2.2.2.2.2.2.1, v.2.2.2.2.2.2.2.2) = v from rfl, show ((W g).1, (W g).2) = W g from rfl, bill_part_eq v g _ hx.dec (hg.mono (by omega)), Option.bind_some, joinB_inr]
  unfold amtZ
  rw [hp, if_pos rfl]
  rfl
 | false =>
  have hpp : x.2.1.2 ≤ v.2.2.2.1 := hx.place hp
  rw [cond_false, joinB_inr, show max v.2.2.2.1 x.2.1.2 = v.2.2.2.1 by omega]
  unfold amtZ
  rw [hp, if_neg (by simp)]
  rfl

theorem sumI_take_succ {l : List Int} {i : Nat} {x : Int} (h : l[i]? = some x) : (l.take (i + 1)).sum = (l.take i).sum + x := by
 rw [List.take_add_one, h, List.sum_append]; simp
theorem sum_am_Le {l : List Int} (hl : l.length ≤ 1000) (h : allAm l = true) : Le 19 l.sum := by
 have key : ∀ l : List Int, allAm l = true → l.sum.natAbs ≤ l.length * 1000000000000000 := by
  intro l
  induction l with
  | nil => intro _; simp
  | cons x l ih =>
   intro h
   unfold allAm at h ih
   simp only [List.all_cons, Bool.and_eq_true] at h
   have h1 := ih h.2
   have h2 := isAm_iff.1 h.1
   have := MU_eq
   simp only [List.sum_cons, List.length_cons, Nat.add_mul, Nat.one_mul]
   omega
 have h1 := key l h
 have h2 : l.length * 1000000000000000 ≤ 1000 * 1000000000000000 := Nat.mul_le_mul_right _ hl
 exact Le.int (by omega) (by omega)
theorem allAm_take {l : List Int} (h : allAm l = true) (i : Nat) : allAm (l.take i) = true := by
 unfold allAm at *
 rw [List.all_eq_true] at *
 exact fun x hx => h x (List.mem_of_mem_take hx)

theorem extra_sum {v : D_api_Invoice} (x : D_api_Extra) (k : Int) {lines : List Int} (hl : lines.length ≤ 1000) (hal : allAm lines = true) (L N B : List D_whole_Int) (S : List D_bill_share) (A : List D_whole_Int) (H : List Bool) (T : List D_whole_Int) (f : Nat) (hf : lines.length < f) :
  iter f ((k, false, lines.map W, (lines.length : Int), (0 : Int), x.1, x.2.1.1, x.2.1.2, x.2.2, (W 0).1, (W 0).2, v.1, v.2.1, v.2.2.1, v.2.2.2.1, v.2.2.2.2.1, v.2.2.2.2.2.1, v.2.2.2.2.2.2.1, v.2.2.2.2.2.2.2.1, v.2.2.2.2.2.2.2.2, L, N, B, S, A, H, T, ()) : bill_sheet_extra_x6) bill_sheet_extra_b6 =
   some (Sum.inr (k, false, x.1, x.2.1.1, x.2.1.2, x.2.2, (W lines.sum).1, (W lines.sum).2, v.1, v.2.1, v.2.2.1, v.2.2.2.1, v.2.2.2.2.1, v.2.2.2.2.2.1, v.2.2.2.2.2.2.1, v.2.2.2.2.2.2.2.1, v.2.2.2.2.2.2.2.2, L, N, B, S, A, H, T, ())) := by
 refine iter_post (Inv := fun i X => X = ((k, false, lines.map W, (lines.length : Int), (i : Int), x.1, x.2.1.1, x.2.1.2, x.2.2, (W (lines.take i).sum).1, (W (lines.take i).sum).2, v.1, v.2.1, v.2.2.1, v.2.2.2.1, v.2.2.2.2.1, v.2.2.2.2.2.1, v.2.2.2.2.2.2.1, v.2.2.2.2.2.2.2.1, v.2.2.2.2.2.2.2.2, L, N, B, S, A, H, T, ()) : bill_sheet_extra_x6)) lines.length
  (fun r => r = some (Sum.inr (k, false, x.1, x.2.1.1, x.2.1.2, x.2.2, (W lines.sum).1, (W lines.sum).2, v.1, v.2.1, v.2.2.1, v.2.2.2.1, v.2.2.2.2.1, v.2.2.2.2.2.1, v.2.2.2.2.2.2.1, v.2.2.2.2.2.2.2.1, v.2.2.2.2.2.2.2.2, L, N, B, S, A, H, T, ()))) ?_ ?_ f 0 _ rfl (by omega) (by omega)
 ·rintro i _ again hi rfl ih
  unfold bill_sheet_extra_b6
  dsimp only
  have hz : lines[i]? = some lines[i] := getElem?_of hi
  have hzm : isAm lines[i] = true := List.all_eq_true.1 hal _ (List.getElem_mem hi)
  generalize lines[i] = z at hz hzm
  have h1 := sum_am_Le (l := lines.take i) (by rw [List.length_take]; omega) (allAm_take hal i)
  have h2 := MU_Le (isAm_iff.1 hzm)
  rw [bif_pos (by omega), idx_nat, List.getElem?_map, hz, Option.map_some, Option.bind_some, show ((W (lines.take i).sum).1, (W (lines.take i).sum).2) = W (lines.take i).sum from rfl, whole_Int_Plus_eq _ _ (h1.w (by omega)) (h2.w (by omega)), Option.bind_some, w64_id (by omega) (by omega), ← sumI_take_succ hz]
  exact ih _ rfl
 ·rintro _ again rfl
  unfold bill_sheet_extra_b6
  dsimp only
  rw [bif_neg (by omega), List.take_of_length_le (Nat.le_refl _)]

theorem extra_eq {v : D_api_Invoice} (hv : InvOk v) (nets am tx : List Int) {lines : List Int} (hll : lines.length = (vRates v).length) (hal : allAm lines = true) {sh : Br} (hsh : BrOk (vRates v).length sh) (hl : sh.length ≤ 1900) (hal2 : am.length ≤ 1000) (fl : List Nat) {x : D_api_Extra} (hx : ExtOk (vPl v) x) :
  (∃ d p g, bringF v lines x = .inr (d, p, g) ∧ BrOk (vRates v).length (sh ++ p) ∧ p.length ≤ 20 ∧ bill_sheet_extra (Bx v nets lines (basesOf (vRates v).length sh) sh am (hasL (vRates v).length fl) tx) x =
   some (bif allAm (basesOf (vRates v).length (sh ++ p)) then 0 else 1, Bx v nets lines (basesOf (vRates v).length (sh ++ p)) (sh ++ p) (am ++ [d]) (hasL (vRates v).length (fl ++ g)) tx, ())) ∨
  (∃ f b, f ≠ 0 ∧ bringF v lines x = .inl f ∧ bill_sheet_extra (Bx v nets lines (basesOf (vRates v).length sh) sh am (hasL (vRates v).length fl) tx) x = some (f, b, ())) := by
 have hrn : 0 < (vRates v).length ∧ (vRates v).length ≤ 20 := hv.rn
 obtain ⟨k, hk1, hk2⟩ := bill_rateAt_eq (vRates v) x.2.2 (by omega) hv.asc
 have hg : Le 40 (baseZ v lines x) := by
  unfold baseZ
  cases ho : ixOf (·.1) x.2.2 (vRates v) with
  | some k' =>
   dsimp only
   rw [List.getD_eq_getElem?_getD]
   cases hz : lines[k']? with
   | none => exact (show Le 40 0 by unfold Le; simp)
   | some z => exact (MU_Le (isAm_iff.1 (List.all_eq_true.1 hal _ (List.mem_of_getElem? hz)))).mono (by omega)
  | none => exact (sum_am_Le (by omega) hal).mono (by omega)
 have hred : bill_sheet_extra (Bx v nets lines (basesOf (vRates v).length sh) sh am (hasL (vRates v).length fl) tx) x = extraTail ((k : Int), (ixOf (·.1) x.2.2 (vRates v)).isSome, (W (amtZ (vWay v) (vPl v) (baseZ v lines x) x)).1, (W (amtZ (vWay v) (vPl v) (baseZ v lines x) x)).2, v.1, v.2.1, v.2.2.1, v.2.2.2.1, v.2.2.2.2.1, v.2.2.2.2.2.1, v.2.2.2.2.2.2.1, v.2.2.2.2.2.2.2.1, v.2.2.2.2.2.2.2.2, lines.map W, nets.map W, (basesOf (vRates v).length sh).map W, sh.map shW, am.map W, hasL (vRates v).length fl, tx.map W, ()) := by
  rw [← extraRest_eq hv hx]
  ·unfold bill_sheet_extra Bx
   dsimp only
   rw [whole_Of_eq 0 (by omega) (by omega), Option.bind_some]
   have hk1' : bill_rateAt v.2.2.2.2.2.2.1 x.2.2 = some ((k : Int), (ixOf (·.1) x.2.2 (vRates v)).isSome, ()) := hk1
   rw [hk1', Option.bind_some]
   dsimp only
   cases ho : ixOf (·.1) x.2.2 (vRates v) with
   | some k' =>
    obtain rfl := hk2 k' ho
    obtain ⟨rt, hrt, _⟩ := ixOf_some ho
    have hkl : k < lines.length := by rw [hll]; exact (List.getElem?_eq_some_iff.1 hrt).1
    have hz : lines[k]? = some lines[k] := getElem?_of hkl
    rw [Option.isSome_some, cond_true, idx_nat, List.getElem?_map, hz, Option.map_some, Option.bind_some, joinB_inr]
    have hbase : baseZ v lines x = lines[k] := by
     unfold baseZ; rw [ho]; dsimp only; rw [List.getD_eq_getElem?_getD, hz]; rfl
    rw [hbase]
    rfl
   | none =>
    have hbase : baseZ v lines x = lines.sum := by
     unfold baseZ; rw [ho]
    rw [hbase]
    rw [Option.isSome_none, cond_false, List.length_map, extra_sum (v := v) x (k : Int) (by omega) hal (lines.map W) (nets.map W) ((basesOf (vRates v).length sh).map W) (sh.map shW) (am.map W) (hasL (vRates v).length fl) (tx.map W) _ ?_, joinB_inr, joinB_inr]
    ·rfl
    ·simp; omega
  ·exact hg
 rw [hred]
 unfold bringF
 rcases extraTail_eq hv nets am tx hrn.1 hrn.2 hll hal hsh hl hal2 fl (ixOf (·.1) x.2.2 (vRates v)) k (fun k' h => ⟨hk2 k' h, by obtain ⟨rt, hrt, _⟩ := ixOf_some h; exact (List.getElem?_eq_some_iff.1 hrt).1⟩) (amtZ (vWay v) (vPl v) (baseZ v lines x) x) with ⟨p, g, h1, h2, h3, h4⟩ | ⟨f, b, h1, h2, h3⟩
 ·exact .inl ⟨_, p, g, h1, h2, h3, h4⟩
 ·exact .inr ⟨f, b, h1, h2, h3⟩

end Go.Md

namespace Go.Md
open Go.Dn

theorem cond_t {α : Type} {b : Bool} (h : b = true) (x y : α) : (bif b then x else y) = x := by rw [h]; rfl
theorem cond_f {α : Type} {b : Bool} (h : b = false) (x y : α) : (bif b then x else y) = y := by rw [h]; rfl
theorem cond_nt {α : Type} {b : Bool} (h : b = true) (x y : α) : (bif !b then x else y) = y := by rw [h]; rfl
theorem cond_nf {α : Type} {b : Bool} (h : b = false) (x y : α) : (bif !b then x else y) = x := by rw [h]; rfl
def K35 : Nat := 10 ^ 35
theorem Le.k35 {z : Int} (h : Le 35 z) : z.natAbs ≤ K35 := h
theorem K35_Le {z : Int} {c : Nat} (hc : c ≤ 1000) (h : z.natAbs ≤ c * K35) : Le 38 z := by
 unfold Le
 have h1 : c * K35 ≤ 1000 * K35 := Nat.mul_le_mul_right _ hc
 have h2 : 1000 * K35 = 10 ^ 38 := by unfold K35; decide
 omega
theorem taxL_append (way : Int) (pc : D_api_Decimal) (k : Nat) : ∀ (a b : Br), taxL way pc k (a ++ b) = taxL way pc k a + taxL way pc k b
 | [], b => by simp [taxL]
 | p :: a, b => by simp only [List.cons_append, taxL, taxL_append way pc k a b]; omega
theorem taxL_le {way : Int} {pc : D_api_Decimal} (hp : DecOk pc) (k : Nat) : ∀ {b : Br}, (∀ p ∈ b, (p.2.natAbs : Int) ≤ MU) → (taxL way pc k b).natAbs ≤ b.length * K35
 | [], _ => by simp [taxL]
 | p :: b, h => by
  have h1 := taxL_le (way := way) hp k (b := b) fun q hq => h q (List.mem_cons_of_mem _ hq)
  have h2 : (partZ way p.2 pc).natAbs ≤ K35 := (part_Le (MU_Le (h p List.mem_cons_self)) hp : Le 35 _).k35
  simp only [taxL, List.length_cons, Nat.add_mul, Nat.one_mul]
  split <;> omega
theorem pctK_get {v : D_api_Invoice} {k : Nat} {r : D_api_Rate} (h : (vRates v)[k]? = some r) : pctK v k = r.2 := by
 unfold pctK; rw [List.getD_eq_getElem?_getD, h]; rfl

theorem tax_loop1 {v : D_api_Invoice} (hv : InvOk v) {br : Br} (hbr : BrOk (vRates v).length br) (hl : br.length ≤ 1000) (L N : List D_whole_Int) (S : List D_bill_share) (A : List D_whole_Int) (H : List Bool) (f : Nat) (hf : (vRates v).length < f) :
  iter f ((vRates v, ((vRates v).length : Int), (0 : Int), v.1, v.2.1, v.2.2.1, v.2.2.2.1, v.2.2.2.2.1, v.2.2.2.2.2.1, v.2.2.2.2.2.2.1, v.2.2.2.2.2.2.2.1, v.2.2.2.2.2.2.2.2, L, List.replicate (Int.toNat ((vRates v).length : Int)) ((false, []) : D_whole_Int), N, (basesOf (vRates v).length br).map W, S, A, H, ()) : bill_sheet_tax_x3) bill_sheet_tax_b3 =
   some (Sum.inr (v.1, v.2.1, v.2.2.1, v.2.2.2.1, v.2.2.2.2.1, v.2.2.2.2.2.1, v.2.2.2.2.2.2.1, v.2.2.2.2.2.2.2.1, v.2.2.2.2.2.2.2.2, L, ((List.range (vRates v).length).map fun k => if vPer v = true then 0 else partZ (vWay v) (atB br k) (pctK v k)).map W, N, (basesOf (vRates v).length br).map W, S, A, H, ())) := by
 have hrn : 0 < (vRates v).length ∧ (vRates v).length ≤ 20 := hv.rn
 refine iter_post (Inv := fun i X => X = ((vRates v, ((vRates v).length : Int), (i : Int), v.1, v.2.1, v.2.2.1, v.2.2.2.1, v.2.2.2.2.1, v.2.2.2.2.2.1, v.2.2.2.2.2.2.1, v.2.2.2.2.2.2.2.1, v.2.2.2.2.2.2.2.2, L, ((List.range (vRates v).length).map fun k => if vPer v = true ∨ i ≤ k then 0 else partZ (vWay v) (atB br k) (pctK v k)).map W, N, (basesOf (vRates v).length br).map W, S, A, H, ()) : bill_sheet_tax_x3)) (vRates v).length
  (fun r => r = some (Sum.inr (v.1, v.2.1, v.2.2.1, v.2.2.2.1, v.2.2.2.2.1, v.2.2.2.2.2.1, v.2.2.2.2.2.2.1, v.2.2.2.2.2.2.2.1, v.2.2.2.2.2.2.2.2, L, ((List.range (vRates v).length).map fun k => if vPer v = true then 0 else partZ (vWay v) (atB br k) (pctK v k)).map W, N, (basesOf (vRates v).length br).map W, S, A, H, ()))) ?_ ?_ f 0 _ ?_ (by omega) (by omega)
 ·rintro i _ again hi rfl ih
  unfold bill_sheet_tax_b3
  dsimp only
  have hr : (vRates v)[i]? = some (vRates v)[i] := getElem?_of hi
  have hrm := List.getElem_mem hi
  generalize (vRates v)[i] = r at hr hrm
  have hpc := pctK_get hr
  have hpo := pctK_ok hv i
  rw [bif_pos (by omega), idx_nat, hr, Option.bind_some]
  rcases Bool.eq_false_or_eq_true v.2.2.2.2.2.1 with hper | hper
  ·rw [cond_nt hper, w64_id (by omega) (by omega)]
   refine ih _ ?_
   have hp : vPer v = true := hper
   simp only [hp, true_or, if_true]
   rfl
  ·have hp : vPer v = false := hper
   have hbm : ((basesOf (vRates v).length br).map W)[i]? = some (W (atB br i)) := by rw [List.getElem?_map, basesOf_get _ hi]; rfl
   have htm : ∃ y, (((List.range (vRates v).length).map fun k => if vPer v = true ∨ i ≤ k then 0 else partZ (vWay v) (atB br k) (pctK v k)).map W)[i]? = some y := ⟨_, getElem?_of (by simp; omega)⟩
   obtain ⟨y0, hy0⟩ := htm
   rw [cond_nf hper, chk_pos (by rw [List.length_map, basesOf_len]; simp only [Bool.and_eq_true, decide_eq_true_eq]; omega), Int.toNat_natCast, hbm, Option.bind_some]
   rw [show (v.1, v.2.1, v.2.2.1, v.2.2.2.1, v.2.2.2.2.1, v.2.2.2.2.2.1, v.2.2.2.2.2.2.1, v.2.2.2.2.2.2.2.1, v.2.2.2.2.2.2.2.2) = v from rfl, ← hpc, bill_part_eq v _ _ hpo ((atB_Le hbr (by omega) i).mono (by omega)), Option.bind_some]
   dsimp only
   rw [chk_pos (by simp only [List.length_map, List.length_range, Bool.and_eq_true, decide_eq_true_eq]; omega), hy0, Option.bind_some, w64_id (by omega) (by omega), ← List.map_set]
   refine ih _ ?_
   congr 13
   refine congrArg (fun z : List Int => (z.map W, _)) ?_
   refine map_set_range _ _ _ _ _ (fun j hj hji => ?_) ?_
   ·simp only [hp, Bool.false_eq_true, false_or]
    by_cases h1 : i ≤ j
    ·rw [if_pos h1, if_pos (by omega)]
    ·rw [if_neg h1, if_neg (by omega)]
   ·simp only [hp, Bool.false_eq_true, false_or]
    rw [if_neg (by omega)]
 ·rintro _ again rfl
  unfold bill_sheet_tax_b3
  dsimp only
  rw [bif_neg (by omega)]
  congr 12
  refine congrArg (fun z : List Int => (z.map W, _)) ?_
  apply List.map_congr_left
  intro k hk
  rw [List.mem_range] at hk
  by_cases hp : vPer v = true
  ·rw [if_pos (.inl hp), if_pos hp]
  ·rw [if_neg (fun h => h.elim hp (fun h => by omega)), if_neg hp]
 ·simp only [Nat.zero_le, or_true, if_true]
  congr 13
  rw [Int.toNat_natCast]
  refine congrArg (fun z : List D_whole_Int => (z, _)) ?_
  apply List.ext_getElem?
  intro i
  by_cases hi : i < (vRates v).length
  ·rw [List.getElem?_map, List.getElem?_map, List.getElem?_range hi, List.getElem?_replicate, if_pos hi]; rfl
  ·rw [List.getElem?_eq_none (by simp; omega), List.getElem?_eq_none (by simp; omega)]

def taxP (v : D_api_Invoice) (br : Br) (i k : Nat) : Int := if vPer v = true then taxL (vWay v) (pctK v k) k (br.take i) else partZ (vWay v) (atB br k) (pctK v k)
theorem tax_loop2 {v : D_api_Invoice} (hv : InvOk v) {br : Br} (hbr : BrOk (vRates v).length br) (hl : br.length ≤ 1000) (L N B : List D_whole_Int) (A : List D_whole_Int) (H : List Bool) (f : Nat) (hf : br.length < f) :
  iter f (((br.length : Int), (0 : Int), v.1, v.2.1, v.2.2.1, v.2.2.2.1, v.2.2.2.2.1, v.2.2.2.2.2.1, v.2.2.2.2.2.2.1, v.2.2.2.2.2.2.2.1, v.2.2.2.2.2.2.2.2, L, ((List.range (vRates v).length).map (taxP v br 0)).map W, N, B, br.map shW, A, H, ()) : bill_sheet_tax_x9) bill_sheet_tax_b9 =
   some (Sum.inr (v.1, v.2.1, v.2.2.1, v.2.2.2.1, v.2.2.2.2.1, v.2.2.2.2.2.1, v.2.2.2.2.2.2.1, v.2.2.2.2.2.2.2.1, v.2.2.2.2.2.2.2.2, L, (taxesZ v br).map W, N, B, br.map shW, A, H, ())) := by
 refine iter_post (Inv := fun i X => X = (((br.length : Int), (i : Int), v.1, v.2.1, v.2.2.1, v.2.2.2.1, v.2.2.2.2.1, v.2.2.2.2.2.1, v.2.2.2.2.2.2.1, v.2.2.2.2.2.2.2.1, v.2.2.2.2.2.2.2.2, L, ((List.range (vRates v).length).map (taxP v br i)).map W, N, B, br.map shW, A, H, ()) : bill_sheet_tax_x9)) br.length
  (fun r => r = some (Sum.inr (v.1, v.2.1, v.2.2.1, v.2.2.2.1, v.2.2.2.2.1, v.2.2.2.2.2.1, v.2.2.2.2.2.2.1, v.2.2.2.2.2.2.2.1, v.2.2.2.2.2.2.2.2, L, (taxesZ v br).map W, N, B, br.map shW, A, H, ()))) ?_ ?_ f 0 _ rfl (by omega) (by omega)
 ·rintro i _ again hi rfl ih
  unfold bill_sheet_tax_b9
  dsimp only
  have hp : br[i]? = some br[i] := getElem?_of hi
  have hpm := List.getElem_mem hi
  generalize br[i] = p at hp hpm
  have hpx := hbr.ix p hpm
  have hpa := hbr.am p hpm
  have hsm : (br.map shW)[i]? = some (shW p) := by rw [List.getElem?_map, hp]; rfl
  rw [bif_pos (by omega), chk_pos (by rw [List.length_map]; simp only [Bool.and_eq_true, decide_eq_true_eq]; omega), Int.toNat_natCast, hsm, Option.bind_some]
  have e1 : (shW p).1 = (p.1 : Int) := rfl
  have e2 : (shW p).2 = W p.2 := rfl
  rw [e1, e2]
  rcases Bool.eq_false_or_eq_true v.2.2.2.2.2.1 with hper | hper
  ·have hpr : vPer v = true := hper
   have hr : (vRates v)[p.1]? = some (vRates v)[p.1] := getElem?_of hpx
   generalize (vRates v)[p.1] = r at hr
   have hpc := pctK_get hr
   have hpo := pctK_ok hv p.1
   have htl := taxL_le (way := vWay v) hpo p.1 (b := br.take i) fun q hq => hbr.am q (List.mem_of_mem_take hq)
   have htl2 := K35_Le (show (br.take i).length ≤ 1000 by rw [List.length_take]; omega) htl
   have hpt : Le 38 (partZ (vWay v) p.2 (pctK v p.1)) := (part_Le (MU_Le hpa) hpo : Le 35 _).mono (by omega)
   have hget : (((List.range (vRates v).length).map (taxP v br i)).map W)[p.1]? = some (W (taxL (vWay v) (pctK v p.1) p.1 (br.take i))) := by
    rw [List.getElem?_map, List.getElem?_map, List.getElem?_range hpx]
    unfold taxP
    simp only [Option.map_some, hpr, if_true]
   have hck : (decide (0 ≤ (p.1 : Int)) && decide ((p.1 : Int) < ((((List.range (vRates v).length).map (taxP v br i)).map W).length : Int))) = true := by
    simp only [List.length_map, List.length_range, Bool.and_eq_true, decide_eq_true_eq]; omega
   rw [cond_t hper, chk_pos hck, Int.toNat_natCast, hget, Option.bind_some, idx_nat, show v.2.2.2.2.2.2.1 = vRates v from rfl, hr, Option.bind_some]
   rw [show (v.1, v.2.1, v.2.2.1, v.2.2.2.1, v.2.2.2.2.1, v.2.2.2.2.2.1, vRates v, v.2.2.2.2.2.2.2.1, v.2.2.2.2.2.2.2.2) = v from rfl, ← hpc, bill_part_eq v _ _ hpo ((MU_Le hpa).mono (by omega)), Option.bind_some]
   dsimp only
   rw [whole_Int_Plus_eq _ _ (htl2.w (by omega)) (hpt.w (by omega)), Option.bind_some, chk_pos hck, Option.bind_some, w64_id (by omega) (by omega), ← List.map_set]
   refine ih _ ?_
   congr 12
   refine congrArg (fun z : List Int => (z.map W, _)) ?_
   have htk : br.take (i + 1) = br.take i ++ [p] := by rw [List.take_add_one, hp]; rfl
   refine map_set_range _ _ _ _ _ (fun j hj hji => ?_) ?_
   ·unfold taxP
    simp only [hpr, if_true, htk, taxL_append, taxL]
    rw [if_neg (fun e => hji e.symm)]; omega
   ·unfold taxP
    simp only [hpr, if_true, htk, taxL_append, taxL]
    omega
  ·have hpr : vPer v = false := hper
   rw [cond_f hper, w64_id (by omega) (by omega)]
   refine ih _ ?_
   congr 12
   refine congrArg (fun z : List Int => (z.map W, _)) ?_
   apply List.map_congr_left
   intro k _
   unfold taxP
   simp [hpr]
 ·rintro _ again rfl
  unfold bill_sheet_tax_b9
  dsimp only
  rw [bif_neg (by omega)]
  congr 12
  refine congrArg (fun z : List Int => (z.map W, _)) ?_
  apply List.map_congr_left
  intro k _
  unfold taxP taxK
  rw [List.take_of_length_le (Nat.le_refl _)]

theorem tax_eq {v : D_api_Invoice} (hv : InvOk v) (nets lines am : List Int) {br : Br} (hbr : BrOk (vRates v).length br) (hl : br.length ≤ 1000) (has : List Bool) :
  bill_sheet_tax (Bx v nets lines (basesOf (vRates v).length br) br am has []) = some (bif allAm (taxesZ v br) then 0 else 1, Bx v nets lines (basesOf (vRates v).length br) br am has (taxesZ v br), ()) := by
 have hrn : 0 < (vRates v).length ∧ (vRates v).length ≤ 20 := hv.rn
 unfold bill_sheet_tax Bx
 dsimp only
 rw [List.length_map, basesOf_len, chk_pos (by simp only [Bool.and_eq_true, decide_eq_true_eq]; omega), tax_loop1 hv hbr hl (lines.map W) (nets.map W) (br.map shW) (am.map W) has _ ?_, joinB_inr]
 ·dsimp only
  have e0 : ((List.range (vRates v).length).map fun k => if vPer v = true then 0 else partZ (vWay v) (atB br k) (pctK v k)) = (List.range (vRates v).length).map (taxP v br 0) := by
   apply List.map_congr_left
   intro k _
   unfold taxP
   split <;> rfl
  rw [e0, List.length_map, tax_loop2 hv hbr hl (lines.map W) (nets.map W) ((basesOf (vRates v).length br).map W) (am.map W) has _ ?_, joinB_inr]
  ·dsimp only
   rw [contains_eq_c _ (by unfold taxesZ; simp; omega), Option.bind_some]
   dsimp only
   cases allAm (taxesZ v br) <;> rfl
  ·simp; omega
 ·simp; omega

end Go.Md

namespace Go.Md
open Go.Dn

theorem extrasZ_append (v : D_api_Invoice) (lines : List Int) : ∀ (a b : List D_api_Extra) (s : ESt), extrasZ v lines (a ++ b) s = match extrasZ v lines a s with | .inl f => .inl f | .inr t => extrasZ v lines b t
 | [], b, s => rfl
 | x :: a, b, s => by
  simp only [List.cons_append, extrasZ]
  cases bringF v lines x with
  | inl f => rfl
  | inr t =>
   dsimp only
   cases allAm (basesOf (vRates v).length (s.1 ++ t.2.1)) with
   | true => simp only [cond_true]; exact extrasZ_append v lines a b _
   | false => rfl
theorem extrasZ_step {v : D_api_Invoice} {lines : List Int} {l : List D_api_Extra} {i : Nat} {x : D_api_Extra} (hx : l[i]? = some x) {s t : ESt} (h : extrasZ v lines (l.take i) s = .inr t) :
  extrasZ v lines (l.take (i + 1)) s = match bringF v lines x with | .inl f => .inl f | .inr r => bif allAm (basesOf (vRates v).length (t.1 ++ r.2.1)) then .inr (t.1 ++ r.2.1, t.2.1 ++ r.2.2, t.2.2 ++ [r.1]) else .inl 1 := by
 rw [List.take_add_one, hx, extrasZ_append, h]
 simp only [Option.toList, extrasZ]
 cases bringF v lines x <;> rfl
theorem extrasZ_fail {v : D_api_Invoice} {lines : List Int} {l : List D_api_Extra} {i : Nat} {s : ESt} {f : Int} (h : extrasZ v lines (l.take i) s = .inl f) : extrasZ v lines l s = .inl f := by
 have := extrasZ_append v lines (l.take i) (l.drop i) s
 rw [List.take_append_drop, h] at this
 exact this

def sheetD (v : D_api_Invoice) (lines : List Int) (s : ShZ) : D_bill_sheet := (v, s.nets.map W, lines.map W, (basesOf (vRates v).length s.br).map W, s.br.map shW, s.am.map W, hasL (vRates v).length s.fl, s.taxes.map W)

theorem extras_loop {v : D_api_Invoice} (hv : InvOk v) (nets lines : List Int) (hll : lines.length = (vRates v).length) (hal : allAm lines = true) {lb : Br} (hlb : BrOk (vRates v).length lb) (hlbl : lb.length ≤ 500) (fl0 : List Nat) (ar : List D_bill_sheet) (f : Nat) (hf : (vExtras v).length < f) :
  (∃ s : ESt, extrasZ v lines (vExtras v) (lb, fl0, []) = .inr s ∧ BrOk (vRates v).length s.1 ∧ s.1.length ≤ 900 ∧
   iter f ((vExtras v, ((vExtras v).length : Int), (0 : Int), v.1, v.2.1, v.2.2.1, v.2.2.2.1, v.2.2.2.2.1, v.2.2.2.2.2.1, v.2.2.2.2.2.2.1, v.2.2.2.2.2.2.2.1, v.2.2.2.2.2.2.2.2, nets.map W, lines.map W, (basesOf (vRates v).length lb).map W, lb.map shW, ([] : List D_whole_Int), hasL (vRates v).length fl0, ([] : List D_whole_Int), ar, ()) : bill_workedOut_x9) bill_workedOut_b9 =
    some (Sum.inr (v.1, v.2.1, v.2.2.1, v.2.2.2.1, v.2.2.2.2.1, v.2.2.2.2.2.1, v.2.2.2.2.2.2.1, v.2.2.2.2.2.2.2.1, v.2.2.2.2.2.2.2.2, nets.map W, lines.map W, (basesOf (vRates v).length s.1).map W, s.1.map shW, s.2.2.map W, hasL (vRates v).length s.2.1, ([] : List D_whole_Int), ar, ()))) ∨
  (∃ fa, fa ≠ 0 ∧ extrasZ v lines (vExtras v) (lb, fl0, []) = .inl fa ∧
   iter f ((vExtras v, ((vExtras v).length : Int), (0 : Int), v.1, v.2.1, v.2.2.1, v.2.2.2.1, v.2.2.2.2.1, v.2.2.2.2.2.1, v.2.2.2.2.2.2.1, v.2.2.2.2.2.2.2.1, v.2.2.2.2.2.2.2.2, nets.map W, lines.map W, (basesOf (vRates v).length lb).map W, lb.map shW, ([] : List D_whole_Int), hasL (vRates v).length fl0, ([] : List D_whole_Int), ar, ()) : bill_workedOut_x9) bill_workedOut_b9 = some (Sum.inl (none, fa, ar, ()))) := by
 have hxl : (vExtras v).length ≤ 20 := (extsF_zero hv.ext).1
 have hxe := (extsF_zero hv.ext).2
 refine iter_post (Inv := fun i X => ∃ s : ESt, extrasZ v lines ((vExtras v).take i) (lb, fl0, []) = .inr s ∧ BrOk (vRates v).length s.1 ∧ s.1.length ≤ 500 + 20 * i ∧ s.2.2.length = i ∧ X = ((vExtras v, ((vExtras v).length : Int), (i : Int), v.1, v.2.1, v.2.2.1, v.2.2.2.1, v.2.2.2.2.1, v.2.2.2.2.2.1, v.2.2.2.2.2.2.1, v.2.2.2.2.2.2.2.1, v.2.2.2.2.2.2.2.2, nets.map W, lines.map W, (basesOf (vRates v).length s.1).map W, s.1.map shW, s.2.2.map W, hasL (vRates v).length s.2.1, ([] : List D_whole_Int), ar, ()) : bill_workedOut_x9)) (vExtras v).length
  (fun r => (∃ s : ESt, extrasZ v lines (vExtras v) (lb, fl0, []) = .inr s ∧ BrOk (vRates v).length s.1 ∧ s.1.length ≤ 900 ∧ r = some (Sum.inr (v.1, v.2.1, v.2.2.1, v.2.2.2.1, v.2.2.2.2.1, v.2.2.2.2.2.1, v.2.2.2.2.2.2.1, v.2.2.2.2.2.2.2.1, v.2.2.2.2.2.2.2.2, nets.map W, lines.map W, (basesOf (vRates v).length s.1).map W, s.1.map shW, s.2.2.map W, hasL (vRates v).length s.2.1, ([] : List D_whole_Int), ar, ()))) ∨
   (∃ fa, fa ≠ 0 ∧ extrasZ v lines (vExtras v) (lb, fl0, []) = .inl fa ∧ r = some (Sum.inl (none, fa, ar, ())))) ?_ ?_ f 0 _ ⟨(lb, fl0, []), rfl, hlb, by simpa using hlbl, rfl, rfl⟩ (by omega) (by omega)
 ·rintro i _ again hi ⟨s, h1, h2, h3, h4, rfl⟩ ih
  unfold bill_workedOut_b9
  dsimp only
  have hx : (vExtras v)[i]? = some (vExtras v)[i] := getElem?_of hi
  have hxm := List.getElem_mem hi
  generalize (vExtras v)[i] = x at hx hxm
  have hxo := (hxe x hxm).1
  have hst := extrasZ_step hx h1
  rw [bif_pos (by omega), idx_nat, hx, Option.bind_some]
  have he := extra_eq hv nets s.2.2 [] hll hal h2 (by omega) (by omega) s.2.1 hxo
  unfold Bx at he
  rw [show (v.1, v.2.1, v.2.2.1, v.2.2.2.1, v.2.2.2.2.1, v.2.2.2.2.2.1, v.2.2.2.2.2.2.1, v.2.2.2.2.2.2.2.1, v.2.2.2.2.2.2.2.2) = v from rfl]
  rcases he with ⟨d, p, g, g1, g2, g3, g4⟩ | ⟨fa, b, g0, g1, g4⟩
  ·rw [g1] at hst
   dsimp only at hst
   rw [show ([] : List D_whole_Int) = ([] : List Int).map W from rfl, g4, Option.bind_some]
   dsimp only
   cases ha : allAm (basesOf (vRates v).length (s.1 ++ p)) with
   | true =>
    rw [ha, cond_true] at hst
    rw [cond_true, show ((0 : Int) != 0) = false from rfl, cond_false, w64_id (by omega) (by omega)]
    exact ih _ ⟨_, hst, g2, by rw [List.length_append]; omega, by rw [List.length_append]; simp [h4], rfl⟩
   | false =>
    rw [ha, cond_false] at hst
    rw [cond_false, show ((1 : Int) != 0) = true from rfl, cond_true]
    exact .inr ⟨1, by omega, extrasZ_fail hst, rfl⟩
  ·rw [g1] at hst
   rw [show ([] : List D_whole_Int) = ([] : List Int).map W from rfl, g4, Option.bind_some]
   dsimp only
   rw [show (fa != 0) = true by simpa using g0, cond_true]
   exact .inr ⟨fa, g0, extrasZ_fail hst, rfl⟩
 ·rintro _ again ⟨s, h1, h2, h3, h4, rfl⟩
  unfold bill_workedOut_b9
  dsimp only
  rw [bif_neg (by omega)]
  rw [List.take_of_length_le (Nat.le_refl _)] at h1
  exact .inl ⟨s, h1, h2, by omega, rfl⟩

theorem bill_workedOut_eq {v : D_api_Invoice} (h0 : invF v = 0) :
  (∃ lines s, sheetZ v = .inr s ∧ BrOk (vRates v).length s.br ∧ s.br.length ≤ 900 ∧ bill_workedOut v [] = some (some 0, 0, [sheetD v lines s], ())) ∨
  (∃ f, f ≠ 0 ∧ sheetZ v = .inl f ∧ bill_workedOut v [] = some (none, f, [], ())) := by
 have hv := invF_zero h0
 have hrn : 0 < (vRates v).length ∧ (vRates v).length ≤ 20 := hv.rn
 have hln : 0 < (vLines v).length ∧ (vLines v).length ≤ 500 := hv.ln
 unfold bill_workedOut sheetZ
 rw [bill_CheckInvoice_eq, Option.bind_some]
 dsimp only
 rw [h0, show ((0 : Int) != 0) = false from rfl, cond_false]
 rcases bill_byLines_eq hv with ⟨lb, h1, h2, h3, h4, e⟩ | ⟨h1, b, e⟩
 ·rw [e, Option.bind_some, h1]
  unfold Bx
  dsimp only
  rw [show ((0 : Int) != 0) = false from rfl, cond_false, h4, cond_true]
  have hll := basesOf_len (vRates v).length lb
  have hve : (vExtras v).length = v.2.2.2.2.2.2.2.2.length := rfl
  rcases extras_loop hv (lb.map (·.2)) (basesOf (vRates v).length lb) hll h4 h2 (by omega) (lb.map (·.1)) [] (List.length v.2.2.2.2.2.2.2.2 + (Int.natAbs ((List.length v.2.2.2.2.2.2.2.2 : Int)) + (Int.natAbs (0 : Int) + (List.length v.1 + (List.length v.2.1 + (Int.natAbs v.2.2.1 + (Int.natAbs v.2.2.2.1 + (Int.natAbs v.2.2.2.2.1 + (List.length v.2.2.2.2.2.2.1 + (List.length v.2.2.2.2.2.2.2.1 + (List.length v.2.2.2.2.2.2.2.2 + (List.length ((lb.map (·.2)).map W) + (List.length ((basesOf (vRates v).length lb).map W) + (List.length ((basesOf (vRates v).length lb).map W) + (List.length (lb.map shW) + (List.length ([] : List D_whole_Int) + (List.length (hasL (vRates v).length (lb.map (·.1))) + (List.length ([] : List D_whole_Int) + (List.length ([] : List D_bill_sheet) + 2))))))))))))))))))) (by omega) with ⟨s, g1, g2, g3, g4⟩ | ⟨fa, g0, g1, g4⟩
  ·rw [g1]
   dsimp only
   rw [show ([] : List Int).map W = ([] : List D_whole_Int) from rfl, g4, joinB_inr]
   dsimp only
   have ht := tax_eq hv (lb.map (·.2)) (basesOf (vRates v).length lb) s.2.2 g2 (by omega) (hasL (vRates v).length s.2.1)
   unfold Bx at ht
   rw [show ([] : List Int).map W = ([] : List D_whole_Int) from rfl] at ht
   rw [show (v.1, v.2.1, v.2.2.1, v.2.2.2.1, v.2.2.2.2.1, v.2.2.2.2.2.1, v.2.2.2.2.2.2.1, v.2.2.2.2.2.2.2.1, v.2.2.2.2.2.2.2.2) = v from rfl, ht, Option.bind_some]
   dsimp only
   cases ha : allAm (taxesZ v s.1) with
   | true =>
    rw [cond_true, cond_true, show ((0 : Int) != 0) = false from rfl, cond_false]
    exact .inl ⟨_, _, rfl, g2, g3, rfl⟩
   | false =>
    rw [cond_false, cond_false, show ((1 : Int) != 0) = true from rfl, cond_true]
    exact .inr ⟨1, by omega, rfl, rfl⟩
  ·rw [g1]
   dsimp only
   rw [show ([] : List Int).map W = ([] : List D_whole_Int) from rfl, g4, joinB_inl]
   exact .inr ⟨fa, g0, rfl, rfl⟩
 ·rw [e, Option.bind_some]
  dsimp only
  rw [show ((1 : Int) != 0) = true from rfl, cond_true]
  refine .inr ⟨1, by omega, ?_, rfl⟩
  rcases h1 with h1 | ⟨lb, h1, h2⟩
  ·rw [h1]
  ·rw [h1]
   dsimp only
   rw [h2]; rfl

end Go.Md

namespace Go.Md
open Go.Dn

theorem lineBr_ok {v : D_api_Invoice} (hv : InvOk v) : ∀ {l : List D_api_BillLine} {lb : Br}, (∀ x ∈ l, x ∈ vLines v) → lineBr v l = some lb → BrOk (vRates v).length lb ∧ lb.length = l.length ∧ ∀ (i : Nat) (x : D_api_BillLine) (p : Nat × Int), l[i]? = some x → lb[i]? = some p → netZ v x = some p.2 ∧ p.1 = rateN v x
 | [], lb, _, h => by simp only [lineBr, Option.some.injEq] at h; subst h; exact ⟨⟨by simp, by simp⟩, rfl, by simp⟩
 | x :: l, lb, hm, h => by
  simp only [lineBr] at h
  cases hn : netZ v x with
  | none => rw [hn] at h; cases h
  | some z =>
   rw [hn] at h
   simp only at h
   cases hl : lineBr v l with
   | none => rw [hl] at h; cases h
   | some lb' =>
    rw [hl] at h
    simp only [Option.map_some, Option.some.injEq] at h
    subst h
    obtain ⟨h1, h2, h3⟩ := lineBr_ok hv (fun y hy => hm y (List.mem_cons_of_mem _ hy)) hl
    have hxo := hv.lines x (hm x List.mem_cons_self)
    obtain ⟨k, hk⟩ := Option.isSome_iff_exists.1 hxo.rate
    obtain ⟨rt, hrt, _⟩ := ixOf_some hk
    have hkl : k < (vRates v).length := (List.getElem?_eq_some_iff.1 hrt).1
    refine ⟨⟨fun p hp => ?_, fun p hp => ?_⟩, by simp [h2], fun i y p hi hp => ?_⟩
    ·rcases List.mem_cons.1 hp with rfl | hp
     ·show (ixOf (·.1) x.2.2.2.2.2.2.2.2 (vRates v)).getD 0 < _
      rw [hk]; exact hkl
     ·exact h1.ix p hp
    ·rcases List.mem_cons.1 hp with rfl | hp
     ·exact (netZ_some hn).2
     ·exact h1.am p hp
    ·cases i with
     | zero =>
      simp only [List.getElem?_cons_zero, Option.some.injEq] at hi hp
      subst hi; subst hp; exact ⟨hn, rfl⟩
     | succ i =>
      simp only [List.getElem?_cons_succ] at hi hp
      exact h3 i y p hi hp

theorem nzBr_len : ∀ (l : List Int) (k : Nat), (nzBr k l).length ≤ l.length
 | [], k => by simp [nzBr]
 | y :: l, k => by
  have := nzBr_len l (k + 1)
  simp only [nzBr]
  split <;> simp <;> omega
theorem bringG_ok {n : Nat} (hn0 : 0 < n) (hn : n ≤ 20) {o : Option Nat} (ho : ∀ k, o = some k → k < n) {lines : List Int} (hll : lines.length = n) {d d' : Int} {p : Br} {g : List Nat} (h : bringG o d lines = .inr (d', p, g)) :
  d' = d ∧ isAm d = true ∧ BrOk n p ∧ p.length ≤ 20 ∧ (p.map (·.2)).sum = d ∧ ∀ q ∈ p, q.2 ≠ 0 → q.1 ∈ g := by
 unfold bringG at h
 cases him : isAm d with
 | false => rw [him] at h; cases h
 | true =>
  rw [him, cond_true] at h
  have hd := isAm_iff.1 him
  cases o with
  | some k =>
   simp only [Sum.inr.injEq, Prod.mk.injEq] at h
   obtain ⟨rfl, rfl, rfl⟩ := h
   exact ⟨rfl, rfl, ⟨by simpa using ho k rfl, by simpa using hd⟩, by simp, by simp, by simp⟩
  | none =>
   dsimp only at h
   cases hz : (lines.all fun b => b == 0) with
   | true =>
    rw [hz, cond_true] at h
    simp only [Sum.inr.injEq, Prod.mk.injEq] at h
    obtain ⟨rfl, rfl, rfl⟩ := h
    refine ⟨rfl, rfl, ⟨by simpa using hn0, by simpa using hd⟩, by simp, by simp, fun q hq hq0 => ?_⟩
    rw [List.mem_singleton.1 hq] at hq0 ⊢
    rw [show (d == 0) = false by simpa using hq0, cond_false]
    simp
   | false =>
    rw [hz, cond_false] at h
    cases hw : (lines.any fun b => decide (MW < b.natAbs)) with
    | true => rw [hw] at h; cases h
    | false =>
     rw [hw, cond_false] at h
     simp only [Sum.inr.injEq, Prod.mk.injEq] at h
     obtain ⟨rfl, rfl, rfl⟩ := h
     have hpos := abs_sum_pos hz
     have hmem := nzBr_mem (sharesZ d (lines.map Int.natAbs)) 0
     have hxl : (sharesZ d (lines.map Int.natAbs)).length = n := by rw [sharesZ_len, List.length_map, hll]
     refine ⟨rfl, rfl, ⟨fun q hq => ?_, fun q hq => ?_⟩, ?_, ?_, fun q hq _ => List.mem_map_of_mem hq⟩
     ·have := (hmem q hq).2.1; omega
     ·have := sharesZ_le (n := d) hpos (hmem q hq).2.2.1; omega
     ·have := nzBr_len (sharesZ d (lines.map Int.natAbs)) 0; omega
     ·rw [nzBr_sum, sharesZ_sum hpos]

theorem BrOk.append {n : Nat} {a b : Br} (ha : BrOk n a) (hb : BrOk n b) : BrOk n (a ++ b) :=
 ⟨fun p hp => (List.mem_append.1 hp).elim (ha.ix p) (hb.ix p), fun p hp => (List.mem_append.1 hp).elim (ha.am p) (hb.am p)⟩
theorem extrasZ_ok {v : D_api_Invoice} (hv : InvOk v) {lines : List Int} (hll : lines.length = (vRates v).length) : ∀ (l : List D_api_Extra) (s t : ESt), extrasZ v lines l s = .inr t → BrOk (vRates v).length s.1 → allAm s.2.2 = true → (∀ q ∈ s.1, q.2 ≠ 0 → q.1 ∈ s.2.1) → allAm (basesOf (vRates v).length s.1) = true →
  BrOk (vRates v).length t.1 ∧ t.1.length ≤ s.1.length + 20 * l.length ∧ allAm t.2.2 = true ∧ t.2.2.length = s.2.2.length + l.length ∧ (t.1.map (·.2)).sum = (s.1.map (·.2)).sum + (t.2.2.sum - s.2.2.sum) ∧ (∀ q ∈ t.1, q.2 ≠ 0 → q.1 ∈ t.2.1) ∧ allAm (basesOf (vRates v).length t.1) = true
 | [], s, t, h, h1, h2, h3, h4 => by
  simp only [extrasZ, Sum.inr.injEq] at h
  subst h
  exact ⟨h1, by simp, h2, by simp, by omega, h3, h4⟩
 | x :: l, s, t, h, h1, h2, h3, h4 => by
  have hrn : 0 < (vRates v).length ∧ (vRates v).length ≤ 20 := hv.rn
  simp only [extrasZ] at h
  cases hb : bringF v lines x with
  | inl f => rw [hb] at h; cases h
  | inr r =>
   obtain ⟨d, p, g⟩ := r
   rw [hb] at h
   dsimp only at h
   unfold bringF at hb
   have hbo := bringG_ok hrn.1 hrn.2 (fun k hk => by obtain ⟨rt, hrt, _⟩ := ixOf_some hk; exact (List.getElem?_eq_some_iff.1 hrt).1) hll hb
   obtain ⟨rfl, g1, g2, g3, g4, g5⟩ := hbo
   cases ha : allAm (basesOf (vRates v).length (s.1 ++ p)) with
   | false => rw [ha] at h; cases h
   | true =>
    rw [ha, cond_true] at h
    generalize amtZ (vWay v) (vPl v) (baseZ v lines x) x = d at *
    obtain ⟨k1, k2, k3, k4, k5, k6, k7⟩ := extrasZ_ok hv hll l _ t h (h1.append g2) (by unfold allAm at *; rw [List.all_append, h2]; simpa using g1) (fun q hq hq0 => by
     rcases List.mem_append.1 hq with hq | hq
     ·exact List.mem_append.2 (.inl (h3 q hq hq0))
     ·exact List.mem_append.2 (.inr (g5 q hq hq0))) ha
    dsimp only at k2 k4 k5
    refine ⟨k1, ?_, k3, ?_, ?_, k6, k7⟩
    ·rw [List.length_append] at k2; simp only [List.length_cons]; omega
    ·rw [List.length_append] at k4; simp only [List.length_cons, List.length_nil] at k4 ⊢; omega
    ·rw [k5, List.map_append, List.sum_append, g4, List.sum_append]; simp; omega

structure SOk (v : D_api_Invoice) (s : ShZ) : Prop where
 nets : allAm s.nets = true
 netl : s.nets.length = (vLines v).length
 neti : ∀ (i : Nat) (x : D_api_BillLine) (z : Int), (vLines v)[i]? = some x → s.nets[i]? = some z → netZ v x = some z
 br : BrOk (vRates v).length s.br
 brl : s.br.length ≤ 900
 bs : allAm (basesOf (vRates v).length s.br) = true
 am : allAm s.am = true
 aml : s.am.length ≤ 20
 tx : allAm s.taxes = true
 txe : s.taxes = taxesZ v s.br
 sum : (s.br.map (·.2)).sum = s.nets.sum + s.am.sum
 fl : ∀ q ∈ s.br, q.2 ≠ 0 → q.1 ∈ s.fl
theorem sheetZ_ok {v : D_api_Invoice} (hv : InvOk v) {s : ShZ} (h : sheetZ v = .inr s) : SOk v s := by
 have hln : 0 < (vLines v).length ∧ (vLines v).length ≤ 500 := hv.ln
 have hxl : (vExtras v).length ≤ 20 := (extsF_zero hv.ext).1
 unfold sheetZ at h
 cases hl : lineBr v (vLines v) with
 | none => rw [hl] at h; cases h
 | some lb =>
  rw [hl] at h
  dsimp only at h
  cases ha : allAm (basesOf (vRates v).length lb) with
  | false => rw [ha] at h; cases h
  | true =>
   rw [ha, cond_true] at h
   cases he : extrasZ v (basesOf (vRates v).length lb) (vExtras v) (lb, lb.map (·.1), []) with
   | inl f => rw [he] at h; cases h
   | inr t =>
    rw [he] at h
    dsimp only at h
    cases ht : allAm (taxesZ v t.1) with
    | false => rw [ht] at h; cases h
    | true =>
     rw [ht, cond_true] at h
     cases h
     obtain ⟨b1, b2, b3⟩ := lineBr_ok hv (fun x hx => hx) hl
     obtain ⟨k1, k2, k3, k4, k5, k6, k7⟩ := extrasZ_ok hv (basesOf_len _ _) _ _ t he b1 rfl (fun q hq _ => List.mem_map_of_mem hq) ha
     dsimp only at k2 k4 k5
     refine ⟨?_, by simp [b2], fun i x z hx hz => ?_, k1, by show t.1.length ≤ 900; omega, k7, k3, by show t.2.2.length ≤ 20; simp only [List.length_nil] at k4; omega, ht, rfl, by rw [k5]; simp, k6⟩
     ·show allAm (lb.map (·.2)) = true
      unfold allAm
      rw [List.all_eq_true]
      intro z hz
      obtain ⟨p, hp, rfl⟩ := List.mem_map.1 hz
      exact isAm_iff.2 (b1.am p hp)
     ·simp only [List.getElem?_map] at hz
      cases hp : lb[i]? with
      | none => rw [hp] at hz; cases hz
      | some p =>
       rw [hp] at hz
       simp only [Option.map_some, Option.some.injEq] at hz
       subst hz
       exact (b3 i x p hx hp).1

def totT (v : D_api_Invoice) (s : ShZ) : D_api_Totals := (toldZ v s.nets.sum, toldZ v s.am.sum, toldZ v (s.nets.sum + s.am.sum), toldZ v s.taxes.sum, toldZ v (s.nets.sum + s.am.sum + s.taxes.sum))
def sumT (v : D_api_Invoice) (s : ShZ) (k : Nat) : D_api_TaxSum := (((vRates v).getD k ([], (0, 0))).1, toldZ v (atB s.br k), toldZ v (taxK v s.br k))
def sumsT (v : D_api_Invoice) (s : ShZ) : List D_api_TaxSum := ((List.range (vRates v).length).filter fun k => s.fl.contains k).map (sumT v s)

theorem bill_sum_eq {l : List Int} (hl : l.length ≤ 1000) (hal : allAm l = true) : bill_sum (l.map W) = some (W l.sum, ()) := by
 unfold bill_sum
 rw [whole_Of_eq 0 (by omega) (by omega), Option.bind_some]
 dsimp only
 have loop : ∀ f, l.length < f → iter f ((l.map W, (l.length : Int), (0 : Int), false, ([] : List Int), (W 0).1, (W 0).2, ()) : bill_sum_x3) bill_sum_b3 = some (Sum.inr (false, ([] : List Int), (W l.sum).1, (W l.sum).2, ())) := by
  intro f hf
  refine iter_post (Inv := fun i X => X = ((l.map W, (l.length : Int), (i : Int), false, ([] : List Int), (W (l.take i).sum).1, (W (l.take i).sum).2, ()) : bill_sum_x3)) l.length (fun r => r = some (Sum.inr (false, ([] : List Int), (W l.sum).1, (W l.sum).2, ()))) ?_ ?_ f 0 _ rfl (by omega) (by omega)
  ·rintro i _ again hi rfl ih
   unfold bill_sum_b3
   dsimp only
   have hz : l[i]? = some l[i] := getElem?_of hi
   have hzm : isAm l[i] = true := List.all_eq_true.1 hal _ (List.getElem_mem hi)
   generalize l[i] = z at hz hzm
   have h1 := sum_am_Le (l := l.take i) (by rw [List.length_take]; omega) (allAm_take hal i)
   have h2 := MU_Le (isAm_iff.1 hzm)
   rw [bif_pos (by omega), idx_nat, List.getElem?_map, hz, Option.map_some, Option.bind_some, show ((W (l.take i).sum).1, (W (l.take i).sum).2) = W (l.take i).sum from rfl, whole_Int_Plus_eq _ _ (h1.w (by omega)) (h2.w (by omega)), Option.bind_some, w64_id (by omega) (by omega), ← sumI_take_succ hz]
   exact ih _ rfl
  ·rintro _ again rfl
   unfold bill_sum_b3
   dsimp only
   rw [bif_neg (by omega), List.take_of_length_le (Nat.le_refl _)]
 rw [List.length_map, loop _ (by omega), joinB_inr]
theorem bill_told_eq (v : D_api_Invoice) (lines : List Int) (s : ShZ) {z : Int} (hz : isAm z = true) : bill_sheet_told (some 0) (W z) [sheetD v lines s] = some (toldZ v z, ()) := by
 have h := isAm_iff.1 hz
 have := MU_eq
 unfold bill_sheet_told
 rw [Option.bind_some, show ([sheetD v lines s] : List D_bill_sheet)[0]? = some (sheetD v lines s) from rfl, Option.bind_some, amount_Made_eq, if_pos (by omega), Option.bind_some]
 rfl
theorem bill_totals_eq {v : D_api_Invoice} (hv : InvOk v) (lines : List Int) {s : ShZ} (hs : SOk v s) :
  bill_sheet_totals (some 0) [sheetD v lines s] = some (bif allAm (fiveZ s) then (totT v s, 0, ()) else (((0, 0), (0, 0), (0, 0), (0, 0), 0, 0), 1, ())) := by
 have hln : 0 < (vLines v).length ∧ (vLines v).length ≤ 500 := hv.ln
 have hrn : 0 < (vRates v).length ∧ (vRates v).length ≤ 20 := hv.rn
 have htl : s.taxes.length ≤ 20 := by rw [hs.txe]; unfold taxesZ; simp; omega
 have hnl := hs.netl; have haml := hs.aml
 have n1 := sum_am_Le (by omega) hs.nets
 have n2 := sum_am_Le (by omega) hs.am
 have n3 := sum_am_Le (by omega) hs.tx
 have n4 := (n1.add n2)
 have n5 := (n4.add (n3.mono (show 19 ≤ 20 by omega)))
 unfold bill_sheet_totals
 have hg : ([sheetD v lines s] : List D_bill_sheet)[0]? = some (sheetD v lines s) := rfl
 simp only [Option.bind_some, hg]
 rw [show (sheetD v lines s).2.1 = s.nets.map W from rfl, bill_sum_eq (by omega) hs.nets, Option.bind_some]
 rw [show (sheetD v lines s).2.2.2.2.2.1 = s.am.map W from rfl, bill_sum_eq (by omega) hs.am, Option.bind_some]
 rw [show (sheetD v lines s).2.2.2.2.2.2.2 = s.taxes.map W from rfl, bill_sum_eq (by omega) hs.tx, Option.bind_some]
 dsimp only
 rw [whole_Int_Plus_eq _ _ (n1.w (by omega)) (n2.w (by omega)), Option.bind_some]
 dsimp only
 rw [whole_Int_Plus_eq _ _ (n4.w (by omega)) (n3.w (by omega)), Option.bind_some]
 dsimp only
 rw [show [W s.nets.sum, W s.am.sum, W (s.nets.sum + s.am.sum), W s.taxes.sum, W (s.nets.sum + s.am.sum + s.taxes.sum)] = (fiveZ s).map W from rfl, contains_eq_d _ (by unfold fiveZ; simp), Option.bind_some]
 dsimp only
 cases ha : allAm (fiveZ s) with
 | false => rfl
 | true =>
  have hal := ha
  unfold allAm fiveZ at hal
  simp only [List.all_cons, List.all_nil, Bool.and_true, Bool.and_eq_true] at hal
  obtain ⟨a1, a2, a3, a4, a5⟩ := hal
  rw [Bool.not_true, cond_false, bill_told_eq v lines s a1, Option.bind_some, bill_told_eq v lines s a2, Option.bind_some, bill_told_eq v lines s a3, Option.bind_some, bill_told_eq v lines s a4, Option.bind_some, bill_told_eq v lines s a5, Option.bind_some]
  rfl

theorem bill_sums_eq {v : D_api_Invoice} (hv : InvOk v) (lines : List Int) {s : ShZ} (hs : SOk v s) : bill_sheet_sums (some 0) [sheetD v lines s] = some (sumsT v s, ()) := by
 have hrn : 0 < (vRates v).length ∧ (vRates v).length ≤ 20 := hv.rn
 have hg : ([sheetD v lines s] : List D_bill_sheet)[0]? = some (sheetD v lines s) := rfl
 unfold bill_sheet_sums
 rw [Option.bind_some, hg, Option.bind_some]
 have loop : ∀ f, (vRates v).length < f → iter f ((some 0, ([] : List D_api_TaxSum), vRates v, ((vRates v).length : Int), (0 : Int), [sheetD v lines s], ()) : bill_sheet_sums_x3) bill_sheet_sums_b3 = some (Sum.inr (sumsT v s, [sheetD v lines s], ())) := by
  intro f hf
  refine iter_post (Inv := fun i X => X = ((some 0, ((List.range i).filter fun k => s.fl.contains k).map (sumT v s), vRates v, ((vRates v).length : Int), (i : Int), [sheetD v lines s], ()) : bill_sheet_sums_x3)) (vRates v).length (fun r => r = some (Sum.inr (sumsT v s, [sheetD v lines s], ()))) ?_ ?_ f 0 _ rfl (by omega) (by omega)
  ·rintro i _ again hi rfl ih
   unfold bill_sheet_sums_b3
   dsimp only
   have hr : (vRates v)[i]? = some (vRates v)[i] := getElem?_of hi
   generalize (vRates v)[i] = r at hr
   have hrd : (vRates v).getD i ([], (0, 0)) = r := by rw [List.getD_eq_getElem?_getD, hr]; rfl
   have hbz : isAm (atB s.br i) = true := by
    have := hs.bs
    unfold allAm at this
    exact List.all_eq_true.1 this _ (List.mem_of_getElem? (basesOf_get s.br hi))
   have htz : (s.taxes)[i]? = some (taxK v s.br i) := by
    rw [hs.txe]; unfold taxesZ; rw [List.getElem?_map, List.getElem?_range hi]; rfl
   have htm : isAm (taxK v s.br i) = true := List.all_eq_true.1 hs.tx _ (List.mem_of_getElem? htz)
   have e1 : idx (sheetD v lines s).2.2.2.2.2.2.1 (i : Int) = some (s.fl.contains i) := by
    rw [show (sheetD v lines s).2.2.2.2.2.2.1 = hasL (vRates v).length s.fl from rfl, idx_nat, hasL_get _ hi]
   have e2 : idx (sheetD v lines s).2.2.2.1 (i : Int) = some (W (atB s.br i)) := by
    rw [show (sheetD v lines s).2.2.2.1 = (basesOf (vRates v).length s.br).map W from rfl, idx_nat, List.getElem?_map, basesOf_get _ hi]; rfl
   have e3 : idx (sheetD v lines s).2.2.2.2.2.2.2 (i : Int) = some (W (taxK v s.br i)) := by
    rw [show (sheetD v lines s).2.2.2.2.2.2.2 = s.taxes.map W from rfl, idx_nat, List.getElem?_map, htz]; rfl
   have hfl : (((List.range i).filter fun k => s.fl.contains k).map (sumT v s)).length ≤ 20 := by
    rw [List.length_map]
    have := List.length_filter_le (fun k => s.fl.contains k) (List.range i)
    rw [List.length_range] at this
    omega
   have hstep : ((List.range (i + 1)).filter fun k => s.fl.contains k).map (sumT v s) = ((List.range i).filter fun k => s.fl.contains k).map (sumT v s) ++ (if s.fl.contains i = true then [sumT v s i] else []) := by
    rw [List.range_succ, List.filter_append, List.map_append]
    cases hc : s.fl.contains i with
    | true => rw [List.filter_cons_of_pos (by rw [hc]), List.filter_nil, if_pos rfl]; rfl
    | false => rw [List.filter_cons_of_neg (by rw [hc]; exact Bool.false_ne_true), List.filter_nil, if_neg Bool.false_ne_true]; rfl
   rw [bif_pos (by omega), idx_nat, hr]
   simp only [Option.bind_some, hg, e1]
   cases hc : s.fl.contains i with
   | true =>
    rw [hc, if_pos rfl] at hstep
    simp only [cond_true, e2, e3, Option.bind_some, bill_told_eq v lines s hbz, bill_told_eq v lines s htm]
    rw [chk_pos (chk_app (by omega) (by omega)), w64_id (by omega) (by omega)]
    refine ih _ ?_
    rw [hstep]
    unfold sumT
    rw [hrd]
    rfl
   | false =>
    rw [hc, if_neg (by simp), List.append_nil] at hstep
    rw [cond_false, w64_id (by omega) (by omega)]
    refine ih _ ?_
    rw [hstep]
    rfl
  ·rintro _ again rfl
   unfold bill_sheet_sums_b3
   dsimp only
   rw [bif_neg (by omega)]
   rfl
 have e := loop (List.length ([] : List D_api_TaxSum) + (List.length (vRates v) + (Int.natAbs ((List.length (vRates v) : Int)) + (Int.natAbs (0 : Int) + 2)))) (by omega)
 rw [show (sheetD v lines s).1.2.2.2.2.2.2.1 = vRates v from rfl, e, joinB_inr]

def zeroT : D_api_Totals := ((0, 0), (0, 0), (0, 0), (0, 0), 0, 0)
def taxesR (v : D_api_Invoice) : List D_api_TaxSum × Int × Unit := if invF v ≠ 0 then ([], invF v, ()) else match totalsZ v with | .inl f => ([], f, ()) | .inr s => (sumsT v s, 0, ())
def totalsR (v : D_api_Invoice) : D_api_Totals × Int × Unit := if invF v ≠ 0 then (zeroT, invF v, ()) else match totalsZ v with | .inl f => (zeroT, f, ()) | .inr s => (totT v s, 0, ())
theorem workedOut_fault {v : D_api_Invoice} (h : invF v ≠ 0) : bill_workedOut v [] = some (none, invF v, [], ()) := by
 unfold bill_workedOut
 rw [bill_CheckInvoice_eq, Option.bind_some]
 dsimp only
 rw [show (invF v != 0) = true by simpa using h, cond_true]

theorem bill_Taxes_eq (v : D_api_Invoice) : bill_Taxes v = some (taxesR v) := by
 unfold bill_Taxes taxesR
 by_cases h0 : invF v = 0
 ·rw [if_neg (by simpa using h0)]
  have hv := invF_zero h0
  unfold totalsZ
  rcases bill_workedOut_eq h0 with ⟨lines, s, h1, h2, h3, e⟩ | ⟨f, hf, h1, e⟩
  ·have hs := sheetZ_ok hv h1
   rw [e, Option.bind_some, h1]
   dsimp only
   rw [show ((0 : Int) != 0) = false from rfl, cond_false, bill_totals_eq hv lines hs, Option.bind_some]
   cases ha : allAm (fiveZ s) with
   | true =>
    simp only [cond_true]
    rw [show ((0 : Int) != 0) = false from rfl, cond_false, bill_sums_eq hv lines hs, Option.bind_some]
   | false => rfl
  ·rw [e, Option.bind_some, h1]
   dsimp only
   rw [show (f != 0) = true by simpa using hf, cond_true]
 ·rw [if_pos h0, workedOut_fault h0, Option.bind_some]
  dsimp only
  rw [show (invF v != 0) = true by simpa using h0, cond_true]
theorem bill_Totals_eq (v : D_api_Invoice) : bill_Totals v = some (totalsR v) := by
 unfold bill_Totals totalsR
 by_cases h0 : invF v = 0
 ·rw [if_neg (by simpa using h0)]
  have hv := invF_zero h0
  unfold totalsZ
  rcases bill_workedOut_eq h0 with ⟨lines, s, h1, h2, h3, e⟩ | ⟨f, hf, h1, e⟩
  ·have hs := sheetZ_ok hv h1
   rw [e, Option.bind_some, h1]
   dsimp only
   rw [show ((0 : Int) != 0) = false from rfl, cond_false, bill_totals_eq hv lines hs, Option.bind_some]
   cases ha : allAm (fiveZ s) <;> rfl
  ·rw [e, Option.bind_some, h1]
   dsimp only
   rw [show (f != 0) = true by simpa using hf, cond_true]
   rfl
 ·rw [if_pos h0, workedOut_fault h0, Option.bind_some]
  dsimp only
  rw [show (invF v != 0) = true by simpa using h0, cond_true]
  rfl

end Go.Md

namespace Go.Md
open Go.Dn

theorem w64_mod (n : Int) : ∃ q : Int, w64 n = n + q * 18446744073709551616 ∧ -9223372036854775808 ≤ w64 n ∧ w64 n ≤ 9223372036854775807 := by
 have h : w64 n = if n % 18446744073709551616 < 9223372036854775808 then n % 18446744073709551616 else n % 18446744073709551616 - 18446744073709551616 := by
  unfold w64
  simp [IntKind.wrap, IntKind.bits, IntKind.signed]
  split <;> split <;> omega
 rw [h]
 split
 ·exact ⟨-(n / 18446744073709551616), by omega, by omega, by omega⟩
 ·exact ⟨-(n / 18446744073709551616) - 1, by omega, by omega, by omega⟩
theorem w64_eq {a b : Int} (q : Int) (h : a = b + q * 18446744073709551616) : w64 a = w64 b := by
 obtain ⟨x, hx, h1, h2⟩ := w64_mod a
 obtain ⟨y, hy, h3, h4⟩ := w64_mod b
 omega
theorem w64_add (a b : Int) : w64 (w64 a + b) = w64 (a + b) := by
 obtain ⟨x, hx, _⟩ := w64_mod a
 exact w64_eq x (by omega)
theorem w64_am {n : Int} (h : isAm n = true) : w64 n = n := by
 have := isAm_iff.1 h
 have hM : MU = 1000000000000000 := rfl
 rw [hM] at this
 exact w64_id (by omega) (by omega)

theorem sheetZ_inl {v : D_api_Invoice} (h0 : invF v = 0) {f : Int} (h : totalsZ v = .inl f) : f ≠ 0 := by
 unfold totalsZ at h
 rcases bill_workedOut_eq h0 with ⟨lines, s, h1, h2, h3, e⟩ | ⟨g, hg, h1, e⟩
 ·rw [h1] at h
  dsimp only at h
  cases ha : allAm (fiveZ s) with
  | true => rw [ha] at h; cases h
  | false => rw [ha] at h; cases h; omega
 ·rw [h1] at h
  cases h
  exact hg

theorem sum_filter (p : Nat → Bool) (g : Nat → Int) : ∀ (l : List Nat), (∀ k ∈ l, p k = false → g k = 0) → ((l.filter p).map g).sum = (l.map g).sum
 | [], _ => rfl
 | k :: l, h => by
  have ih := sum_filter p g l (fun j hj => h j (by simp [hj]))
  cases hp : p k with
  | true => rw [List.filter_cons_of_pos hp, List.map_cons, List.sum_cons, List.map_cons, List.sum_cons, ih]
  | false => rw [List.filter_cons_of_neg (by rw [hp]; exact Bool.false_ne_true), List.map_cons, List.sum_cons, ih, h k (by simp) hp, Int.zero_add]

theorem atB_out : ∀ {br : Br} {k : Nat}, (∀ q ∈ br, q.1 = k → q.2 = 0) → atB br k = 0
 | [], _, _ => rfl
 | p :: r, k, h => by
  have ih := atB_out (br := r) (k := k) (fun q hq => h q (by simp [hq]))
  simp only [atB]
  rw [ih]
  by_cases hp : p.1 = k
  ·rw [h p (by simp) hp]; simp
  ·simp [hp]
theorem taxL_out {way : Int} {pc : D_api_Decimal} : ∀ {br : Br} {k : Nat}, (∀ q ∈ br, q.1 = k → q.2 = 0) → taxL way pc k br = 0
 | [], _, _ => rfl
 | p :: r, k, h => by
  have ih := taxL_out (way := way) (pc := pc) (br := r) (k := k) (fun q hq => h q (by simp [hq]))
  simp only [taxL]
  rw [ih]
  by_cases hp : p.1 = k
  ·rw [h p (by simp) hp]
   unfold partZ
   rw [Int.zero_mul, rnd_zero (by have := Nat.pow_pos (n := pc.2.toNat) (show 0 < 10 by omega); omega)]
   simp
  ·simp [hp]
theorem atB_sum {n : Nat} : ∀ {br : Br}, (∀ q ∈ br, q.1 < n) → ((List.range n).map (atB br)).sum = (br.map (·.2)).sum
 | [], _ => by
  induction n with
  | zero => rfl
  | succ n ih => rw [List.range_succ, List.map_append, List.sum_append, ih (by simp)]; rfl
 | p :: r, h => by
  have ih := atB_sum (n := n) (br := r) (fun q hq => h q (by simp [hq]))
  have hp := h p (by simp)
  rw [List.map_cons, List.sum_cons, ← ih]
  have key : ∀ m : Nat, ((List.range m).map (atB (p :: r))).sum = (if p.1 < m then p.2 else 0) + ((List.range m).map (atB r)).sum := by
   intro m
   induction m with
   | zero => simp
   | succ m ihm =>
    rw [List.range_succ, List.map_append, List.sum_append, ihm, List.map_append, List.sum_append]
    simp only [List.map_cons, List.map_nil, List.sum_cons, List.sum_nil, atB]
    split <;> split <;> split <;> omega
  rw [key n, if_pos hp]

theorem fl_out {v : D_api_Invoice} {s : ShZ} (hs : SOk v s) {k : Nat} (h : s.fl.contains k = false) : ∀ q ∈ s.br, q.1 = k → q.2 = 0 := by
 intro q hq hk
 refine Decidable.byContradiction fun h0 => ?_
 have := hs.fl q hq h0
 rw [hk] at this
 rw [List.contains_iff_mem.2 this] at h
 cases h
theorem sums_base {v : D_api_Invoice} {s : ShZ} (hs : SOk v s) : ((sumsT v s).map fun t => t.2.1.1).sum = s.nets.sum + s.am.sum := by
 unfold sumsT
 rw [List.map_map]
 rw [show ((fun t : D_api_TaxSum => t.2.1.1) ∘ sumT v s) = atB s.br from rfl]
 rw [sum_filter _ _ _ (fun k _ hk => atB_out (fl_out hs hk)), atB_sum (fun q hq => hs.br.ix q hq), hs.sum]
theorem sums_tax {v : D_api_Invoice} {s : ShZ} (hs : SOk v s) : ((sumsT v s).map fun t => t.2.2.1).sum = s.taxes.sum := by
 unfold sumsT
 rw [List.map_map]
 rw [show ((fun t : D_api_TaxSum => t.2.2.1) ∘ sumT v s) = taxK v s.br from rfl]
 rw [sum_filter _ _ _ (fun k _ hk => ?_), hs.txe]
 ·rfl
 ·unfold taxK
  split
  ·exact taxL_out (fl_out hs hk)
  ·rw [atB_out (fl_out hs hk)]
   unfold partZ
   rw [Int.zero_mul, rnd_zero (by have := Nat.pow_pos (n := (pctK v k).2.toNat) (show 0 < 10 by omega); omega)]

theorem bill_Net_at {v : D_api_Invoice} (h0 : invF v = 0) {m : Nat} (hm : m < (vLines v).length) {z : Int} (hz : netZ v (vLines v)[m] = some z) : bill_Net v m = some (toldZ v z, 0, ()) := by
 have hv := invF_zero h0
 have hln := hv.ln
 have hm' : m < v.2.2.2.2.2.2.2.1.length := hm
 unfold bill_Net bill_ofLine_net
 rw [bill_CheckInvoice_eq, Option.bind_some]
 dsimp only
 rw [h0, show ((0 : Int) != 0) = false from rfl, cond_false, w64_id (by omega) (by omega), kit_Outside_eq, Option.bind_some]
 dsimp only
 rw [decide_eq_false (by omega), cond_false]
 have hy : v.2.2.2.2.2.2.2.1[m]? = some v.2.2.2.2.2.2.2.1[m] := getElem?_of hm
 have hx := hv.lines _ (List.getElem_mem hm)
 rw [idx_nat, hy, Option.bind_some, bill_net_eq hv hx, Option.bind_some]
 have hz' : netZ v v.2.2.2.2.2.2.2.1[m] = some z := hz
 obtain ⟨hz2, hb⟩ := netZ_some hz'
 rw [hz', ← hz2]
 dsimp only
 simp only [Option.isSome_some, Bool.not_true, cond_false]
 rw [amount_Made_eq, if_pos (by have h9 : (z.natAbs : Int) ≤ 1000000000000000 := hb; omega)]
 rfl

theorem lt_here {n r : Nat} (h : 0 < r) : n < n + r := by omega
theorem lt_later {n a r : Nat} (h : n < r) : n < a + r := by omega

theorem sum_take_w {α : Type} (g : α → Int) (l : List α) (i : Nat) (h : i < l.length) : w64 (w64 ((l.take i).map g).sum + g l[i]) = w64 ((l.take (i + 1)).map g).sum := by
 rw [w64_add, List.take_add_one, getElem?_of h, List.map_append, List.sum_append]
 simp

theorem totalsAddUp (v : D_api_Invoice) : l11_BillTotalsAddUp v = some (true, ()) := by
 unfold l11_BillTotalsAddUp
 rw [bill_Totals_eq, bill_Taxes_eq, Option.bind_some]
 unfold totalsR taxesR
 by_cases h0 : invF v = 0
 ·rw [if_neg (by simpa using h0), if_neg (by simpa using h0)]
  have hv := invF_zero h0
  cases ht : totalsZ v with
  | inl f =>
   have hf := sheetZ_inl h0 ht
   dsimp only
   rw [show (f != 0) = true by simpa using hf, cond_true, l11_awake_k]
   rfl
  | inr s =>
   dsimp only
   rw [show ((0 : Int) != 0) = false from rfl, cond_false, Option.bind_some]
   dsimp only
   rw [show ((0 : Int) != 0) = false from rfl, cond_false, l11_awake_k, Option.bind_some]
   dsimp only
   rw [Bool.not_true, cond_false]
   have hs : SOk v s ∧ allAm (fiveZ s) = true := by
    unfold totalsZ at ht
    cases hsh : sheetZ v with
    | inl f => rw [hsh] at ht; cases ht
    | inr s' =>
     rw [hsh] at ht
     dsimp only at ht
     cases ha : allAm (fiveZ s') with
     | false => rw [ha] at ht; cases ht
     | true => rw [ha] at ht; cases ht; exact ⟨sheetZ_ok hv hsh, ha⟩
   obtain ⟨hs, h5⟩ := hs
   have am5 : ∀ n ∈ fiveZ s, isAm n = true := fun n hn => List.all_eq_true.1 h5 n hn
   have hl20 : (sumsT v s).length ≤ 20 := by
    unfold sumsT
    rw [List.length_map]
    have := List.length_filter_le (fun k => s.fl.contains k) (List.range (vRates v).length)
    rw [List.length_range] at this
    have := hv.rn
    have h : (vRates v).length ≤ 20 := hv.rn.2
    omega
   have eb := sums_base hs
   have et := sums_tax hs
   generalize sumsT v s = ts at hl20 eb et ⊢
   have hln : (vLines v).length ≤ 500 := hv.ln.2
   generalize hT : totT v s = T
   have loop1 : ∀ fuel, ts.length < fuel → iter (X := l11_BillTotalsAddUp_x9) (β := l11_BillTotalsAddUp_r9) fuel (0, 0, 0, ts, (ts.length : Int), 0, v.1, v.2.1, v.2.2.1, v.2.2.2.1, v.2.2.2.2.1, v.2.2.2.2.2.1, v.2.2.2.2.2.2.1, v.2.2.2.2.2.2.2.1, v.2.2.2.2.2.2.2.2, T.1.1, T.1.2, T.2.1.1, T.2.1.2, T.2.2.1.1, T.2.2.1.2, T.2.2.2.1.1, T.2.2.2.1.2, T.2.2.2.2.1, T.2.2.2.2.2, ()) l11_BillTotalsAddUp_b9 =
     some (Sum.inr (w64 (ts.map fun t => t.2.1.1).sum, w64 (ts.map fun t => t.2.2.1).sum, 0, v.1, v.2.1, v.2.2.1, v.2.2.2.1, v.2.2.2.2.1, v.2.2.2.2.2.1, v.2.2.2.2.2.2.1, v.2.2.2.2.2.2.2.1, v.2.2.2.2.2.2.2.2, T.1.1, T.1.2, T.2.1.1, T.2.1.2, T.2.2.1.1, T.2.2.1.2, T.2.2.2.1.1, T.2.2.2.1.2, T.2.2.2.2.1, T.2.2.2.2.2, ())) := by
    intro fuel hf
    refine iter_post (Inv := fun i x => x = (w64 ((ts.take i).map fun t => t.2.1.1).sum, w64 ((ts.take i).map fun t => t.2.2.1).sum, 0, ts, (ts.length : Int), (i : Int), v.1, v.2.1, v.2.2.1, v.2.2.2.1, v.2.2.2.2.1, v.2.2.2.2.2.1, v.2.2.2.2.2.2.1, v.2.2.2.2.2.2.2.1, v.2.2.2.2.2.2.2.2, T.1.1, T.1.2, T.2.1.1, T.2.1.2, T.2.2.1.1, T.2.2.1.2, T.2.2.2.1.1, T.2.2.2.1.2, T.2.2.2.2.1, T.2.2.2.2.2, ())) ts.length (fun r => r = some (Sum.inr (w64 (ts.map fun t => t.2.1.1).sum, w64 (ts.map fun t => t.2.2.1).sum, 0, v.1, v.2.1, v.2.2.1, v.2.2.2.1, v.2.2.2.2.1, v.2.2.2.2.2.1, v.2.2.2.2.2.2.1, v.2.2.2.2.2.2.2.1, v.2.2.2.2.2.2.2.2, T.1.1, T.1.2, T.2.1.1, T.2.1.2, T.2.2.1.1, T.2.2.1.2, T.2.2.2.1.1, T.2.2.2.1.2, T.2.2.2.2.1, T.2.2.2.2.2, ()))) ?_ ?_ fuel 0 _ rfl (by omega) (by omega)
    ·rintro i _ again hi rfl ih
     unfold l11_BillTotalsAddUp_b9
     dsimp only
     have hy : ts[i]? = some ts[i] := getElem?_of hi
     rw [bif_pos (by omega), idx_nat, hy, Option.bind_some, w64_id (n := (i : Int) + 1) (by omega) (by omega)]
     refine ih _ ?_
     rw [sum_take_w (fun t : D_api_TaxSum => t.2.1.1) ts i hi, sum_take_w (fun t : D_api_TaxSum => t.2.2.1) ts i hi]
     rfl
    ·rintro _ again rfl
     unfold l11_BillTotalsAddUp_b9
     dsimp only
     rw [bif_neg (by omega), List.take_of_length_le (Nat.le_refl _)]
   rw [loop1 _ (by repeat (with_reducible first | exact Nat.zero_lt_two | apply lt_here | apply lt_later)), joinB_inr]
   dsimp only
   rw [eb, et, w64_am (am5 _ (by simp [fiveZ])), w64_am (am5 s.taxes.sum (by simp [fiveZ]))]
   have loop2 : ∀ fuel, (vLines v).length < fuel → iter (X := l11_BillTotalsAddUp_x14) (β := l11_BillTotalsAddUp_r14) fuel (s.nets.sum + s.am.sum, s.taxes.sum, 0, ((vLines v).length : Int), 0, v.1, v.2.1, v.2.2.1, v.2.2.2.1, v.2.2.2.2.1, v.2.2.2.2.2.1, v.2.2.2.2.2.2.1, v.2.2.2.2.2.2.2.1, v.2.2.2.2.2.2.2.2, T.1.1, T.1.2, T.2.1.1, T.2.1.2, T.2.2.1.1, T.2.2.1.2, T.2.2.2.1.1, T.2.2.2.1.2, T.2.2.2.2.1, T.2.2.2.2.2, ()) l11_BillTotalsAddUp_b14 =
     some (Sum.inr (s.nets.sum + s.am.sum, s.taxes.sum, s.nets.sum, T.1.1, T.1.2, T.2.1.1, T.2.1.2, T.2.2.1.1, T.2.2.1.2, T.2.2.2.1.1, T.2.2.2.1.2, T.2.2.2.2.1, T.2.2.2.2.2, ())) := by
    intro fuel hf
    refine iter_post (Inv := fun i x => x = (s.nets.sum + s.am.sum, s.taxes.sum, w64 ((s.nets.take i).map id).sum, ((vLines v).length : Int), (i : Int), v.1, v.2.1, v.2.2.1, v.2.2.2.1, v.2.2.2.2.1, v.2.2.2.2.2.1, v.2.2.2.2.2.2.1, v.2.2.2.2.2.2.2.1, v.2.2.2.2.2.2.2.2, T.1.1, T.1.2, T.2.1.1, T.2.1.2, T.2.2.1.1, T.2.2.1.2, T.2.2.2.1.1, T.2.2.2.1.2, T.2.2.2.2.1, T.2.2.2.2.2, ())) (vLines v).length (fun r => r = some (Sum.inr (s.nets.sum + s.am.sum, s.taxes.sum, s.nets.sum, T.1.1, T.1.2, T.2.1.1, T.2.1.2, T.2.2.1.1, T.2.2.1.2, T.2.2.2.1.1, T.2.2.2.1.2, T.2.2.2.2.1, T.2.2.2.2.2, ()))) ?_ ?_ fuel 0 _ rfl (by omega) (by omega)
    ·rintro i _ again hi rfl ih
     unfold l11_BillTotalsAddUp_b14
     dsimp only
     have hi2 : i < s.nets.length := by rw [hs.netl]; exact hi
     have hz := hs.neti i _ _ (getElem?_of hi) (getElem?_of hi2)
     rw [bif_pos (by omega), show (v.1, v.2.1, v.2.2.1, v.2.2.2.1, v.2.2.2.2.1, v.2.2.2.2.2.1, v.2.2.2.2.2.2.1, v.2.2.2.2.2.2.2.1, v.2.2.2.2.2.2.2.2) = v from rfl, bill_Net_at h0 hi hz, Option.bind_some]
     dsimp only
     rw [show ((0 : Int) != 0) = false from rfl, cond_false, w64_id (n := (i : Int) + 1) (by omega) (by omega)]
     refine ih _ ?_
     rw [← sum_take_w id s.nets i hi2]
     rfl
    ·rintro _ again rfl
     unfold l11_BillTotalsAddUp_b14
     dsimp only
     rw [bif_neg (by omega), List.take_of_length_le (by rw [hs.netl]; exact Nat.le_refl _), List.map_id, w64_am (am5 _ (by simp [fiveZ]))]
   rw [loop2 _ (by repeat (with_reducible first | exact Nat.zero_lt_two | apply lt_here | apply lt_later)), joinB_inr]
   subst hT
   dsimp only
   rw [show (totT v s).2.2.1.1 = s.nets.sum + s.am.sum from rfl, show (totT v s).2.2.2.1.1 = s.taxes.sum from rfl, show (totT v s).1.1 = s.nets.sum from rfl, show (totT v s).2.1.1 = s.am.sum from rfl, show (totT v s).2.2.2.2.1 = s.nets.sum + s.am.sum + s.taxes.sum from rfl]
   rw [w64_am (am5 (s.nets.sum + s.am.sum) (by simp [fiveZ])), w64_am (am5 (s.nets.sum + s.am.sum + s.taxes.sum) (by simp [fiveZ]))]
   simp only [beq_self_eq_true, cond_true]
 ·rw [if_pos h0]
  dsimp only
  rw [show (invF v != 0) = true by simpa using h0, cond_true, l11_awake_k]
  rfl

end Go.Md
