/-
 Plain facts: an amount is shared by weights. No condition.
-/
import Derived.Test.YtalfglakknbjkaaGreatDoorYs
import Derived.Test.YtalfglakknbjkaaGreatDoorYn
import Derived.Test.YtalfglakknbjkaaGreatDoorYq
set_option linter.all false
namespace Go.Md
open Go.Dn

abbrev Br := List (Nat × Int)
def atB (l : Br) (k : Nat) : Int := match l with
 | [] => 0
 | p :: r => (if p.1 = k then p.2 else 0) + atB r k
theorem atB_append : ∀ (a b : Br) (k : Nat), atB (a ++ b) k = atB a k + atB b k
 | [], b, k => by simp [atB]
 | p :: a, b, k => by simp only [List.cons_append, atB, atB_append a b]; omega
def basesOf (n : Nat) (l : Br) : List Int := (List.range n).map (atB l)
theorem basesOf_len (n : Nat) (l : Br) : (basesOf n l).length = n := by simp [basesOf]
theorem basesOf_get {n : Nat} (l : Br) {k : Nat} (h : k < n) : (basesOf n l)[k]? = some (atB l k) := by
 unfold basesOf
 rw [List.getElem?_map, List.getElem?_range h]; rfl
theorem basesOf_set {n : Nat} (l : Br) {k : Nat} (d : Int) : (basesOf n l).set k (atB l k + d) = basesOf n (l ++ [(k, d)]) := by
 apply List.ext_getElem?
 intro i
 by_cases hi : i < n
 ·rw [basesOf_get _ hi]
  by_cases e : k = i
  ·subst e
   rw [List.getElem?_set_self (by rw [basesOf_len]; exact hi), atB_append]; simp [atB]
  ·rw [List.getElem?_set_ne e, basesOf_get _ hi, atB_append]; simp [atB, e]
 ·rw [List.getElem?_eq_none (by rw [List.length_set, basesOf_len]; omega), List.getElem?_eq_none (by rw [basesOf_len]; omega)]
def shQ (u W w : Nat) : Nat := u * w / W
def shR (u W w : Nat) : Nat := u * w % W
def ahead (r : Nat → Nat) (i j : Nat) : Prop := r j < r i ∨ (r i = r j ∧ i < j)
instance (r : Nat → Nat) (i j : Nat) : Decidable (ahead r i j) := by unfold ahead; infer_instance
theorem ahead_trans {r : Nat → Nat} {i j k : Nat} (h : ahead r i j) (g : ahead r j k) : ahead r i k := by unfold ahead at *; omega
theorem ahead_irrefl {r : Nat → Nat} {i : Nat} : ¬ ahead r i i := by unfold ahead; omega
theorem ahead_total (r : Nat → Nat) {i j : Nat} (h : i ≠ j) : ahead r i j ∨ ahead r j i := by unfold ahead; omega
def rankS (r : Nat → Nat) (n i : Nat) : Nat := ((List.range n).filter fun j => decide (ahead r j i)).length

structure OrdS (r : Nat → Nat) (n : Nat) (o : List Nat) : Prop where
 perm : (List.range n).Perm o
 srt : o.Pairwise (ahead r)
theorem OrdS.mem {r : Nat → Nat} {n : Nat} {o : List Nat} (h : OrdS r n o) {i : Nat} : i ∈ o ↔ i < n := by
 rw [← h.perm.mem_iff, List.mem_range]
theorem OrdS.len {r : Nat → Nat} {n : Nat} {o : List Nat} (h : OrdS r n o) : o.length = n := by rw [← h.perm.length_eq, List.length_range]
theorem OrdS.get_ahead {r : Nat → Nat} {n : Nat} {o : List Nat} (h : OrdS r n o) {a b i j : Nat} (ha : o[a]? = some i) (hb : o[b]? = some j) (hab : a < b) : ahead r i j := by
 obtain ⟨ha1, ha2⟩ := List.getElem?_eq_some_iff.1 ha
 obtain ⟨hb1, hb2⟩ := List.getElem?_eq_some_iff.1 hb
 subst ha2; subst hb2
 exact List.pairwise_iff_getElem.1 h.srt a b ha1 hb1 hab
theorem OrdS.rank {r : Nat → Nat} {n : Nat} {o : List Nat} (h : OrdS r n o) {a i : Nat} (ha : o[a]? = some i) : rankS r n i = a := by
 unfold rankS
 rw [(h.perm.filter _).length_eq]
 have hal := (List.getElem?_eq_some_iff.1 ha).1
 have e : o = o.take a ++ o.drop a := (List.take_append_drop a o).symm
 have h1 : (o.take a).filter (fun j => decide (ahead r j i)) = o.take a := by
  rw [List.filter_eq_self]
  intro j hj
  obtain ⟨b, hb⟩ := List.mem_iff_getElem?.1 hj
  have hbl : b < a := by have := (List.getElem?_eq_some_iff.1 hb).1; rw [List.length_take] at this; omega
  rw [List.getElem?_take_of_lt hbl] at hb
  exact decide_eq_true (h.get_ahead hb ha hbl)
 have h2 : (o.drop a).filter (fun j => decide (ahead r j i)) = [] := by
  rw [List.filter_eq_nil_iff]
  intro j hj
  obtain ⟨b, hb⟩ := List.mem_iff_getElem?.1 hj
  rw [List.getElem?_drop] at hb
  rw [decide_eq_true_eq]
  intro hh
  by_cases e : b = 0
  ·subst e
   rw [Nat.add_zero, ha] at hb; cases hb
   exact ahead_irrefl hh
  ·exact ahead_irrefl (ahead_trans hh (h.get_ahead ha hb (by omega)))
 rw [e, List.filter_append, h1, h2, List.append_nil, List.length_take]
 omega
theorem OrdS.rank_inv {r : Nat → Nat} {n : Nat} {o : List Nat} (h : OrdS r n o) {i : Nat} (hi : i < n) : o[rankS r n i]? = some i := by
 obtain ⟨a, ha⟩ := List.mem_iff_getElem?.1 (h.mem.2 hi)
 rw [h.rank ha]; exact ha
theorem OrdS.exists (r : Nat → Nat) (n : Nat) : ∃ o, OrdS r n o := by
 let le : Nat → Nat → Bool := fun i j => decide (i = j ∨ ahead r i j)
 have tr : ∀ a b c, le a b = true → le b c = true → le a c = true := by
  intro a b c h1 h2
  simp only [le, decide_eq_true_eq] at *
  rcases h1 with rfl | h1
  ·exact h2
  ·rcases h2 with rfl | h2
   ·exact .inr h1
   ·exact .inr (ahead_trans h1 h2)
 have tot : ∀ a b, (le a b || le b a) = true := by
  intro a b
  simp only [le, Bool.or_eq_true, decide_eq_true_eq]
  by_cases e : a = b
  ·exact .inl (.inl e)
  ·rcases ahead_total r e with h | h
   ·exact .inl (.inr h)
   ·exact .inr (.inr h)
 have hp : (List.range n).Perm ((List.range n).mergeSort le) := (List.mergeSort_perm _ _).symm
 refine ⟨(List.range n).mergeSort le, hp, ?_⟩
 have hs := List.pairwise_mergeSort (le := le) tr tot (List.range n)
 have hn : ((List.range n).mergeSort le).Nodup := hp.nodup_iff.1 List.nodup_range
 exact (hs.and hn).imp fun {a b} h => by
  have h1 := h.1
  simp only [le, decide_eq_true_eq] at h1
  rcases h1 with h1 | h1
  ·exact absurd h1 h.2
  ·exact h1

def sharesN (u : Nat) (ws : List Nat) : List Nat :=
 let q := ws.map (shQ u ws.sum)
 let left := u - q.sum
 let r := fun i => shR u ws.sum (ws.getD i 0)
 (List.range ws.length).map fun i => shQ u ws.sum (ws.getD i 0) + if rankS r ws.length i < left then 1 else 0
def sharesZ (n : Int) (ws : List Nat) : List Int := (sharesN n.natAbs ws).map fun (x : Nat) => if n < 0 then -(x : Int) else (x : Int)

theorem sum_map_add {α : Type} (f g : α → Nat) : ∀ l : List α, (l.map fun x => f x + g x).sum = (l.map f).sum + (l.map g).sum
 | [] => rfl
 | x :: l => by simp only [List.map_cons, List.sum_cons, sum_map_add f g l]; omega
theorem sum_map_mul {α : Type} (f : α → Nat) (c : Nat) : ∀ l : List α, (l.map fun x => c * f x).sum = c * (l.map f).sum
 | [] => rfl
 | x :: l => by simp only [List.map_cons, List.sum_cons, sum_map_mul f c l, Nat.mul_add]
theorem shQR (u W w : Nat) : W * shQ u W w + shR u W w = u * w := by unfold shQ shR; exact Nat.div_add_mod _ _
theorem left_eq {u : Nat} {ws : List Nat} (h : 0 < ws.sum) : ws.sum * (u - (ws.map (shQ u ws.sum)).sum) = (ws.map (shR u ws.sum)).sum ∧ (ws.map (shQ u ws.sum)).sum ≤ u := by
 have h1 : (ws.map fun w => ws.sum * shQ u ws.sum w + shR u ws.sum w).sum = ws.sum * (ws.map (shQ u ws.sum)).sum + (ws.map (shR u ws.sum)).sum := by
  rw [sum_map_add (fun w => ws.sum * shQ u ws.sum w), sum_map_mul]
 have h2 : (ws.map fun w => ws.sum * shQ u ws.sum w + shR u ws.sum w).sum = u * ws.sum := by
  rw [show (fun w => ws.sum * shQ u ws.sum w + shR u ws.sum w) = fun w => u * w from funext fun w => shQR ..]
  have := sum_map_mul (fun w : Nat => w) u ws
  simpa using this
 rw [h1, Nat.mul_comm u] at h2
 have hle : (ws.map (shQ u ws.sum)).sum ≤ u := by
  have : ws.sum * (ws.map (shQ u ws.sum)).sum ≤ ws.sum * u := by omega
  exact Nat.le_of_mul_le_mul_left this h
 refine ⟨?_, hle⟩
 rw [Nat.mul_sub]; omega
theorem sum_lt_mul {W : Nat} : ∀ (l : List Nat), (∀ x ∈ l, x < W) → l.sum + l.length ≤ W * l.length
 | [], _ => by simp
 | x :: l, h => by
  have h1 := sum_lt_mul l fun y hy => h y (List.mem_cons_of_mem _ hy)
  have h2 := h x List.mem_cons_self
  simp only [List.sum_cons, List.length_cons, Nat.mul_succ]; omega
theorem left_le {u : Nat} {ws : List Nat} (h : 0 < ws.sum) : u - (ws.map (shQ u ws.sum)).sum ≤ ws.length := by
 have h1 := (left_eq (u := u) h).1
 have h2 := sum_lt_mul (W := ws.sum) (ws.map (shR u ws.sum)) (by
  intro x hx
  obtain ⟨w, _, rfl⟩ := List.mem_map.1 hx
  exact Nat.mod_lt _ h)
 rw [List.length_map] at h2
 have : ws.sum * (u - (ws.map (shQ u ws.sum)).sum) ≤ ws.sum * ws.length := by omega
 exact Nat.le_of_mul_le_mul_left this h
theorem map_getD (l : List Nat) (f : Nat → Nat) : (List.range l.length).map (fun i => f (l.getD i 0)) = l.map f := by
 apply List.ext_getElem?
 intro i
 by_cases hi : i < l.length
 ·rw [List.getElem?_map, List.getElem?_range hi, List.getElem?_map, List.getElem?_eq_getElem hi]
  simp [List.getD_eq_getElem?_getD, List.getElem?_eq_getElem hi]
 ·rw [List.getElem?_eq_none (by simp; omega), List.getElem?_eq_none (by simp; omega)]
theorem sum_onesN {α : Type} : ∀ l : List α, (l.map fun _ => 1).sum = l.length
 | [] => rfl
 | x :: l => by simp only [List.map_cons, List.sum_cons, List.length_cons, sum_onesN l]; omega
theorem perm_sumN {a b : List Nat} (h : a.Perm b) : a.sum = b.sum := by
 induction h with
 | nil => rfl
 | cons x _ ih => simp [ih]
 | swap x y l => simp only [List.sum_cons]; omega
 | trans _ _ ih1 ih2 => exact ih1.trans ih2
theorem count_rank {r : Nat → Nat} {n m : Nat} (h : m ≤ n) : ((List.range n).map fun i => if rankS r n i < m then 1 else 0).sum = m := by
 obtain ⟨o, ho⟩ := OrdS.exists r n
 rw [perm_sumN (ho.perm.map _)]
 have e : o.map (fun i => if rankS r n i < m then 1 else 0) = (List.range n).map fun a => if a < m then 1 else 0 := by
  apply List.ext_getElem?
  intro a
  by_cases ha : a < n
  ·have hg : o[a]? = some (o[a]'(by rw [ho.len]; exact ha)) := List.getElem?_eq_getElem _
   rw [List.getElem?_map, List.getElem?_map, List.getElem?_range ha, hg]
   simp only [Option.map_some, ho.rank hg]
  ·rw [List.getElem?_eq_none (by rw [List.length_map, ho.len]; omega), List.getElem?_eq_none (by simp; omega)]
 rw [e]
 clear e ho o
 induction n with
 | zero => simp; omega
 | succ n ih =>
  rw [List.range_succ, List.map_append, List.sum_append]
  by_cases hm : m ≤ n
  ·rw [ih hm]; simp; omega
  ·obtain rfl : m = n + 1 := by omega
   have : ((List.range n).map fun a => if a < n + 1 then 1 else 0) = (List.range n).map fun _ => 1 := by
    apply List.map_congr_left
    intro a ha
    rw [List.mem_range] at ha
    rw [if_pos (by omega)]
   rw [this, sum_onesN]
   simp
theorem sharesN_sum {u : Nat} {ws : List Nat} (h : 0 < ws.sum) : (sharesN u ws).sum = u := by
 unfold sharesN
 dsimp only
 rw [sum_map_add (fun i => shQ u ws.sum (ws.getD i 0)), map_getD ws (shQ u ws.sum), count_rank (left_le h)]
 have := (left_eq (u := u) h).2
 omega
theorem sharesN_len (u : Nat) (ws : List Nat) : (sharesN u ws).length = ws.length := by simp [sharesN]
theorem sharesZ_len (n : Int) (ws : List Nat) : (sharesZ n ws).length = ws.length := by simp [sharesZ, sharesN_len]
theorem sum_cast : ∀ l : List Nat, (l.map fun (x : Nat) => (x : Int)).sum = (l.sum : Int)
 | [] => rfl
 | x :: l => by simp only [List.map_cons, List.sum_cons, sum_cast l]; omega
theorem sum_ncast : ∀ l : List Nat, (l.map fun (x : Nat) => -(x : Int)).sum = -(l.sum : Int)
 | [] => rfl
 | x :: l => by simp only [List.map_cons, List.sum_cons, sum_ncast l]; omega
theorem sharesZ_sum {n : Int} {ws : List Nat} (h : 0 < ws.sum) : (sharesZ n ws).sum = n := by
 unfold sharesZ
 by_cases hn : n < 0
 ·simp only [if_pos hn]
  rw [sum_ncast, sharesN_sum h]; omega
 ·simp only [if_neg hn]
  rw [sum_cast, sharesN_sum h]; omega
theorem sharesN_le {u : Nat} {ws : List Nat} (h : 0 < ws.sum) {x : Nat} (hx : x ∈ sharesN u ws) : x ≤ u := by
 have h1 := sharesN_sum (u := u) h
 have : ∀ (l : List Nat) (x : Nat), x ∈ l → x ≤ l.sum := by
  intro l
  induction l with
  | nil => intro x hx; cases hx
  | cons y l ih =>
   intro x hx
   rcases List.mem_cons.1 hx with rfl | hx
   ·simp
   ·have := ih x hx; simp; omega
 have := this _ _ hx
 omega
theorem sharesZ_le {n : Int} {ws : List Nat} (h : 0 < ws.sum) {x : Int} (hx : x ∈ sharesZ n ws) : x.natAbs ≤ n.natAbs := by
 unfold sharesZ at hx
 obtain ⟨y, hy, rfl⟩ := List.mem_map.1 hx
 have := sharesN_le h hy
 split <;> omega
end Go.Md

namespace Go.Md
open Go.Dn

abbrev vRates (v : D_api_Invoice) : List D_api_Rate := v.2.2.2.2.2.2.1
abbrev vLines (v : D_api_Invoice) : List D_api_BillLine := v.2.2.2.2.2.2.2.1
abbrev vExtras (v : D_api_Invoice) : List D_api_Extra := v.2.2.2.2.2.2.2.2
abbrev vWay (v : D_api_Invoice) : Int := v.2.2.2.2.1
abbrev vPl (v : D_api_Invoice) : Int := v.2.2.2.1
abbrev vPer (v : D_api_Invoice) : Bool := v.2.2.2.2.2.1
def MW : Nat := 1000000000

def isAm (n : Int) : Bool := decide (n.natAbs ≤ MU)
def allAm (l : List Int) : Bool := l.all isAm

def lineBr (v : D_api_Invoice) : List D_api_BillLine → Option Br
 | [] => some []
 | x :: r => match netZ v x with
  | some n => (lineBr v r).map fun l => ((ixOf (·.1) x.2.2.2.2.2.2.2.2 (vRates v)).getD 0, n) :: l
  | none => none

def baseZ (v : D_api_Invoice) (lines : List Int) (x : D_api_Extra) : Int := match ixOf (·.1) x.2.2 (vRates v) with
 | some k => lines.getD k 0
 | none => lines.sum
def nzBr : Nat → List Int → Br
 | _, [] => []
 | k, x :: r => if x = 0 then nzBr (k + 1) r else (k, x) :: nzBr (k + 1) r
def bringG (o : Option Nat) (d : Int) (lines : List Int) : Int ⊕ (Int × Br × List Nat) :=
 bif isAm d then
  match o with
  | some k => .inr (d, [(k, d)], [k])
  | none =>
   bif lines.all fun b => b == 0 then .inr (d, [(0, d)], bif d == 0 then [] else [0])
   else bif lines.any fun b => decide (MW < b.natAbs) then .inl 2
   else .inr (d, nzBr 0 (sharesZ d (lines.map Int.natAbs)), (nzBr 0 (sharesZ d (lines.map Int.natAbs))).map (·.1))
 else .inl 1
def bringF (v : D_api_Invoice) (lines : List Int) (x : D_api_Extra) : Int ⊕ (Int × Br × List Nat) :=
 bringG (ixOf (·.1) x.2.2 (vRates v)) (amtZ (vWay v) (vPl v) (baseZ v lines x) x) lines

abbrev ESt := Br × List Nat × List Int
def extrasZ (v : D_api_Invoice) (lines : List Int) : List D_api_Extra → ESt → Int ⊕ ESt
 | [], s => .inr s
 | x :: r, s => match bringF v lines x with
  | .inl f => .inl f
  | .inr t => bif allAm (basesOf (vRates v).length (s.1 ++ t.2.1)) then extrasZ v lines r (s.1 ++ t.2.1, s.2.1 ++ t.2.2, s.2.2 ++ [t.1]) else .inl 1

def taxL (way : Int) (pc : D_api_Decimal) (k : Nat) : Br → Int
 | [] => 0
 | p :: r => (if p.1 = k then partZ way p.2 pc else 0) + taxL way pc k r
def pctK (v : D_api_Invoice) (k : Nat) : D_api_Decimal := ((vRates v).getD k ([], (0, 0))).2
def taxK (v : D_api_Invoice) (sh : Br) (k : Nat) : Int := if vPer v = true then taxL (vWay v) (pctK v k) k sh else partZ (vWay v) (atB sh k) (pctK v k)
def taxesZ (v : D_api_Invoice) (sh : Br) : List Int := (List.range (vRates v).length).map (taxK v sh)

structure ShZ where
 nets : List Int
 br : Br
 fl : List Nat
 am : List Int
 taxes : List Int
def sheetZ (v : D_api_Invoice) : Int ⊕ ShZ :=
 match lineBr v (vLines v) with
 | none => .inl 1
 | some lb =>
  bif allAm (basesOf (vRates v).length lb) then
   match extrasZ v (basesOf (vRates v).length lb) (vExtras v) (lb, lb.map (·.1), []) with
   | .inl f => .inl f
   | .inr s => bif allAm (taxesZ v s.1) then .inr ⟨lb.map (·.2), s.1, s.2.1, s.2.2, taxesZ v s.1⟩ else .inl 1
  else .inl 1
def fiveZ (s : ShZ) : List Int := [s.nets.sum, s.am.sum, s.nets.sum + s.am.sum, s.taxes.sum, s.nets.sum + s.am.sum + s.taxes.sum]
def totalsZ (v : D_api_Invoice) : Int ⊕ ShZ := match sheetZ v with
 | .inl f => .inl f
 | .inr s => bif allAm (fiveZ s) then .inr s else .inl 1
def toldZ (v : D_api_Invoice) (n : Int) : D_api_Decimal := (n, vPl v)

theorem nzBr_sum : ∀ (l : List Int) (k : Nat), ((nzBr k l).map (·.2)).sum = l.sum
 | [], k => rfl
 | x :: l, k => by
  have ih := nzBr_sum l (k + 1)
  simp only [nzBr]
  split
  ·rename_i hx; rw [ih]; simp [hx]
  ·simp [ih]
theorem nzBr_mem : ∀ (l : List Int) (k : Nat) (p : Nat × Int), p ∈ nzBr k l → k ≤ p.1 ∧ p.1 < k + l.length ∧ p.2 ∈ l ∧ p.2 ≠ 0
 | [], k, p, h => by cases h
 | x :: l, k, p, h => by
  simp only [nzBr] at h
  have ih := fun hh => nzBr_mem l (k + 1) p hh
  split at h
  ·have := ih h; simp only [List.length_cons, List.mem_cons]; exact ⟨by omega, by omega, .inr this.2.2.1, this.2.2.2⟩
  ·rename_i hx
   rcases List.mem_cons.1 h with rfl | h
   ·exact ⟨Nat.le_refl _, by simp only [List.length_cons]; omega, List.mem_cons_self, hx⟩
   ·have := ih h; simp only [List.length_cons, List.mem_cons]; exact ⟨by omega, by omega, .inr this.2.2.1, this.2.2.2⟩

end Go.Md

set_option linter.all false
namespace Go.Md.SA
open Go.Dn Go.Md

section
variable {k : D_amount_share → Int} {ok : D_amount_share → Prop}

def CmpOk (k : D_amount_share → Int) (ok : D_amount_share → Prop) : Prop := ∀ a b, ok a → ok b → ∃ c, amount_Shares_1 a b = some (c, ()) ∧ (c < 0 ↔ k a < k b)

theorem ins_inner (hc : CmpOk k ok) (a : Nat) (bI : Int) (iI : Int) (X : List D_amount_share) (hX : X.length = a) : ∀ (n : Nat) (P1 : List D_amount_share) (x : D_amount_share) (B : List D_amount_share), P1.length < n → (X ++ P1 ++ x :: B).length < 1000000000 → ok x → (∀ y ∈ P1, ok y) →
  ∃ P2 P3, P1 = P2 ++ P3 ∧ (∀ y ∈ P3, k x < k y) ∧ (∀ y, P2.getLast? = some y → k y ≤ k x) ∧
  iter (X := slices_insertionSortCmpFunc_amount_share_x4) (β := slices_insertionSortCmpFunc_amount_share_r4) n ((a : Int), bI, (), iI, ((a + P1.length : Nat) : Int), X ++ P1 ++ x :: B, ()) slices_insertionSortCmpFunc_amount_share_b4 = some (Sum.inr ((a : Int), bI, (), iI, X ++ P2 ++ x :: (P3 ++ B), ())) := by
 intro n
 induction n with
 | zero => intro P1 x B h; omega
 | succ n ih =>
  intro P1 x B hn hlen hx hP
  rw [iter_succ]
  generalize hag : (fun y => iter n y slices_insertionSortCmpFunc_amount_share_b4) = again
  unfold slices_insertionSortCmpFunc_amount_share_b4
  dsimp only
  rcases List.eq_nil_or_concat P1 with rfl | ⟨P, y, rfl⟩
  ·rw [bif_neg (by simp)]
   exact ⟨[], [], rfl, by simp, by simp, by simp⟩
  ·rw [List.concat_eq_append] at *
   simp only [List.length_append, List.length_cons, List.length_nil] at hlen hn ⊢
   have e1 : w64 (((a + (P.length + 1) : Nat) : Int) - 1) = (((X ++ P).length : Nat) : Int) := by rw [w64_id (by omega) (by omega)]; simp [hX]; omega
   have e2 : (((a + (P.length + 1) : Nat) : Int)) = (((X ++ P).length + 1 : Nat) : Int) := by simp [hX]; omega
   have el : X ++ (P ++ [y]) ++ x :: B = (X ++ P) ++ y :: x :: B := by simp
   obtain ⟨c, hcc, hlt⟩ := hc x y hx (hP y (by simp))
   rw [bif_pos (by omega), e1, e2, el]
   simp only [Int.toNat_natCast, get_at, get_at1, Option.bind_some, hcc]
   rw [chk_pos (by simp only [Bool.and_eq_true, decide_eq_true_eq, List.length_append, List.length_cons, List.length_set, List.length_nil]; omega), chk_pos (by simp only [Bool.and_eq_true, decide_eq_true_eq, List.length_append, List.length_cons, List.length_set, List.length_nil]; omega)]
   by_cases hk : k x < k y
   ·rw [bif_pos (hlt.2 hk), chk_pos (by simp only [Bool.and_eq_true, decide_eq_true_eq, List.length_append, List.length_cons, List.length_set, List.length_nil]; omega), chk_pos (by simp only [Bool.and_eq_true, decide_eq_true_eq, List.length_append, List.length_cons, List.length_set, List.length_nil]; omega), chk_pos (by simp only [Bool.and_eq_true, decide_eq_true_eq, List.length_append, List.length_cons, List.length_set, List.length_nil]; omega),
     chk_pos (by simp only [Bool.and_eq_true, decide_eq_true_eq, List.length_append, List.length_cons, List.length_set, List.length_nil]; omega)]
    have hg : (((X ++ P) ++ y :: x :: B).set ((X ++ P).length + 1) y)[(X ++ P).length]? = some y := by rw [List.getElem?_set_ne (by omega), get_at]
    rw [hg, Option.bind_some, swap_adj, ← hag]
    obtain ⟨P2, P3, h1, h2, h3, h4⟩ := ih P x (y :: B) (by omega) (by simp; omega) hx (fun z hz => hP z (by simp [hz]))
    refine ⟨P2, P3 ++ [y], by rw [h1]; simp, ?_, h3, ?_⟩
    ·intro z hz
     rcases List.mem_append.1 hz with hz | hz
     ·exact h2 z hz
     ·rw [List.mem_singleton.1 hz]; exact hk
    ·have e3 : (((X ++ P).length : Nat) : Int) = ((a + P.length : Nat) : Int) := by simp [hX]
     rw [e3]
     show iter n _ _ = _
     rw [h4]; simp
   ·rw [bif_neg (fun h => hk (hlt.1 h))]
    refine ⟨P ++ [y], [], by simp, by simp, fun z hz => ?_, by simp⟩
    simp at hz
    subst hz; omega

theorem insertion_eq (hc : CmpOk k ok) (X S Y : List D_amount_share) (hlen : (X ++ S ++ Y).length < 1000000000) (hok : ∀ y ∈ S, ok y) :
  ∃ S', slices_insertionSortCmpFunc_amount_share (X ++ S ++ Y) (X.length : Int) ((X.length + S.length : Nat) : Int) () = some (X ++ S' ++ Y, ()) ∧ Srt k S' ∧ SamE k S S' := by
 simp only [List.length_append] at hlen
 have loop : ∀ (n : Nat) (Q P : List D_amount_share) (l : List D_amount_share), Q.length < n → l = X ++ P ++ Q ++ Y → P.length + Q.length = S.length → Srt k P → (∀ y ∈ P, ok y) → (∀ y ∈ Q, ok y) →
   ∃ S', iter (X := slices_insertionSortCmpFunc_amount_share_x1) (β := slices_insertionSortCmpFunc_amount_share_r1) n ((X.length : Int), ((X.length + S.length : Nat) : Int), (), ((X.length + P.length : Nat) : Int), l, ()) slices_insertionSortCmpFunc_amount_share_b1 = some (Sum.inr (X ++ S' ++ Y, ())) ∧ Srt k S' ∧ SamE k (P ++ Q) S' := by
  intro n
  induction n with
  | zero => intro Q P l h; omega
  | succ n ih =>
   intro Q P l hn hl hPQ hs hokP hokQ
   rw [iter_succ]
   generalize hag : (fun y => iter n y slices_insertionSortCmpFunc_amount_share_b1) = again
   unfold slices_insertionSortCmpFunc_amount_share_b1
   dsimp only
   cases Q with
   | nil =>
    rw [bif_neg (by simp at hPQ; omega)]
    exact ⟨P, by rw [hl]; simp, hs, by simpa using SamE.refl k P⟩
   | cons x Q =>
    simp only [List.length_cons] at hn hPQ
    rw [bif_pos (by omega)]
    have hl' : l = X ++ P ++ x :: (Q ++ Y) := by rw [hl]; simp
    obtain ⟨P2, P3, h1, h2, h3, h4⟩ := ins_inner hc X.length ((X.length + S.length : Nat) : Int) ((X.length + P.length : Nat) : Int) X rfl
     (Int.natAbs (X.length : Int) + (Int.natAbs ((X.length + S.length : Nat) : Int) + (Int.natAbs ((X.length + P.length : Nat) : Int) + (Int.natAbs ((X.length + P.length : Nat) : Int) + (List.length l + 2))))) P x (Q ++ Y) (by omega) (by simp; omega) (hokQ x (by simp)) hokP
    rw [← hl'] at h4
    rw [h4, joinB_inr]
    dsimp only
    have e1 : w64 (((X.length + P.length : Nat) : Int) + 1) = ((X.length + (P2 ++ x :: P3).length : Nat) : Int) := by
     rw [w64_id (by omega) (by omega), h1]; simp; omega
    rw [e1, ← hag]
    rw [h1] at hs hokP
    obtain ⟨hs', hsam⟩ := ins_step hs h2 h3
    obtain ⟨S', g1, g2, g3⟩ := ih Q (P2 ++ x :: P3) (X ++ P2 ++ x :: (P3 ++ (Q ++ Y))) (by omega) (by simp) (by rw [h1] at hPQ; simp at hPQ ⊢; omega) hs' (fun y hy => by
      rcases hsam.mem.1 hy |> List.mem_append.1 with h | h
      ·exact hokP y h
      ·rw [List.mem_singleton.1 h]; exact hokQ x (by simp)) (fun y hy => hokQ y (by simp [hy]))
    refine ⟨S', g1, g2, ?_⟩
    have : SamE k (P ++ x :: Q) (P2 ++ x :: P3 ++ Q) := by
     rw [h1]
     have := hsam.append (SamE.refl k Q)
     simpa using this
    exact this.trans g3
 unfold slices_insertionSortCmpFunc_amount_share
 cases S with
 | nil =>
  -- an empty range
  have e1 : w64 ((X.length : Int) + 1) = ((X.length + 1 : Nat) : Int) := by rw [w64_id (by omega) (by omega)]; omega
  rw [e1]
  obtain ⟨n, hn⟩ : ∃ n, (Int.natAbs (X.length : Int) + (Int.natAbs ((X.length + ([] : List D_amount_share).length : Nat) : Int) + (Int.natAbs ((X.length + 1 : Nat) : Int) + (List.length (X ++ [] ++ Y) + 2)))) = n + 1 := ⟨_, rfl⟩
  rw [hn, iter_succ]
  unfold slices_insertionSortCmpFunc_amount_share_b1
  dsimp only
  rw [bif_neg (by simp; omega)]
  exact ⟨[], rfl, List.Pairwise.nil, SamE.refl _ _⟩
 | cons x S =>
  have e1 : w64 ((X.length : Int) + 1) = ((X.length + [x].length : Nat) : Int) := by rw [w64_id (by omega) (by omega)]; simp
  rw [e1]
  obtain ⟨S', g1, g2, g3⟩ := loop (Int.natAbs (X.length : Int) + (Int.natAbs ((X.length + (x :: S).length : Nat) : Int) + (Int.natAbs ((X.length + [x].length : Nat) : Int) + (List.length (X ++ (x :: S) ++ Y) + 2)))) S [x] (X ++ (x :: S) ++ Y) (by simp; omega) (by simp) (by simp; omega) (List.pairwise_singleton _ _) (fun y hy => hok y (by simp at hy; simp [hy])) (fun y hy => hok y (by simp [hy]))
  rw [g1, joinB_inr]
  exact ⟨S', rfl, g2, by simpa using g3⟩
theorem swapRange_eq (X M Y : List D_amount_share) : ∀ (P Q : List D_amount_share), P.length = Q.length → (X ++ P ++ M ++ Q ++ Y).length < 1000000000 →
  slices_swapRangeCmpFunc_amount_share (X ++ P ++ M ++ Q ++ Y) (X.length : Int) ((X.length + P.length + M.length : Nat) : Int) (P.length : Int) () = some (X ++ Q ++ M ++ P ++ Y, ()) := by
 intro P Q hPQ hlen
 simp only [List.length_append] at hlen
 have loop : ∀ (n : Nat) (P1 P2 Q1 Q2 : List D_amount_share) (l : List D_amount_share), P2.length < n → P1.length + P2.length = P.length → P1.length = Q1.length → P2.length = Q2.length → l = X ++ P1 ++ P2 ++ M ++ Q1 ++ Q2 ++ Y →
   iter (X := slices_swapRangeCmpFunc_amount_share_x1) (β := slices_swapRangeCmpFunc_amount_share_r1) n ((X.length : Int), ((X.length + P.length + M.length : Nat) : Int), (P.length : Int), (P1.length : Int), l, ()) slices_swapRangeCmpFunc_amount_share_b1 = some (Sum.inr (X ++ P1 ++ Q2 ++ M ++ Q1 ++ P2 ++ Y, ())) := by
  intro n
  induction n with
  | zero => intro P1 P2 Q1 Q2 l h; omega
  | succ n ih =>
   intro P1 P2 Q1 Q2 l hn h1 h2 h3 hl
   rw [iter_succ]
   generalize hag : (fun y => iter n y slices_swapRangeCmpFunc_amount_share_b1) = again
   unfold slices_swapRangeCmpFunc_amount_share_b1
   dsimp only
   cases P2 with
   | nil =>
    have : Q2 = [] := List.eq_nil_of_length_eq_zero (by simpa using h3.symm)
    subst this
    rw [bif_neg (by simp at h1; omega), hl]
   | cons p P2 =>
    cases Q2 with
    | nil => simp at h3
    | cons q Q2 =>
     simp only [List.length_cons] at hn h1 h3
     have ll : l.length = X.length + P.length + M.length + Q.length + Y.length := by rw [hl]; simp; omega
     have e1 : w64 (((X.length + P.length + M.length : Nat) : Int) + (P1.length : Int)) = (((X ++ P1 ++ p :: P2 ++ M ++ Q1).length : Nat) : Int) := by rw [w64_id (by omega) (by omega)]; simp; omega
     have e2 : w64 ((X.length : Int) + (P1.length : Int)) = (((X ++ P1).length : Nat) : Int) := by rw [w64_id (by omega) (by omega)]; simp
     have l1 : l = (X ++ P1 ++ p :: P2 ++ M ++ Q1) ++ q :: (Q2 ++ Y) := by rw [hl]; simp
     have l2 : l = (X ++ P1) ++ p :: (P2 ++ M ++ Q1 ++ q :: (Q2 ++ Y)) := by rw [hl]; simp
     have g1 : l[(X ++ P1 ++ p :: P2 ++ M ++ Q1).length]? = some q := by rw [l1]; exact get_at _ _ _
     have g2 : l[(X ++ P1).length]? = some p := by rw [l2]; exact get_at _ _ _
     have g3 : l.set (X ++ P1).length q = (X ++ P1 ++ q :: P2 ++ M ++ Q1) ++ q :: (Q2 ++ Y) := by
      rw [l2, set_mid]; simp
     have hlq : (X ++ P1 ++ p :: P2 ++ M ++ Q1).length = (X ++ P1 ++ q :: P2 ++ M ++ Q1).length := by simp
     have g4 : (l.set (X ++ P1).length q)[(X ++ P1 ++ p :: P2 ++ M ++ Q1).length]? = some q := by rw [g3, hlq]; exact get_at _ _ _
     have g5 : (l.set (X ++ P1).length q).set (X ++ P1 ++ p :: P2 ++ M ++ Q1).length p = X ++ (P1 ++ [q]) ++ P2 ++ M ++ (Q1 ++ [p]) ++ Q2 ++ Y := by rw [g3, hlq, set_mid]; simp
     rw [bif_pos (by omega), e1, e2]
     simp only [Int.toNat_natCast, g1, g2, g4, g5, Option.bind_some, List.length_set, ll]
     have lq : (X ++ P1 ++ p :: P2 ++ M ++ Q1).length < X.length + P.length + M.length + Q.length + Y.length := by simp; omega
     have lp : (X ++ P1).length < X.length + P.length + M.length + Q.length + Y.length := by simp; omega
     rw [chk_pos (by simp only [Bool.and_eq_true, decide_eq_true_eq]; omega), chk_pos (by simp only [Bool.and_eq_true, decide_eq_true_eq]; omega), chk_pos (by simp only [Bool.and_eq_true, decide_eq_true_eq]; omega), chk_pos (by simp only [Bool.and_eq_true, decide_eq_true_eq]; omega)]
     have e3 : w64 ((P1.length : Int) + 1) = (((P1 ++ [q]).length : Nat) : Int) := by rw [w64_id (by omega) (by omega)]; simp
     rw [e3, ← hag]
     show iter n _ _ = _
     rw [ih (P1 ++ [q]) P2 (Q1 ++ [p]) Q2 _ (by omega) (by simp; omega) (by simp; omega) (by omega) rfl]
     simp
 unfold slices_swapRangeCmpFunc_amount_share
 rw [show (0 : Int) = ((([] : List D_amount_share).length : Nat) : Int) from rfl, loop _ [] P [] Q (X ++ P ++ M ++ Q ++ Y) (by simp; omega) (by simp) rfl hPQ (by simp), joinB_inr]
 simp

theorem rotate_loop (m : Nat) : ∀ (n : Nat) (X U V Y : List D_amount_share), U.length + V.length < n → 0 < U.length → 0 < V.length → X.length + U.length = m → (X ++ U ++ V ++ Y).length < 1000000000 →
  ∃ (X' U' V' Y' : List D_amount_share), iter (X := slices_rotateCmpFunc_amount_share_x2) (β := slices_rotateCmpFunc_amount_share_r2) n ((m : Int), (), (U.length : Int), (V.length : Int), X ++ U ++ V ++ Y, ()) slices_rotateCmpFunc_amount_share_b2 = some (Sum.inr ((m : Int), (), (U'.length : Int), X' ++ U' ++ V' ++ Y', ())) ∧ U'.length = V'.length ∧ X'.length + U'.length = m ∧ X' ++ V' ++ U' ++ Y' = X ++ V ++ U ++ Y ∧ (X' ++ U' ++ V' ++ Y').length < 1000000000 := by
 intro n
 induction n with
 | zero => intro X U V Y h; omega
 | succ n ih =>
  intro X U V Y hn hU hV hm hlen
  rw [iter_succ]
  generalize hag : (fun y => iter n y slices_rotateCmpFunc_amount_share_b2) = again
  unfold slices_rotateCmpFunc_amount_share_b2
  dsimp only
  by_cases he : U.length = V.length
  ·have hb : ((U.length : Int) != (V.length : Int)) = false := by simp [he]
   rw [hb, cond_false]
   exact ⟨X, U, V, Y, rfl, he, hm, rfl, hlen⟩
  ·have hb : ((U.length : Int) != (V.length : Int)) = true := by simp; omega
   rw [hb, cond_true]
   simp only [List.length_append] at hlen
   have e1 : w64 ((m : Int) - (U.length : Int)) = (X.length : Int) := by rw [w64_id (by omega) (by omega)]; omega
   rw [e1]
   by_cases hgt : V.length < U.length
   ·rw [bif_pos (by omega)]
    obtain ⟨U1, U2, rfl, hU1⟩ := split_at (l := U) (n := V.length) (by omega)
    simp only [List.length_append] at *
    have hsw := swapRange_eq X U2 Y U1 V hU1 (by simp; omega)
    rw [show ((X.length + U1.length + U2.length : Nat) : Int) = (m : Int) by omega, hU1] at hsw
    rw [show X ++ (U1 ++ U2) ++ V ++ Y = X ++ U1 ++ U2 ++ V ++ Y by simp, hsw, Option.bind_some]
    have e2 : w64 (((U1.length + U2.length : Nat) : Int) - (V.length : Int)) = (U2.length : Int) := by rw [w64_id (by omega) (by omega)]; omega
    rw [e2, ← hag]
    obtain ⟨X', U', V', Y', h1, h2, h3, h4, h5⟩ := ih (X ++ V) U2 U1 Y (by omega) (by omega) (by omega) (by simp; omega) (by simp; omega)
    refine ⟨X', U', V', Y', ?_, h2, h3, by rw [h4]; simp, h5⟩
    rw [← hU1]
    exact h1
   ·rw [bif_neg (by omega)]
    obtain ⟨V1, V2, rfl, hV1⟩ := split_at (l := V) (n := V.length - U.length) (by omega)
    simp only [List.length_append] at *
    have e3 : w64 (w64 ((m : Int) + ((V1.length + V2.length : Nat) : Int)) - (U.length : Int)) = ((X.length + U.length + V1.length : Nat) : Int) := by
     rw [w64_id (n := (m : Int) + ((V1.length + V2.length : Nat) : Int)) (by omega) (by omega), w64_id (by omega) (by omega)]; omega
    have hsw := swapRange_eq X V1 Y U V2 (by omega) (by simp; omega)
    rw [e3, show X ++ U ++ (V1 ++ V2) ++ Y = X ++ U ++ V1 ++ V2 ++ Y by simp, hsw, Option.bind_some]
    have e2 : w64 (((V1.length + V2.length : Nat) : Int) - (U.length : Int)) = (V1.length : Int) := by rw [w64_id (by omega) (by omega)]; omega
    rw [e2, ← hag]
    obtain ⟨X', U', V', Y', h1, h2, h3, h4, h5⟩ := ih X V2 V1 (U ++ Y) (by omega) (by omega) (by omega) (by omega) (by simp; omega)
    refine ⟨X', U', V', Y', ?_, h2, h3, by rw [h4]; simp, h5⟩
    rw [show ((U.length : Nat) : Int) = (V2.length : Int) by omega, show X ++ V2 ++ V1 ++ U ++ Y = X ++ V2 ++ V1 ++ (U ++ Y) by simp]
    exact h1

theorem rotate_eq (X U V Y : List D_amount_share) (hU : 0 < U.length) (hV : 0 < V.length) (hlen : (X ++ U ++ V ++ Y).length < 1000000000) :
  slices_rotateCmpFunc_amount_share (X ++ U ++ V ++ Y) (X.length : Int) ((X.length + U.length : Nat) : Int) ((X.length + U.length + V.length : Nat) : Int) () = some (X ++ V ++ U ++ Y, ()) := by
 unfold slices_rotateCmpFunc_amount_share
 simp only [List.length_append] at hlen
 have e1 : w64 (((X.length + U.length : Nat) : Int) - (X.length : Int)) = (U.length : Int) := by rw [w64_id (by omega) (by omega)]; omega
 have e2 : w64 (((X.length + U.length + V.length : Nat) : Int) - ((X.length + U.length : Nat) : Int)) = (V.length : Int) := by rw [w64_id (by omega) (by omega)]; omega
 rw [e1, e2]
 obtain ⟨X', U', V', Y', h1, h2, h3, h4, h5⟩ := rotate_loop (X.length + U.length) (Int.natAbs ((X.length + U.length : Nat) : Int) + (Int.natAbs (U.length : Int) + (Int.natAbs (V.length : Int) + (List.length (X ++ U ++ V ++ Y) + 2)))) X U V Y (by omega) hU hV rfl (by simp; omega)
 rw [h1, joinB_inr]
 dsimp only
 simp only [List.length_append] at h5
 have e3 : w64 (((X.length + U.length : Nat) : Int) - (U'.length : Int)) = (X'.length : Int) := by rw [w64_id (by omega) (by omega)]; omega
 have hsw := swapRange_eq X' [] Y' U' V' h2 (by simp; omega)
 simp only [List.append_nil, List.length_nil, Nat.add_zero] at hsw
 rw [e3, show ((X.length + U.length : Nat) : Int) = ((X'.length + U'.length : Nat) : Int) by omega, hsw, Option.bind_some, h4]

theorem move_up (i : Nat) : ∀ (n : Nat) (A V Y : List D_amount_share) (x : D_amount_share), V.length < n → A.length + 1 + V.length = i → (A ++ x :: V ++ Y).length < 1000000000 →
  iter (X := slices_symMergeCmpFunc_amount_share_x9) (β := slices_symMergeCmpFunc_amount_share_r9) n ((i : Int), (A.length : Int), A ++ x :: V ++ Y, ()) slices_symMergeCmpFunc_amount_share_b9 = some (Sum.inr (A ++ V ++ x :: Y, ())) := by
 intro n
 induction n with
 | zero => intro A V Y x h; omega
 | succ n ih =>
  intro A V Y x hn hi hlen
  rw [iter_succ]
  generalize hag : (fun y => iter n y slices_symMergeCmpFunc_amount_share_b9) = again
  unfold slices_symMergeCmpFunc_amount_share_b9
  dsimp only
  simp only [List.length_append, List.length_cons] at hlen
  have e0 : w64 ((i : Int) - 1) = (i : Int) - 1 := w64_id (by omega) (by omega)
  rw [e0]
  cases V with
  | nil => rw [bif_neg (by simp at hi; omega)]; simp
  | cons v V =>
   simp only [List.length_cons] at hn hi hlen
   have e1 : w64 ((A.length : Int) + 1) = ((A.length + 1 : Nat) : Int) := by rw [w64_id (by omega) (by omega)]; omega
   have el : A ++ x :: (v :: V) ++ Y = A ++ x :: v :: (V ++ Y) := by simp
   have hg : ((A ++ x :: v :: (V ++ Y)).set A.length v)[A.length + 1]? = some v := by rw [List.getElem?_set_ne (by omega), get_at1]
   rw [bif_pos (by omega), e1, el]
   simp only [Int.toNat_natCast, get_at, get_at1, Option.bind_some, hg, swap_adj', List.length_set]
   rw [chk_pos (by simp only [Bool.and_eq_true, decide_eq_true_eq, List.length_append, List.length_cons]; omega), chk_pos (by simp only [Bool.and_eq_true, decide_eq_true_eq, List.length_append, List.length_cons]; omega), chk_pos (by simp only [Bool.and_eq_true, decide_eq_true_eq, List.length_append, List.length_cons]; omega), chk_pos (by simp only [Bool.and_eq_true, decide_eq_true_eq, List.length_append, List.length_cons]; omega), ← hag]
   have := ih (A ++ [v]) V Y x (by omega) (by simp; omega) (by simp; omega)
   simp only [List.length_append, List.length_cons, List.length_nil, Nat.zero_add] at this
   show iter n _ _ = _
   rw [show A ++ v :: x :: (V ++ Y) = A ++ [v] ++ x :: V ++ Y by simp, this]
   simp

theorem move_down (A : List D_amount_share) : ∀ (n : Nat) (U Y : List D_amount_share) (y : D_amount_share), U.length < n → (A ++ U ++ y :: Y).length < 1000000000 →
  iter (X := slices_symMergeCmpFunc_amount_share_x21) (β := slices_symMergeCmpFunc_amount_share_r21) n ((A.length : Int), ((A.length + U.length : Nat) : Int), A ++ U ++ y :: Y, ()) slices_symMergeCmpFunc_amount_share_b21 = some (Sum.inr (A ++ y :: U ++ Y, ())) := by
 intro n
 induction n with
 | zero => intro U Y y h; omega
 | succ n ih =>
  intro U Y y hn hlen
  rw [iter_succ]
  generalize hag : (fun y => iter n y slices_symMergeCmpFunc_amount_share_b21) = again
  unfold slices_symMergeCmpFunc_amount_share_b21
  dsimp only
  simp only [List.length_append, List.length_cons] at hlen
  rcases List.eq_nil_or_concat U with rfl | ⟨V, u, rfl⟩
  ·rw [bif_neg (by simp)]; simp
  ·rw [List.concat_eq_append] at *
   simp only [List.length_append, List.length_cons, List.length_nil] at hn hlen ⊢
   have e1 : w64 (((A.length + (V.length + (0 + 1)) : Nat) : Int) - 1) = (((A ++ V).length : Nat) : Int) := by rw [w64_id (by omega) (by omega)]; simp; omega
   have e2 : ((A.length + (V.length + (0 + 1)) : Nat) : Int) = (((A ++ V).length + 1 : Nat) : Int) := by simp; omega
   have el : A ++ (V ++ [u]) ++ y :: Y = (A ++ V) ++ u :: y :: Y := by simp
   have hg : (((A ++ V) ++ u :: y :: Y).set ((A ++ V).length + 1) u)[(A ++ V).length]? = some u := by rw [List.getElem?_set_ne (by omega), get_at]
   rw [bif_pos (by omega), e1, e2, el]
   simp only [Int.toNat_natCast, get_at, get_at1, Option.bind_some, hg, swap_adj, List.length_set]
   rw [chk_pos (by simp only [Bool.and_eq_true, decide_eq_true_eq, List.length_append, List.length_cons]; omega), chk_pos (by simp only [Bool.and_eq_true, decide_eq_true_eq, List.length_append, List.length_cons]; omega), chk_pos (by simp only [Bool.and_eq_true, decide_eq_true_eq, List.length_append, List.length_cons]; omega), chk_pos (by simp only [Bool.and_eq_true, decide_eq_true_eq, List.length_append, List.length_cons]; omega), ← hag]
   have := ih V (u :: Y) y (by omega) (by simp; omega)
   show iter n _ _ = _
   rw [show (((A ++ V).length : Nat) : Int) = ((A.length + V.length : Nat) : Int) by simp, this]
   simp

theorem merge_one_left (hc : CmpOk k ok) (X R Y : List D_amount_share) (x : D_amount_share) (hlen : (X ++ [x] ++ R ++ Y).length < 1000000000) (hR : Srt k R) (hx : ok x) (hok : ∀ y ∈ R, ok y) (n : Nat) (hn : R.length < n) :
  ∃ R1 R2, R = R1 ++ R2 ∧ (∀ y ∈ R1, k y < k x) ∧ (∀ y ∈ R2, k x ≤ k y) ∧ iter (X := slices_symMergeCmpFunc_amount_share_x3) (β := slices_symMergeCmpFunc_amount_share_r3) n ((X.length : Int), (), ((X.length + 1 : Nat) : Int), ((X.length + 1 + R.length : Nat) : Int), X ++ [x] ++ R ++ Y, ()) slices_symMergeCmpFunc_amount_share_b3 = some (Sum.inr ((X.length : Int), ((X.length + 1 + R1.length : Nat) : Int), X ++ [x] ++ R ++ Y, ())) := by
 simp only [List.length_append, List.length_cons, List.length_nil] at hlen
 have hx0 : (X ++ [x] ++ R ++ Y)[X.length]? = some x := by simp
 have hRt : ∀ i (h : i < R.length), (X ++ [x] ++ R ++ Y)[X.length + 1 + i]? = some R[i] := fun i h => get_R X [x] R Y h
 obtain ⟨r, h1, h2, h3, h4, h5⟩ := bsearch (f := slices_symMergeCmpFunc_amount_share_b3) (fun i j => ((X.length : Int), (), (i : Int), (j : Int), X ++ [x] ++ R ++ Y, ())) (fun i => some (Sum.inr ((X.length : Int), (i : Int), X ++ [x] ++ R ++ Y, ())))
  (fun t => k ((R[t - (X.length + 1)]?).getD (0, 0, false, [])) < k x) (X.length + 1) (X.length + 1 + R.length) (by
   intro i j again hi hij hj
   unfold slices_symMergeCmpFunc_amount_share_b3
   dsimp only
   have hh : (i + j) / 2 - (X.length + 1) < R.length := by omega
   have hg := hRt _ hh
   rw [show X.length + 1 + ((i + j) / 2 - (X.length + 1)) = (i + j) / 2 by omega] at hg
   rw [bif_pos (by omega), half_eq i j (by omega)]
   simp only [Int.toNat_natCast, hg, hx0, Option.bind_some]
   obtain ⟨c, hcc, hlt⟩ := hc R[(i + j) / 2 - (X.length + 1)] x (hok _ (List.getElem_mem _)) hx
   rw [hcc, chk_pos (by simp only [Bool.and_eq_true, decide_eq_true_eq, List.length_append, List.length_cons]; omega), chk_pos (by simp only [Bool.and_eq_true, decide_eq_true_eq, List.length_append, List.length_cons]; omega), Option.bind_some, List.getElem?_eq_getElem hh]
   dsimp only [Option.getD]
   by_cases hk : k R[(i + j) / 2 - (X.length + 1)] < k x
   ·rw [bif_pos (hlt.2 hk), if_pos hk, w64_id (by omega) (by omega)]; rfl
   ·rw [bif_neg (fun h => hk (hlt.1 h)), if_neg hk])
  (by
   intro i again _ _
   unfold slices_symMergeCmpFunc_amount_share_b3
   dsimp only
   rw [bif_neg (by omega)])
  (by
   intro s t hs hst ht hP
   rw [List.getElem?_eq_getElem (by omega)] at hP ⊢
   have := hR.get (i := s - (X.length + 1)) (j := t - (X.length + 1)) (by omega) (by omega)
   simp only [Option.getD_some] at hP ⊢
   omega)
  n (X.length + 1) (X.length + 1 + R.length) (by omega) (Nat.le_refl _) (by omega) (Nat.le_refl _) (fun t h1 h2 => by omega) (fun t h1 h2 => by omega)
 obtain ⟨R1, R2, rfl, hR1⟩ := split_at (l := R) (n := r - (X.length + 1)) (by omega)
 refine ⟨R1, R2, rfl, ?_, ?_, ?_⟩
 ·intro y hy
  obtain ⟨i, hi, rfl⟩ := List.mem_iff_getElem.1 hy
  have := h4 (X.length + 1 + i) (by omega) (by omega)
  rw [show X.length + 1 + i - (X.length + 1) = i by omega, List.getElem?_append_left hi, List.getElem?_eq_getElem hi] at this
  exact this
 ·intro y hy
  obtain ⟨i, hi, rfl⟩ := List.mem_iff_getElem.1 hy
  have := h5 (X.length + 1 + (R1.length + i)) (by omega) (by simp; omega)
  rw [show X.length + 1 + (R1.length + i) - (X.length + 1) = R1.length + i by omega, List.getElem?_append_right (by omega), show R1.length + i - R1.length = i by omega, List.getElem?_eq_getElem hi] at this
  simp only [Option.getD_some] at this
  omega
 ·rw [h1, show X.length + 1 + R1.length = r by omega]

theorem merge_one_right (hc : CmpOk k ok) (X L Y : List D_amount_share) (y : D_amount_share) (hlen : (X ++ L ++ [y] ++ Y).length < 1000000000) (hL : Srt k L) (hy : ok y) (hok : ∀ z ∈ L, ok z) (n : Nat) (hn : L.length < n) :
  ∃ L1 L2, L = L1 ++ L2 ∧ (∀ z ∈ L1, k z ≤ k y) ∧ (∀ z ∈ L2, k y < k z) ∧ iter (X := slices_symMergeCmpFunc_amount_share_x15) (β := slices_symMergeCmpFunc_amount_share_r15) n (((X.length + L.length : Nat) : Int), (), (X.length : Int), ((X.length + L.length : Nat) : Int), X ++ L ++ [y] ++ Y, ()) slices_symMergeCmpFunc_amount_share_b15 = some (Sum.inr (((X.length + L.length : Nat) : Int), ((X.length + L1.length : Nat) : Int), X ++ L ++ [y] ++ Y, ())) := by
 simp only [List.length_append, List.length_cons, List.length_nil] at hlen
 have hy0 : (X ++ L ++ [y] ++ Y)[X.length + L.length]? = some y := by
  have := get_R X L [y] Y (i := 0) (by simp)
  simpa using this
 have hLt : ∀ i (h : i < L.length), (X ++ L ++ [y] ++ Y)[X.length + i]? = some L[i] := fun i h => get_L X L [y] Y h
 obtain ⟨r, h1, h2, h3, h4, h5⟩ := bsearch (f := slices_symMergeCmpFunc_amount_share_b15) (fun i j => (((X.length + L.length : Nat) : Int), (), (i : Int), (j : Int), X ++ L ++ [y] ++ Y, ())) (fun i => some (Sum.inr (((X.length + L.length : Nat) : Int), (i : Int), X ++ L ++ [y] ++ Y, ())))
  (fun t => ¬ k y < k ((L[t - X.length]?).getD (0, 0, false, []))) X.length (X.length + L.length) (by
   intro i j again hi hij hj
   unfold slices_symMergeCmpFunc_amount_share_b15
   dsimp only
   have hh : (i + j) / 2 - X.length < L.length := by omega
   have hg := hLt _ hh
   rw [show X.length + ((i + j) / 2 - X.length) = (i + j) / 2 by omega] at hg
   rw [bif_pos (by omega), half_eq i j (by omega)]
   simp only [Int.toNat_natCast, hg, hy0, Option.bind_some]
   obtain ⟨c, hcc, hlt⟩ := hc y L[(i + j) / 2 - X.length] hy (hok _ (List.getElem_mem _))
   rw [hcc, chk_pos (by simp only [Bool.and_eq_true, decide_eq_true_eq, List.length_append, List.length_cons]; omega), chk_pos (by simp only [Bool.and_eq_true, decide_eq_true_eq, List.length_append, List.length_cons]; omega), Option.bind_some, List.getElem?_eq_getElem hh]
   dsimp only [Option.getD]
   by_cases hk : k y < k L[(i + j) / 2 - X.length]
   ·rw [decide_eq_true (hlt.2 hk), Bool.not_true, cond_false, if_neg (fun h => h hk)]
   ·rw [decide_eq_false (fun h => hk (hlt.1 h)), Bool.not_false, cond_true, if_pos hk, w64_id (by omega) (by omega)]; rfl)
  (by
   intro i again _ _
   unfold slices_symMergeCmpFunc_amount_share_b15
   dsimp only
   rw [bif_neg (by omega)])
  (by
   intro s t hs hst ht hP
   rw [List.getElem?_eq_getElem (by omega)] at hP ⊢
   have := hL.get (i := s - X.length) (j := t - X.length) (by omega) (by omega)
   simp only [Option.getD_some] at hP ⊢
   omega)
  n X.length (X.length + L.length) (by omega) (Nat.le_refl _) (by omega) (Nat.le_refl _) (fun t h1 h2 => by omega) (fun t h1 h2 => by omega)
 obtain ⟨L1, L2, rfl, hL1⟩ := split_at (l := L) (n := r - X.length) (by omega)
 refine ⟨L1, L2, rfl, ?_, ?_, ?_⟩
 ·intro z hz
  obtain ⟨i, hi, rfl⟩ := List.mem_iff_getElem.1 hz
  have := h4 (X.length + i) (by omega) (by omega)
  rw [show X.length + i - X.length = i by omega, List.getElem?_append_left hi, List.getElem?_eq_getElem hi] at this
  simp only [Option.getD_some] at this
  omega
 ·intro z hz
  obtain ⟨i, hi, rfl⟩ := List.mem_iff_getElem.1 hz
  have := h5 (X.length + (L1.length + i)) (by omega) (by simp; omega)
  rw [show X.length + (L1.length + i) - X.length = L1.length + i by omega, List.getElem?_append_right (by omega), show L1.length + i - L1.length = i by omega, List.getElem?_eq_getElem hi] at this
  simp only [Option.getD_some] at this
  omega
 ·rw [h1, show X.length + L1.length = r by omega]

theorem merge_search (hc : CmpOk k ok) (X L R Y : List D_amount_share) (hlen : (X ++ L ++ R ++ Y).length < 1000000000) (hL : Srt k L) (hR : Srt k R) (hokL : ∀ z ∈ L, ok z) (hokR : ∀ z ∈ R, ok z) (mid lo hi : Nat) (hmid : mid = (X.length + (X.length + L.length + R.length)) / 2)
  (hcase : (mid < X.length + L.length ∧ lo + R.length = mid ∧ hi = mid ∧ X.length ≤ lo) ∨ (X.length + L.length ≤ mid ∧ lo = X.length ∧ hi = X.length + L.length)) (n : Nat) (hn : hi < n) :
  ∃ s : Nat, iter (X := slices_symMergeCmpFunc_amount_share_x33) (β := slices_symMergeCmpFunc_amount_share_r33) n ((X.length : Int), ((X.length + L.length : Nat) : Int), ((X.length + L.length + R.length : Nat) : Int), (), (mid : Int), ((mid + (X.length + L.length) : Nat) : Int), (lo : Int), (hi : Int), ((mid + (X.length + L.length) : Nat) : Int) - 1, X ++ L ++ R ++ Y, ()) slices_symMergeCmpFunc_amount_share_b33 = some (Sum.inr ((X.length : Int), ((X.length + L.length : Nat) : Int), ((X.length + L.length + R.length : Nat) : Int), (), (mid : Int), ((mid + (X.length + L.length) : Nat) : Int), (s : Int), X ++ L ++ R ++ Y, ())) ∧
   lo ≤ s ∧ s ≤ hi ∧ (∀ i j (_ : i < L.length) (_ : j < R.length), X.length + i + 1 = s → j + s = mid → k L[i] ≤ k R[j]) ∧ (∀ i j (_ : i < L.length) (_ : j < R.length), X.length + i = s → j + 1 + s = mid → k R[j] < k L[i]) := by
 simp only [List.length_append] at hlen
 have hLt : ∀ i (h : i < L.length), (X ++ L ++ R ++ Y)[X.length + i]? = some L[i] := fun i h => get_L X L R Y h
 have hRt : ∀ i (h : i < R.length), (X ++ L ++ R ++ Y)[X.length + L.length + i]? = some R[i] := fun i h => get_R X L R Y h
 obtain ⟨r, h1, h2, h3, h4, h5⟩ := bsearch (f := slices_symMergeCmpFunc_amount_share_b33) (fun i j => ((X.length : Int), ((X.length + L.length : Nat) : Int), ((X.length + L.length + R.length : Nat) : Int), (), (mid : Int), ((mid + (X.length + L.length) : Nat) : Int), (i : Int), (j : Int), ((mid + (X.length + L.length) : Nat) : Int) - 1, X ++ L ++ R ++ Y, ()))
  (fun s => some (Sum.inr ((X.length : Int), ((X.length + L.length : Nat) : Int), ((X.length + L.length + R.length : Nat) : Int), (), (mid : Int), ((mid + (X.length + L.length) : Nat) : Int), (s : Int), X ++ L ++ R ++ Y, ())))
  (fun t => ¬ k ((R[mid - 1 - t]?).getD (0, 0, false, [])) < k ((L[t - X.length]?).getD (0, 0, false, []))) lo hi (by
   intro i j again hi1 hij hj
   unfold slices_symMergeCmpFunc_amount_share_b33
   dsimp only
   generalize hh0 : (i + j) / 2 = h
   have hhL : h - X.length < L.length := by omega
   have hhR : mid - 1 - h < R.length := by omega
   have hg := hLt _ hhL
   rw [show X.length + (h - X.length) = h by omega] at hg
   have hg2 := hRt _ hhR
   rw [bif_pos (by omega), half_eq i j (by omega), hh0]
   have e1 : w64 (((mid + (X.length + L.length) : Nat) : Int) - 1 - (h : Int)) = ((X.length + L.length + (mid - 1 - h) : Nat) : Int) := by rw [w64_id (by omega) (by omega)]; omega
   rw [e1]
   simp only [Int.toNat_natCast, hg, hg2, Option.bind_some]
   obtain ⟨c, hcc, hlt⟩ := hc R[mid - 1 - h] L[h - X.length] (hokR _ (List.getElem_mem _)) (hokL _ (List.getElem_mem _))
   rw [hcc, chk_pos (by simp only [Bool.and_eq_true, decide_eq_true_eq, List.length_append]; omega), chk_pos (by simp only [Bool.and_eq_true, decide_eq_true_eq, List.length_append]; omega), Option.bind_some, List.getElem?_eq_getElem hhL, List.getElem?_eq_getElem hhR]
   dsimp only [Option.getD]
   by_cases hk : k R[mid - 1 - h] < k L[h - X.length]
   ·rw [decide_eq_true (hlt.2 hk), Bool.not_true, cond_false, if_neg (fun h => h hk)]
   ·rw [decide_eq_false (fun h => hk (hlt.1 h)), Bool.not_false, cond_true, if_pos hk, w64_id (by omega) (by omega)]; rfl)
  (by
   intro i again _ _
   unfold slices_symMergeCmpFunc_amount_share_b33
   dsimp only
   rw [bif_neg (by omega)])
  (by
   intro s t hs hst ht hP
   rw [List.getElem?_eq_getElem (show t - X.length < L.length by omega), List.getElem?_eq_getElem (show mid - 1 - t < R.length by omega)] at hP
   rw [List.getElem?_eq_getElem (show s - X.length < L.length by omega), List.getElem?_eq_getElem (show mid - 1 - s < R.length by omega)]
   have a1 := hL.get (i := s - X.length) (j := t - X.length) (by omega) (by omega)
   have a2 := hR.get (i := mid - 1 - t) (j := mid - 1 - s) (by omega) (by omega)
   simp only [Option.getD_some] at hP ⊢
   omega)
  n lo hi (by omega) (Nat.le_refl _) (by omega) (Nat.le_refl _) (fun t h1 h2 => by omega) (fun t h1 h2 => by omega)
 refine ⟨r, h1, h2, h3, ?_, ?_⟩
 ·intro i j hi' hj' e1 e2
  have := h4 (X.length + i) (by omega) (by omega)
  rw [show X.length + i - X.length = i by omega, show mid - 1 - (X.length + i) = j by omega, List.getElem?_eq_getElem hi', List.getElem?_eq_getElem hj'] at this
  simp only [Option.getD_some] at this
  omega
 ·intro i j hi' hj' e1 e2
  have := h5 (X.length + i) (by omega) (by omega)
  rw [show X.length + i - X.length = i by omega, show mid - 1 - (X.length + i) = j by omega, List.getElem?_eq_getElem hi', List.getElem?_eq_getElem hj'] at this
  simp only [Option.getD_some] at this
  omega

def symF (self : ((List D_amount_share) × Int × Int × Int × Unit × Unit) → Option ((List D_amount_share) × Unit)) (x : (List D_amount_share) × Int × Int × Int × Unit × Unit) := slices_symMergeCmpFunc_amount_share_F self x.1 x.2.1 x.2.2.1 x.2.2.2.1 x.2.2.2.2.1

set_option maxHeartbeats 4000000 in
theorem symMerge_rec (hc : CmpOk k ok) : ∀ (n : Nat) (X L R Y : List D_amount_share), L.length + R.length < n + 2 → 0 < L.length → 0 < R.length → (X ++ L ++ R ++ Y).length < 1000000000 → Srt k L → Srt k R → (∀ z ∈ L, ok z) → (∀ z ∈ R, ok z) →
  ∃ S, recM symF n (X ++ L ++ R ++ Y, (X.length : Int), ((X.length + L.length : Nat) : Int), ((X.length + L.length + R.length : Nat) : Int), (), ()) = some (X ++ S ++ Y, ()) ∧ Srt k S ∧ SamE k (L ++ R) S := by
 intro n
 induction n with
 | zero => intro X L R Y h h1 h2; omega
 | succ n ih =>
  intro X L R Y hn hL0 hR0 hlen hL hR hokL hokR
  have hlen' := hlen
  simp only [List.length_append] at hlen
  show ∃ S, symF (recM symF n) _ = _ ∧ _
  generalize hself : recM symF n = self at ih
  unfold symF slices_symMergeCmpFunc_amount_share_F
  dsimp only
  have e1 : w64 (((X.length + L.length : Nat) : Int) - (X.length : Int)) = (L.length : Int) := by rw [w64_id (by omega) (by omega)]; omega
  have e2 : w64 (((X.length + L.length + R.length : Nat) : Int) - ((X.length + L.length : Nat) : Int)) = (R.length : Int) := by rw [w64_id (by omega) (by omega)]; omega
  rw [e1, e2]
  by_cases hL1 : L.length = 1
  ·obtain ⟨x, rfl⟩ : ∃ x, L = [x] := List.length_eq_one_iff.1 hL1
   rw [show ((([x].length : Nat) : Int) == 1) = true by simp, cond_true]
   obtain ⟨R1, R2, rfl, h1, h2, h3⟩ := merge_one_left hc X R Y x hlen' hR (hokL x (by simp)) hokR (Int.natAbs (X.length : Int) + (Int.natAbs ((X.length + [x].length : Nat) : Int) + (Int.natAbs ((X.length + [x].length + R.length : Nat) : Int) + (List.length (X ++ [x] ++ R ++ Y) + 2)))) (by simp; omega)
   simp only [List.length_cons, List.length_nil, Nat.zero_add] at h3 ⊢
   rw [h3, joinB_inr]
   dsimp only
   have hmv := move_up (X.length + 1 + R1.length) (Int.natAbs ((X.length + 1 + R1.length : Nat) : Int) + (Int.natAbs (X.length : Int) + (List.length (X ++ [x] ++ (R1 ++ R2) ++ Y) + 2))) X R1 (R2 ++ Y) x (by simp; omega) rfl (by simp at hlen ⊢; omega)
   rw [show X ++ x :: R1 ++ (R2 ++ Y) = X ++ [x] ++ (R1 ++ R2) ++ Y by simp] at hmv
   rw [hmv, joinB_inr]
   refine ⟨R1 ++ x :: R2, by simp, ?_, ?_⟩
   ·exact hR.left.append (List.pairwise_cons.2 ⟨h2, hR.right⟩) (fun y hy z hz => by
     rcases List.mem_cons.1 hz with rfl | hz
     ·have := h1 y hy; omega
     ·exact hR.cross y hy z hz)
   ·have := (SamE.swap (k := k) (u := [x]) (v := R1) (fun y hy z hz => by rw [List.mem_singleton.1 hy]; have := h1 z hz; omega)).append (SamE.refl k R2)
    simpa using this
  ·rw [show (((L.length : Nat) : Int) == 1) = false by simp; omega, cond_false]
   by_cases hR1 : R.length = 1
   ·obtain ⟨y, rfl⟩ : ∃ x, R = [x] := List.length_eq_one_iff.1 hR1
    rw [show ((([y].length : Nat) : Int) == 1) = true by simp, cond_true]
    obtain ⟨L1, L2, rfl, h1, h2, h3⟩ := merge_one_right hc X L Y y hlen' hL (hokR y (by simp)) hokL (Int.natAbs ((X.length + L.length : Nat) : Int) + (Int.natAbs (X.length : Int) + (Int.natAbs ((X.length + L.length : Nat) : Int) + (List.length (X ++ L ++ [y] ++ Y) + 2)))) (by omega)
    rw [h3, joinB_inr]
    dsimp only
    have hmv := move_down (X ++ L1) (Int.natAbs ((X.length + L1.length : Nat) : Int) + (Int.natAbs ((X.length + (L1 ++ L2).length : Nat) : Int) + (List.length (X ++ (L1 ++ L2) ++ [y] ++ Y) + 2))) L2 Y y (by simp; omega) (by simp at hlen ⊢; omega)
    rw [show X ++ L1 ++ L2 ++ y :: Y = X ++ (L1 ++ L2) ++ [y] ++ Y by simp, show (((X ++ L1).length : Nat) : Int) = ((X.length + L1.length : Nat) : Int) by simp, show (((X ++ L1).length + L2.length : Nat) : Int) = ((X.length + (L1 ++ L2).length : Nat) : Int) by simp; omega] at hmv
    rw [hmv, joinB_inr]
    refine ⟨L1 ++ y :: L2, by simp, ?_, ?_⟩
    ·exact hL.left.append (List.pairwise_cons.2 ⟨fun z hz => by have := h2 z hz; omega, hL.right⟩) (fun z hz w hw => by
      rcases List.mem_cons.1 hw with rfl | hw
      ·exact h1 z hz
      ·exact hL.cross z hz w hw)
    ·have := (SamE.refl k L1).append (SamE.swap (k := k) (u := L2) (v := [y]) (fun z hz w hw => by rw [List.mem_singleton.1 hw]; have := h2 z hz; omega))
     simpa using this
   ·rw [show (((R.length : Nat) : Int) == 1) = false by simp; omega, cond_false]
    have eh := half_eq X.length (X.length + L.length + R.length) (by omega)
    rw [eh]
    generalize hmid : (X.length + (X.length + L.length + R.length)) / 2 = mid
    have e3 : w64 ((mid : Int) + ((X.length + L.length : Nat) : Int)) = ((mid + (X.length + L.length) : Nat) : Int) := by rw [w64_id (by omega) (by omega)]; omega
    rw [e3]
    -- where to look
    obtain ⟨lo, hi, hcase, hv⟩ : ∃ lo hi : Nat, ((mid < X.length + L.length ∧ lo + R.length = mid ∧ hi = mid ∧ X.length ≤ lo) ∨ (X.length + L.length ≤ mid ∧ lo = X.length ∧ hi = X.length + L.length)) ∧
      (bif decide (((X.length + L.length : Nat) : Int) > (mid : Int)) then
       (some (Sum.inr ((X.length : Int), ((X.length + L.length : Nat) : Int), ((X.length + L.length + R.length : Nat) : Int), (), (mid : Int), ((mid + (X.length + L.length) : Nat) : Int), w64 (((mid + (X.length + L.length) : Nat) : Int) - ((X.length + L.length + R.length : Nat) : Int)), (mid : Int), X ++ L ++ R ++ Y, ())) : Option (((List D_amount_share) × Unit) ⊕ (Int × Int × Int × Unit × Int × Int × Int × Int × (List D_amount_share) × Unit)))
      else some (Sum.inr ((X.length : Int), ((X.length + L.length : Nat) : Int), ((X.length + L.length + R.length : Nat) : Int), (), (mid : Int), ((mid + (X.length + L.length) : Nat) : Int), (X.length : Int), ((X.length + L.length : Nat) : Int), X ++ L ++ R ++ Y, ()))) = some (Sum.inr ((X.length : Int), ((X.length + L.length : Nat) : Int), ((X.length + L.length + R.length : Nat) : Int), (), (mid : Int), ((mid + (X.length + L.length) : Nat) : Int), (lo : Int), (hi : Int), X ++ L ++ R ++ Y, ())) := by
     by_cases hm : mid < X.length + L.length
     ·refine ⟨mid - R.length, mid, .inl ⟨hm, by omega, rfl, by omega⟩, ?_⟩
      rw [bif_pos (by omega), w64_id (by omega) (by omega), show ((mid + (X.length + L.length) : Nat) : Int) - ((X.length + L.length + R.length : Nat) : Int) = ((mid - R.length : Nat) : Int) by omega]
     ·refine ⟨X.length, X.length + L.length, .inr ⟨by omega, rfl, rfl⟩, ?_⟩
      rw [bif_neg (by omega)]
    rw [hv, joinB_inr]
    dsimp only
    have e4 : w64 (((mid + (X.length + L.length) : Nat) : Int) - 1) = ((mid + (X.length + L.length) : Nat) : Int) - 1 := w64_id (by omega) (by omega)
    rw [e4]
    obtain ⟨s, h1, h2, h3, hF2, hF1⟩ := merge_search hc X L R Y hlen' hL hR hokL hokR mid lo hi hmid.symm hcase (Int.natAbs (X.length : Int) + (Int.natAbs ((X.length + L.length : Nat) : Int) + (Int.natAbs ((X.length + L.length + R.length : Nat) : Int) + (Int.natAbs (mid : Int) + (Int.natAbs ((mid + (X.length + L.length) : Nat) : Int) + (Int.natAbs (lo : Int) + (Int.natAbs (hi : Int) + (Int.natAbs (((mid + (X.length + L.length) : Nat) : Int) - 1) + (List.length (X ++ L ++ R ++ Y) + 2))))))))) (by omega)
    rw [h1, joinB_inr]
    dsimp only
    clear h1 hv
    -- the four parts
    obtain ⟨L1, L2, rfl, hL1l⟩ := split_at (l := L) (n := s - X.length) (by omega)
    obtain ⟨R1, R2, rfl, hR1l⟩ := split_at (l := R) (n := mid - s) (by simp only [List.length_append] at *; omega)
    simp only [List.length_append] at hn hlen hL1 hR1 hmid hcase e1 e2 e3 e4 eh hL0 hR0
    have F1 : ∀ y ∈ R1, ∀ z ∈ L2, k y < k z := by
     intro y hy z hz
     have hr0 : 0 < R1.length := List.length_pos_of_mem hy
     have hl0 : 0 < L2.length := List.length_pos_of_mem hz
     have := hF1 L1.length (R1.length - 1) (by simp; omega) (by simp; omega) (by omega) (by omega)
     rw [List.getElem_append_left (show R1.length - 1 < R1.length by omega), List.getElem_append_right (by omega)] at this
     obtain ⟨i, hi', rfl⟩ := List.mem_iff_getElem.1 hy
     obtain ⟨j, hj', rfl⟩ := List.mem_iff_getElem.1 hz
     have a1 := hR.left.get (i := i) (j := R1.length - 1) (by omega) (by omega)
     have a2 := hL.right.get (i := L1.length - L1.length) (j := j) (by omega) hj'
     omega
    have F2 : ∀ y ∈ L1, ∀ z ∈ R2, k y ≤ k z := by
     intro y hy z hz
     have hr0 : 0 < L1.length := List.length_pos_of_mem hy
     have hl0 : 0 < R2.length := List.length_pos_of_mem hz
     have := hF2 (L1.length - 1) R1.length (by simp; omega) (by simp; omega) (by omega) (by omega)
     rw [List.getElem_append_left (show L1.length - 1 < L1.length by omega), List.getElem_append_right (by omega)] at this
     obtain ⟨i, hi', rfl⟩ := List.mem_iff_getElem.1 hy
     obtain ⟨j, hj', rfl⟩ := List.mem_iff_getElem.1 hz
     have a1 := hL.left.get (i := i) (j := L1.length - 1) (by omega) (by omega)
     have a2 := hR.right.get (i := R1.length - R1.length) (j := j) (by omega) hj'
     omega
    have e5 : w64 (((mid + (X.length + (L1 ++ L2).length) : Nat) : Int) - (s : Int)) = ((X.length + (L1 ++ L2).length + R1.length : Nat) : Int) := by
     rw [w64_id (by simp; omega) (by simp; omega)]; simp only [List.length_append]; omega
    rw [e5]
    have hokL1 : ∀ z ∈ L1, ok z := fun z hz => hokL z (by simp [hz])
    have hokL2 : ∀ z ∈ L2, ok z := fun z hz => hokL z (by simp [hz])
    have hokR1 : ∀ z ∈ R1, ok z := fun z hz => hokR z (by simp [hz])
    have hokR2 : ∀ z ∈ R2, ok z := fun z hz => hokR z (by simp [hz])
    -- the first half
    have ph1 : ∃ S1, (X.length < s → s < mid → self (X ++ L1 ++ R1 ++ (L2 ++ R2 ++ Y), (X.length : Int), (s : Int), (mid : Int), (), ()) = some (X ++ S1 ++ (L2 ++ R2 ++ Y), ())) ∧ (¬(X.length < s ∧ s < mid) → S1 = L1 ++ R1) ∧ Srt k S1 ∧ SamE k (L1 ++ R1) S1 := by
     by_cases hb : X.length < s ∧ s < mid
     ·obtain ⟨S1, g1, g2, g3⟩ := ih X L1 R1 (L2 ++ R2 ++ Y) (by omega) (by omega) (by omega) (by simp; omega) hL.left hR.left hokL1 hokR1
      rw [show ((X.length + L1.length : Nat) : Int) = (s : Int) by omega, show ((X.length + L1.length + R1.length : Nat) : Int) = (mid : Int) by omega] at g1
      exact ⟨S1, fun _ _ => g1, fun h => absurd hb h, g2, g3⟩
     ·refine ⟨L1 ++ R1, fun h1 h2 => absurd ⟨h1, h2⟩ hb, fun _ => rfl, ?_, SamE.refl _ _⟩
      rcases (show L1.length = 0 ∨ R1.length = 0 by omega) with h | h
      ·rw [List.eq_nil_of_length_eq_zero h]; exact hR.left
      ·rw [List.eq_nil_of_length_eq_zero h, List.append_nil]; exact hL.left
    obtain ⟨S1, hS1a, hS1b, hS1s, hS1e⟩ := ph1
    have hS1l : S1.length = L1.length + R1.length := by rw [hS1e.length]; simp
    -- the second half
    have ph2 : ∃ S2, (bif decide ((mid : Int) < ((X.length + (L1 ++ L2).length + R1.length : Nat) : Int)) then
       bif decide (((X.length + (L1 ++ L2).length + R1.length : Nat) : Int) < ((X.length + (L1 ++ L2).length + (R1 ++ R2).length : Nat) : Int)) then
        Option.bind (self (X ++ S1 ++ (L2 ++ R2 ++ Y), (mid : Int), ((X.length + (L1 ++ L2).length + R1.length : Nat) : Int), ((X.length + (L1 ++ L2).length + (R1 ++ R2).length : Nat) : Int), (), ())) fun r38 => some (r38.1, ())
       else some (X ++ S1 ++ (L2 ++ R2 ++ Y), ())
      else some (X ++ S1 ++ (L2 ++ R2 ++ Y), ())) = some (X ++ (S1 ++ S2) ++ Y, ()) ∧ Srt k S2 ∧ SamE k (L2 ++ R2) S2 := by
     simp only [List.length_append]
     by_cases hb1 : 0 < L2.length
     ·rw [bif_pos (by omega)]
      by_cases hb2 : 0 < R2.length
      ·rw [bif_pos (by omega)]
       obtain ⟨S2, g1, g2, g3⟩ := ih (X ++ S1) L2 R2 Y (by omega) hb1 hb2 (by simp; omega) hL.right hR.right hokL2 hokR2
       rw [show (((X ++ S1).length : Nat) : Int) = (mid : Int) by simp; omega, show (((X ++ S1).length + L2.length : Nat) : Int) = ((X.length + (L1.length + L2.length) + R1.length : Nat) : Int) by simp; omega, show (((X ++ S1).length + L2.length + R2.length : Nat) : Int) = ((X.length + (L1.length + L2.length) + (R1.length + R2.length) : Nat) : Int) by simp; omega] at g1
       rw [show X ++ S1 ++ (L2 ++ R2 ++ Y) = X ++ S1 ++ L2 ++ R2 ++ Y by simp, g1]
       exact ⟨S2, by simp, g2, g3⟩
      ·have : R2 = [] := List.eq_nil_of_length_eq_zero (by omega)
       subst this
       rw [bif_neg (by simp)]
       exact ⟨L2, by simp, hL.right, by simpa using SamE.refl k L2⟩
     ·have : L2 = [] := List.eq_nil_of_length_eq_zero (by omega)
      subst this
      rw [bif_neg (by simp; omega)]
      exact ⟨R2, by simp, hR.right, SamE.refl _ _⟩
    obtain ⟨S2, hE2, hS2s, hS2e⟩ := ph2
    have fin : Srt k (S1 ++ S2) ∧ SamE k (L1 ++ L2 ++ (R1 ++ R2)) (S1 ++ S2) := by
     constructor
     ·refine hS1s.append hS2s fun y hy z hz => ?_
      rcases List.mem_append.1 (hS1e.mem.1 hy) with h | h <;> rcases List.mem_append.1 (hS2e.mem.1 hz) with h' | h'
      ·exact hL.cross y h z h'
      ·exact F2 y h z h'
      ·have := F1 y h z h'; omega
      ·exact hR.cross y h z h'
     ·have h1 : SamE k (L1 ++ (L2 ++ R1) ++ R2) (L1 ++ (R1 ++ L2) ++ R2) := ((SamE.refl k L1).append (SamE.swap fun y hy z hz => by have := F1 z hz y hy; omega)).append (SamE.refl k R2)
      have h2 := hS1e.append hS2e
      have h3 : SamE k (L1 ++ L2 ++ (R1 ++ R2)) (L1 ++ R1 ++ (L2 ++ R2)) := by simpa using h1
      exact h3.trans h2
    refine ⟨S1 ++ S2, ?_, fin.1, fin.2⟩
    have hsL : ((X.length + (L1 ++ L2).length : Nat) : Int) = ((X.length + L1.length + L2.length : Nat) : Int) := by simp; omega
    -- the list with its blocks in place
    have tail : ∀ (D : List D_amount_share), D = X ++ L1 ++ R1 ++ (L2 ++ R2 ++ Y) →
      (bif decide ((X.length : Int) < (s : Int)) then
       joinB (β := ((List D_amount_share) × Unit)) (γ := (Int × Unit × Int × Int × (List D_amount_share) × Unit)) (
        bif decide ((s : Int) < (mid : Int)) then
         Option.bind (self (D, (X.length : Int), (s : Int), (mid : Int), (), ())) fun r35 =>
         some (Sum.inr (((X.length + (L1 ++ L2).length + (R1 ++ R2).length : Nat) : Int), (), (mid : Int), ((X.length + (L1 ++ L2).length + R1.length : Nat) : Int), r35.1, ()))
        else
         some (Sum.inr (((X.length + (L1 ++ L2).length + (R1 ++ R2).length : Nat) : Int), (), (mid : Int), ((X.length + (L1 ++ L2).length + R1.length : Nat) : Int), D, ()))) fun v36 =>
       bif decide (v36.2.2.1 < v36.2.2.2.1) then
        bif decide (v36.2.2.2.1 < v36.1) then
         Option.bind (self (v36.2.2.2.2.1, v36.2.2.1, v36.2.2.2.1, v36.1, v36.2.1, ())) fun r37 =>
         some (r37.1, ())
        else
         some (v36.2.2.2.2.1, ())
       else
        some (v36.2.2.2.2.1, ())
      else
       bif decide ((mid : Int) < ((X.length + (L1 ++ L2).length + R1.length : Nat) : Int)) then
        bif decide (((X.length + (L1 ++ L2).length + R1.length : Nat) : Int) < ((X.length + (L1 ++ L2).length + (R1 ++ R2).length : Nat) : Int)) then
         Option.bind (self (D, (mid : Int), ((X.length + (L1 ++ L2).length + R1.length : Nat) : Int), ((X.length + (L1 ++ L2).length + (R1 ++ R2).length : Nat) : Int), (), ())) fun r38 =>
         some (r38.1, ())
        else
         some (D, ())
       else
        some (D, ())) = some (X ++ (S1 ++ S2) ++ Y, ()) := by
     intro D hD
     by_cases hb1 : X.length < s
     ·rw [bif_pos (by omega)]
      by_cases hb2 : s < mid
      ·rw [bif_pos (by omega), hD, hS1a hb1 hb2, Option.bind_some, joinB_inr]
       exact hE2
      ·rw [bif_neg (by omega), joinB_inr, hD]
       have : X ++ L1 ++ R1 ++ (L2 ++ R2 ++ Y) = X ++ S1 ++ (L2 ++ R2 ++ Y) := by rw [hS1b (fun h => hb2 h.2)]; simp
       rw [this]
       exact hE2
     ·rw [bif_neg (by omega), hD]
      have : X ++ L1 ++ R1 ++ (L2 ++ R2 ++ Y) = X ++ S1 ++ (L2 ++ R2 ++ Y) := by rw [hS1b (fun h => hb1 h.1)]; simp
      rw [this]
      exact hE2
    by_cases hsm : s < X.length + (L1 ++ L2).length
    ·rw [bif_pos (by omega)]
     by_cases hme : 0 < R1.length
     ·have hrot := rotate_eq (X ++ L1) L2 R1 (R2 ++ Y) (by simp at hsm; omega) hme (by simp; omega)
      rw [show (((X ++ L1).length : Nat) : Int) = (s : Int) by simp; omega, show (((X ++ L1).length + L2.length : Nat) : Int) = ((X.length + (L1 ++ L2).length : Nat) : Int) by simp; omega, show (((X ++ L1).length + L2.length + R1.length : Nat) : Int) = ((X.length + (L1 ++ L2).length + R1.length : Nat) : Int) by simp; omega,
       show X ++ L1 ++ L2 ++ R1 ++ (R2 ++ Y) = X ++ (L1 ++ L2) ++ (R1 ++ R2) ++ Y by simp] at hrot
      rw [bif_pos (by omega), hrot, Option.bind_some, joinB_inr]
      exact tail _ (by simp)
     ·have : R1 = [] := List.eq_nil_of_length_eq_zero (by omega)
      subst this
      rw [bif_neg (by simp), joinB_inr]
      exact tail _ (by simp)
    ·rw [bif_neg (by omega)]
     have : L2 = [] := List.eq_nil_of_length_eq_zero (by simp at hsm; omega)
     subst this
     exact tail _ (by simp)
theorem symMerge_eq (hc : CmpOk k ok) (X L R Y : List D_amount_share) (h1 : 0 < L.length) (h2 : 0 < R.length) (hlen : (X ++ L ++ R ++ Y).length < 1000000000) (hL : Srt k L) (hR : Srt k R) (hokL : ∀ z ∈ L, ok z) (hokR : ∀ z ∈ R, ok z) :
  ∃ S, slices_symMergeCmpFunc_amount_share (X ++ L ++ R ++ Y) (X.length : Int) ((X.length + L.length : Nat) : Int) ((X.length + L.length + R.length : Nat) : Int) () = some (X ++ S ++ Y, ()) ∧ Srt k S ∧ SamE k (L ++ R) S := by
 unfold slices_symMergeCmpFunc_amount_share
 exact symMerge_rec hc _ X L R Y (by unfold slices_symMergeCmpFunc_amount_share_fuel; simp only [List.length_append]; omega) h1 h2 hlen hL hR hokL hokR

theorem stable_first (hc : CmpOk k ok) (N : Nat) (hN : N < 100000000) : ∀ (n : Nat) (A Z : List D_amount_share) (j : Nat), A.length = j * 20 → A.length + Z.length = N → Z.length < n → ChS k 20 A → (∀ z ∈ A, ok z) → (∀ z ∈ Z, ok z) →
  ∃ A' Z' j', iter (X := slices_stableCmpFunc_amount_share_x2) (β := slices_stableCmpFunc_amount_share_r2) n ((N : Int), (), 20, (A.length : Int), ((A.length + 20 : Nat) : Int), A ++ Z, ()) slices_stableCmpFunc_amount_share_b2 = some (Sum.inr ((N : Int), (), 20, (A'.length : Int), A' ++ Z', ())) ∧ A'.length = j' * 20 ∧ Z'.length < 20 ∧ ChS k 20 A' ∧ SamE k (A ++ Z) (A' ++ Z') := by
 intro n
 induction n with
 | zero => intro A Z j _ _ h; omega
 | succ n ih =>
  intro A Z j hA hAZ hn hch hokA hokZ
  rw [iter_succ]
  generalize hag : (fun y => iter n y slices_stableCmpFunc_amount_share_b2) = again
  unfold slices_stableCmpFunc_amount_share_b2
  dsimp only
  by_cases hb : 20 ≤ Z.length
  ·rw [bif_pos (by omega)]
   obtain ⟨S, Y, rfl, hS⟩ := split_at (l := Z) (n := 20) hb
   simp only [List.length_append] at hAZ hn
   obtain ⟨S', g1, g2, g3⟩ := insertion_eq hc A S Y (by simp; omega) (fun z hz => hokZ z (by simp [hz]))
   rw [hS] at g1
   rw [show A ++ (S ++ Y) = A ++ S ++ Y by simp, g1, Option.bind_some]
   dsimp only
   have hS' : S'.length = 20 := by rw [g3.length, hS]
   have e1 : w64 (((A.length + 20 : Nat) : Int) + 20) = (((A ++ S').length + 20 : Nat) : Int) := by rw [w64_id (by omega) (by omega)]; simp; omega
   rw [e1, show ((A.length + 20 : Nat) : Int) = (((A ++ S').length : Nat) : Int) by simp; omega, ← hag]
   obtain ⟨A', Z', j', h1, h2, h3, h4, h5⟩ := ih (A ++ S') Y (j + 1) (by simp; omega) (by simp; omega) (by omega) (hch.snoc hA g2 (by omega)) (fun z hz => by
    rcases List.mem_append.1 hz with h | h
    ·exact hokA z h
    ·exact hokZ z (by simp [g3.mem.1 h])) (fun z hz => hokZ z (by simp [hz]))
   refine ⟨A', Z', j', h1, h2, h3, h4, ?_⟩
   have : SamE k (A ++ S ++ Y) (A ++ S' ++ Y) := ((SamE.refl k A).append g3).append (SamE.refl k Y)
   exact this.trans h5
  ·rw [bif_neg (by omega)]
   exact ⟨A, Z, j, rfl, hA, by omega, hch, SamE.refl _ _⟩

theorem stable_pass (hc : CmpOk k ok) (N bs : Nat) (hN : N < 100000000) (hbs : 0 < bs) (hbN : bs < N) : ∀ (n : Nat) (A Z : List D_amount_share) (j : Nat), A.length = j * (2 * bs) → A.length + Z.length = N → Z.length < n → ChS k (2 * bs) A → ChS k bs Z → (∀ z ∈ A, ok z) → (∀ z ∈ Z, ok z) →
  ∃ A' Z' j', iter (X := slices_stableCmpFunc_amount_share_x9) (β := slices_stableCmpFunc_amount_share_r9) n ((N : Int), (), (bs : Int), (A.length : Int), ((A.length + 2 * bs : Nat) : Int), A ++ Z, ()) slices_stableCmpFunc_amount_share_b9 = some (Sum.inr ((N : Int), (), (bs : Int), (A'.length : Int), A' ++ Z', ())) ∧ A'.length = j' * (2 * bs) ∧ Z'.length < 2 * bs ∧ ChS k (2 * bs) A' ∧ ChS k bs Z' ∧ SamE k (A ++ Z) (A' ++ Z') := by
 intro n
 induction n with
 | zero => intro A Z j _ _ h; omega
 | succ n ih =>
  intro A Z j hA hAZ hn hch hcz hokA hokZ
  rw [iter_succ]
  generalize hag : (fun y => iter n y slices_stableCmpFunc_amount_share_b9) = again
  unfold slices_stableCmpFunc_amount_share_b9
  dsimp only
  by_cases hb : 2 * bs ≤ Z.length
  ·rw [bif_pos (by omega)]
   obtain ⟨L, Z1, rfl, hL⟩ := split_at (l := Z) (n := bs) (by omega)
   obtain ⟨R, Y, rfl, hR⟩ := split_at (l := Z1) (n := bs) (by simp at hb; omega)
   simp only [List.length_append] at hAZ hn hb
   have sL : Srt k L := by
    have := hcz 0
    rw [Nat.zero_mul, List.drop_zero, ← hL, List.take_left] at this
    exact this
   have sR : Srt k R := by
    have := hcz 1
    rw [Nat.one_mul] at this
    conv at this => arg 2; rw [show bs = L.length by omega, List.drop_left, show L.length = R.length by omega, List.take_left]
    exact this
   have cY : ChS k bs Y := by
    have := hcz.drop 2
    rw [show L ++ (R ++ Y) = (L ++ R) ++ Y by simp, show 2 * bs = (L ++ R).length by simp; omega, List.drop_left] at this
    exact this
   obtain ⟨S, g1, g2, g3⟩ := symMerge_eq hc A L R Y (by omega) (by omega) (by simp; omega) sL sR (fun z hz => hokZ z (by simp [hz])) (fun z hz => hokZ z (by simp [hz]))
   have e0 : w64 ((A.length : Int) + (bs : Int)) = ((A.length + L.length : Nat) : Int) := by rw [w64_id (by omega) (by omega)]; omega
   rw [e0, show ((A.length + 2 * bs : Nat) : Int) = ((A.length + L.length + R.length : Nat) : Int) by omega, show A ++ (L ++ (R ++ Y)) = A ++ L ++ R ++ Y by simp, g1, Option.bind_some]
   dsimp only
   have hSl : S.length = 2 * bs := by rw [g3.length]; simp; omega
   have e1 : w64 (((A.length + L.length + R.length : Nat) : Int) + w64 (2 * (bs : Int))) = (((A ++ S).length + 2 * bs : Nat) : Int) := by
    rw [w64_id (n := 2 * (bs : Int)) (by omega) (by omega), w64_id (by omega) (by omega)]; simp; omega
   rw [e1, show ((A.length + L.length + R.length : Nat) : Int) = (((A ++ S).length : Nat) : Int) by simp; omega, ← hag]
   obtain ⟨A', Z', j', h1, h2, h3, h4, h5, h6⟩ := ih (A ++ S) Y (j + 1) (by rw [List.length_append, hA, hSl, Nat.add_mul, Nat.one_mul]) (by simp; omega) (by omega) (hch.snoc hA g2 (by omega)) cY (fun z hz => by
    rcases List.mem_append.1 hz with h | h
    ·exact hokA z h
    ·rcases List.mem_append.1 (g3.mem.1 h) with h | h <;> exact hokZ z (by simp [h])) (fun z hz => hokZ z (by simp [hz]))
   refine ⟨A', Z', j', h1, h2, h3, h4, h5, ?_⟩
   have : SamE k (A ++ (L ++ R) ++ Y) (A ++ S ++ Y) := ((SamE.refl k A).append g3).append (SamE.refl k Y)
   have h7 := this.trans h6
   simpa using h7
  ·rw [bif_neg (by omega)]
   exact ⟨A, Z, j, rfl, hA, by omega, hch, hcz, SamE.refl _ _⟩

theorem stable_last (hc : CmpOk k ok) (N : Nat) (hN : N < 100000000) : ∀ (n bs : Nat) (l : List D_amount_share), l.length = N → 0 < bs → N < bs + n ∧ 0 < n → bs < 400000000 → ChS k bs l → (∀ z ∈ l, ok z) →
  ∃ l', iter (X := slices_stableCmpFunc_amount_share_x7) (β := slices_stableCmpFunc_amount_share_r7) n ((N : Int), (), (bs : Int), l, ()) slices_stableCmpFunc_amount_share_b7 = some (Sum.inr (l', ())) ∧ Srt k l' ∧ SamE k l l' := by
 intro n
 induction n with
 | zero =>
  intro bs l hl hbs hn hb2 hch hok
  exact absurd hn (by omega)
 | succ n ih =>
  intro bs l hl hbs hn hb2 hch hok
  rw [iter_succ]
  generalize hag : (fun y => iter n y slices_stableCmpFunc_amount_share_b7) = again
  unfold slices_stableCmpFunc_amount_share_b7
  dsimp only
  by_cases hb : bs < N
  ·rw [bif_pos (by omega)]
   have e0 : w64 (2 * (bs : Int)) = (((([] : List D_amount_share).length) + 2 * bs : Nat) : Int) := by rw [w64_id (by omega) (by omega)]; simp
   rw [e0, show (0 : Int) = ((([] : List D_amount_share).length : Nat) : Int) from rfl]
   obtain ⟨A, Z, j, h1, h2, h3, h4, h5, h6⟩ := stable_pass hc N bs hN hbs hb (Int.natAbs (N : Int) + (Int.natAbs (bs : Int) + (Int.natAbs ((([] : List D_amount_share).length : Nat) : Int) + (Int.natAbs (((([] : List D_amount_share).length) + 2 * bs : Nat) : Int) + (List.length l + 2))))) [] l 0 (by simp) (by simpa using hl) (by omega) (ChS.nil _ _) hch (by simp) hok
   rw [List.nil_append] at h1 h6
   rw [h1, joinB_inr]
   dsimp only
   have hAZ : A.length + Z.length = N := by have := h6.length; simp at this; omega
   have hokAZ : ∀ z ∈ A ++ Z, ok z := fun z hz => hok z (h6.mem.1 hz)
   have e1 : w64 ((A.length : Int) + (bs : Int)) = ((A.length + bs : Nat) : Int) := by rw [w64_id (by omega) (by omega)]; omega
   have e2 : w64 ((bs : Int) * 2) = ((2 * bs : Nat) : Int) := by rw [w64_id (by omega) (by omega)]; omega
   rw [e1, e2]
   by_cases hlast : A.length + bs < N
   ·rw [bif_pos (by omega)]
    obtain ⟨L, R, rfl, hL⟩ := split_at (l := Z) (n := bs) (by omega)
    simp only [List.length_append] at hAZ h3
    have sL : Srt k L := by
     have := h5 0
     rw [Nat.zero_mul, List.drop_zero, ← hL, List.take_left] at this
     exact this
    have sR : Srt k R := by
     have := h5 1
     rw [Nat.one_mul] at this
     conv at this => arg 2; rw [show List.drop bs (L ++ R) = R by rw [← hL]; exact List.drop_left, List.take_of_length_le (by omega)]
     exact this
    obtain ⟨S, g1, g2, g3⟩ := symMerge_eq hc A L R [] (by omega) (by omega) (by simp; omega) sL sR (fun z hz => hokAZ z (by simp [hz])) (fun z hz => hokAZ z (by simp [hz]))
    simp only [List.append_nil] at g1
    rw [show ((A.length + bs : Nat) : Int) = ((A.length + L.length : Nat) : Int) by omega, show ((N : Nat) : Int) = ((A.length + L.length + R.length : Nat) : Int) by omega, show A ++ (L ++ R) = A ++ L ++ R by simp, g1, Option.bind_some, ← hag]
    have hsam : SamE k l (A ++ S) := h6.trans (by simpa using (SamE.refl k A).append g3)
    obtain ⟨l', q1, q2, q3⟩ := ih (2 * bs) (A ++ S) (by rw [hsam.length]; exact hl) (by omega) ⟨by omega, by omega⟩ (by omega) (h4.snoc h2 g2 (by rw [g3.length]; simp; omega)) (fun z hz => hok z (hsam.mem.1 hz))
    rw [show ((A.length + L.length + R.length : Nat) : Int) = ((N : Nat) : Int) by omega]
    exact ⟨l', q1, q2, hsam.trans q3⟩
   ·rw [bif_neg (by omega), ← hag]
    have sZ : Srt k Z := by
     have := h5 0
     rw [Nat.zero_mul, List.drop_zero, List.take_of_length_le (by omega)] at this
     exact this
    obtain ⟨l', q1, q2, q3⟩ := ih (2 * bs) (A ++ Z) (by simp; omega) (by omega) ⟨by omega, by omega⟩ (by omega) (h4.snoc h2 sZ (by omega)) hokAZ
    exact ⟨l', q1, q2, h6.trans q3⟩
  ·rw [bif_neg (by omega)]
   refine ⟨l, rfl, ?_, SamE.refl _ _⟩
   have := hch 0
   rw [Nat.zero_mul, List.drop_zero, List.take_of_length_le (by omega)] at this
   exact this

theorem sortStable_eq (hc : CmpOk k ok) (l : List D_amount_share) (hl : l.length < 100000000) (hok : ∀ z ∈ l, ok z) : ∃ l', slices_SortStableFunc_amount_share l () = some (l', ()) ∧ Srt k l' ∧ SamE k l l' := by
 unfold slices_SortStableFunc_amount_share slices_stableCmpFunc_amount_share
 obtain ⟨A, Z, j, h1, h2, h3, h4, h5⟩ := stable_first hc l.length hl (Int.natAbs (l.length : Int) + (Int.natAbs (20 : Int) + (Int.natAbs (0 : Int) + (Int.natAbs (20 : Int) + (List.length l + 2))))) [] l 0 (by simp) (by simp) (by omega) (ChS.nil _ _) (by simp) hok
 simp only [List.length_nil, List.nil_append] at h1 h5
 rw [show ((0 + 20 : Nat) : Int) = 20 from rfl, show ((0 : Nat) : Int) = 0 from rfl] at h1
 rw [h1, joinB_inr]
 dsimp only
 have hAZ : A.length + Z.length = l.length := by have := h5.length; simp at this; omega
 obtain ⟨Z', g1, g2, g3⟩ := insertion_eq hc A Z [] (by simp; omega) (fun z hz => hok z (h5.mem.1 (by simp [hz])))
 simp only [List.append_nil] at g1
 rw [show ((A.length + Z.length : Nat) : Int) = (l.length : Int) by omega] at g1
 rw [g1, Option.bind_some]
 dsimp only
 have hsam : SamE k l (A ++ Z') := h5.trans ((SamE.refl k A).append g3)
 obtain ⟨l', q1, q2, q3⟩ := stable_last hc l.length hl (Int.natAbs (l.length : Int) + (Int.natAbs (20 : Int) + (List.length (A ++ Z') + 2))) 20 (A ++ Z') hsam.length (by omega) ⟨by omega, by omega⟩ (by omega) (h4.snoc h2 g2 (by rw [g3.length]; omega)) (fun z hz => hok z (hsam.mem.1 hz))
 rw [show ((20 : Nat) : Int) = 20 from rfl] at q1
 rw [q1, joinB_inr]
 exact ⟨l', rfl, q2, hsam.trans q3⟩
end

end Go.Md.SA

namespace Go.Md
open Go.Dn

structure WtsOk (ws : List Nat) : Prop where
 len : 0 < ws.length ∧ ws.length ≤ 20
 le : ∀ w ∈ ws, w ≤ 1000000000
 pos : 0 < ws.sum
def wI (ws : List Nat) : List Int := ws.map fun (w : Nat) => (w : Int)
theorem wI_len (ws : List Nat) : (wI ws).length = ws.length := by simp [wI]
theorem wI_get {ws : List Nat} {i : Nat} {w : Nat} (h : ws[i]? = some w) : (wI ws)[i]? = some (w : Int) := by
 unfold wI; rw [List.getElem?_map, h]; rfl
theorem sum_take_succ {ws : List Nat} {i w : Nat} (h : ws[i]? = some w) : (ws.take (i + 1)).sum = (ws.take i).sum + w := by
 rw [List.take_add_one, h, List.sum_append]; simp
theorem sum_le_mul {c : Nat} : ∀ l : List Nat, (∀ x ∈ l, x ≤ c) → l.sum ≤ l.length * c
 | [], _ => by simp
 | x :: l, h => by
  have h1 := sum_le_mul l fun y hy => h y (List.mem_cons_of_mem _ hy)
  have h2 := h x List.mem_cons_self
  simp only [List.sum_cons, List.length_cons, Nat.add_mul, Nat.one_mul]; omega
theorem WtsOk.sum_le {ws : List Nat} (h : WtsOk ws) (i : Nat) : (ws.take i).sum ≤ 20000000000 := by
 have h1 := sum_le_mul (ws.take i) fun x hx => h.le x (List.mem_of_mem_take hx)
 have h2 : (ws.take i).length ≤ 20 := by rw [List.length_take]; have := h.len; omega
 have h3 : (ws.take i).length * 1000000000 ≤ 20 * 1000000000 := Nat.mul_le_mul_right _ h2
 omega
theorem WtsOk.all_le {ws : List Nat} (h : WtsOk ws) : ws.sum ≤ 20000000000 := by
 have := h.sum_le ws.length
 rwa [List.take_of_length_le (Nat.le_refl _)] at this

theorem amount_weightsFault_ok {ws : List Nat} (h : WtsOk ws) : amount_weightsFault (wI ws) = some (0, ()) := by
 have hl := h.len
 have loop : ∀ f, ws.length < f → iter f ((0, wI ws, ((wI ws).length : Int), (0 : Int), ()) : amount_weightsFault_x7) amount_weightsFault_b7 = some (Sum.inr ((ws.sum : Int), ())) := by
  intro f hf
  rw [wI_len]
  refine iter_post (Inv := fun i X => X = ((((ws.take i).sum : Nat) : Int), wI ws, (ws.length : Int), (i : Int), ())) ws.length (fun r => r = some (Sum.inr ((ws.sum : Int), ()))) ?_ ?_ f 0 _ (by simp) (by omega) (by omega)
  ·rintro i _ again hi rfl ih
   unfold amount_weightsFault_b7
   dsimp only
   have hw : ws[i]? = some ws[i] := getElem?_of hi
   have hwl := h.le _ (List.getElem_mem hi)
   generalize ws[i] = w at hw hwl
   have h1 := h.sum_le i
   rw [bif_pos (by omega), idx_nat, wI_get hw, Option.bind_some, kit_Outside_eq, Option.bind_some]
   dsimp only
   rw [bif_neg (by omega), w64_id (by omega) (by omega), w64_id (by omega) (by omega)]
   refine ih _ ?_
   rw [sum_take_succ hw]
   simp
  ·rintro _ again rfl
   unfold amount_weightsFault_b7
   dsimp only
   rw [bif_neg (by omega), List.take_of_length_le (Nat.le_refl _)]
 unfold amount_weightsFault
 rw [len_beq, wI_len, bif_neg (by omega), bif_neg (by omega)]
 have e := loop (Int.natAbs (0 : Int) + ((wI ws).length + (Int.natAbs (((wI ws).length : Nat) : Int) + (Int.natAbs (0 : Int) + 2)))) (by rw [wI_len]; omega)
 rw [wI_len] at e
 rw [e, joinB_inr]
 have := h.pos
 dsimp only
 rw [show ((ws.sum : Int) == 0) = false by simp; omega, cond_false]

def shE (u : Nat) (ws : List Nat) (j : Nat) : D_amount_share := ((j : Int), (shQ u ws.sum (ws.getD j 0) : Int), W (shR u ws.sum (ws.getD j 0) : Int))
def rS (u : Nat) (ws : List Nat) (j : Nat) : Nat := shR u ws.sum (ws.getD j 0)
def kS (u : Nat) (ws : List Nat) (x : D_amount_share) : Int := -(rS u ws x.1.toNat : Int)
theorem rS_lt {u : Nat} {ws : List Nat} (h : WtsOk ws) (j : Nat) : rS u ws j < 20000000000 := Nat.lt_of_lt_of_le (Nat.mod_lt _ h.pos) h.all_le
theorem cmpS {u : Nat} {ws : List Nat} (h : WtsOk ws) : SA.CmpOk (kS u ws) (fun x => ∃ j : Nat, x = shE u ws j) := by
 rintro _ _ ⟨i, rfl⟩ ⟨j, rfl⟩
 unfold amount_Shares_1 shE
 dsimp only
 have h1 := rS_lt (u := u) h i
 have h2 := rS_lt (u := u) h j
 unfold rS at h1 h2
 have L : ∀ n : Nat, n < 20000000000 → ((n : Int)).natAbs < 4294967296 ^ 99 := fun n hn => (Le.int (by omega) (by omega) : Le 19 (n : Int)).w (by omega)
 rw [whole_Int_Compare_eq _ _ (L _ h2) (L _ h1), Option.bind_some]
 refine ⟨_, rfl, ?_⟩
 unfold kS rS
 simp only [Int.toNat_natCast]
 generalize shR u ws.sum (ws.getD i 0) = a
 generalize shR u ws.sum (ws.getD j 0) = b
 rcases Nat.lt_trichotomy a b with hh | hh | hh
 ·rw [Int.sign_eq_one_of_pos (by omega)]; omega
 ·subst hh; simp
 ·rw [Int.sign_eq_neg_one_of_neg (by omega)]; omega

theorem pairwise_stable {α : Type} {k : α → Int} {R : α → α → Prop} : ∀ {l : List α}, Srt k l → (∀ v, (l.filter fun x => k x == v).Pairwise R) → l.Pairwise fun x y => k x < k y ∨ (k x = k y ∧ R x y)
 | [], _, _ => List.Pairwise.nil
 | x :: l, hs, hf => by
  have hs' := List.pairwise_cons.1 hs
  refine List.pairwise_cons.2 ⟨fun y hy => ?_, pairwise_stable hs'.2 fun v => ?_⟩
  ·have h1 := hs'.1 y hy
   by_cases e : k x = k y
   ·refine .inr ⟨e, ?_⟩
    have := hf (k x)
    rw [List.filter_cons_of_pos (by simp)] at this
    exact (List.pairwise_cons.1 this).1 y (List.mem_filter.2 ⟨hy, by simp [e]⟩)
   ·exact .inl (by omega)
  ·have := hf v
   by_cases e : (k x == v) = true
   ·simp only [List.filter_cons, e, if_true] at this
    exact (List.pairwise_cons.1 this).2
   ·simp only [List.filter_cons, if_neg e] at this; exact this

theorem sorted_shares {u : Nat} {ws : List Nat} (h : WtsOk ws) : ∃ o, OrdS (rS u ws) ws.length o ∧ slices_SortStableFunc_amount_share ((List.range ws.length).map (shE u ws)) () = some (o.map (shE u ws), ()) := by
 obtain ⟨l', g1, g2, g3⟩ := SA.sortStable_eq (cmpS (u := u) h) ((List.range ws.length).map (shE u ws)) (by simp; have := h.len; omega) (fun z hz => by
  obtain ⟨j, _, rfl⟩ := List.mem_map.1 hz; exact ⟨j, rfl⟩)
 have hmem : ∀ x ∈ l', ∃ j, x = shE u ws j := fun x hx => by
  obtain ⟨j, _, rfl⟩ := List.mem_map.1 (g3.mem.1 hx); exact ⟨j, rfl⟩
 have hid : ∀ j, (shE u ws j).1.toNat = j := fun j => by unfold shE; simp
 have hl' : l' = (l'.map fun x => x.1.toNat).map (shE u ws) := by
  rw [List.map_map]
  conv => lhs; rw [← List.map_id l']
  apply List.map_congr_left
  intro x hx
  obtain ⟨j, rfl⟩ := hmem x hx
  simp only [Function.comp, hid, id]
 refine ⟨l'.map fun x => x.1.toNat, ⟨?_, ?_⟩, by rw [← hl']; exact g1⟩
 ·have := g3.perm.map fun x : D_amount_share => x.1.toNat
  rw [List.map_map] at this
  have e : ((List.range ws.length).map ((fun x : D_amount_share => x.1.toNat) ∘ shE u ws)) = List.range ws.length := by
   conv => rhs; rw [← List.map_id (List.range ws.length)]
   apply List.map_congr_left
   intro j _
   exact hid j
  rw [e] at this
  exact this
 ·have hp := pairwise_stable (k := kS u ws) (R := fun x y : D_amount_share => x.1 < y.1) g2 (fun v => by
   rw [g3.keys v]
   refine List.Pairwise.filter _ ?_
   rw [List.pairwise_map]
   exact (List.pairwise_lt_range (n := ws.length)).imp fun {a b} hab => by
    show ((a : Nat) : Int) < ((b : Nat) : Int)
    omega)
  rw [List.pairwise_map]
  refine List.Pairwise.imp_of_mem (fun {x y} hx hy hh => ?_) hp
  obtain ⟨i, rfl⟩ := hmem x hx
  obtain ⟨j, rfl⟩ := hmem y hy
  rw [hid, hid]
  unfold kS at hh
  rw [hid, hid] at hh
  unfold ahead
  have e1 : (shE u ws i).1 = (i : Int) := rfl
  have e2 : (shE u ws j).1 = (j : Int) := rfl
  rw [e1, e2] at hh
  omega

theorem map_set_range {β : Type} (f g : Nat → β) (n i : Nat) (x : β) (hf : ∀ j, j < n → j ≠ i → g j = f j) (hx : g i = x) : ((List.range n).map f).set i x = (List.range n).map g := by
 apply List.ext_getElem?
 intro j
 by_cases hj : j < n
 ·rw [List.getElem?_map, List.getElem?_range hj]
  by_cases e : i = j
  ·subst e
   rw [List.getElem?_set_self (by simpa using hj)]; simp [hx]
  ·rw [List.getElem?_set_ne e, List.getElem?_map, List.getElem?_range hj]
   simp [hf j hj (fun h => e h.symm)]
 ·rw [List.getElem?_eq_none (by simp; omega), List.getElem?_eq_none (by simp; omega)]

def shG (n : Int) (ws : List Nat) (i : Nat) : Int :=
 let q : Nat := shQ n.natAbs ws.sum (ws.getD i 0) + if rankS (rS n.natAbs ws) ws.length i < n.natAbs - (ws.map (shQ n.natAbs ws.sum)).sum then 1 else 0
 if n < 0 then -(q : Int) else (q : Int)
theorem sharesZ_range (n : Int) (ws : List Nat) : sharesZ n ws = (List.range ws.length).map (shG n ws) := by
 unfold sharesZ sharesN shG rS
 rw [List.map_map]
 rfl

theorem take_map_sum_le (f : Nat → Nat) (l : List Nat) (i : Nat) : ((l.take i).map f).sum ≤ (l.map f).sum := by
 conv => rhs; rw [← List.take_append_drop i l, List.map_append, List.sum_append]
 omega
theorem amount_Shares_eq (n pl : Int) (hn : n.natAbs ≤ 1000000000000000) (hpl : 0 ≤ pl ∧ pl ≤ 9) (ws : List Nat) (h : WtsOk ws) :
  amount_Shares (n, pl) (wI ws) = some ((sharesZ n ws).map fun x => (x, pl), 0, ()) := by
 have hl := h.len
 have hsum := h.all_le
 have hpos := h.pos
 generalize hu : n.natAbs = u at *
 have hQ : ∀ j, shQ u ws.sum (ws.getD j 0) ≤ u := fun j => by
  unfold shQ
  have hw : ws.getD j 0 ≤ ws.sum := by
   rw [List.getD_eq_getElem?_getD]
   cases hj : ws[j]? with
   | none => simp
   | some w =>
    have h1 : (ws.take (j + 1)).sum ≤ ws.sum := by
     conv => rhs; rw [← List.take_append_drop (j + 1) ws, List.sum_append]
     omega
    rw [sum_take_succ hj] at h1
    simp; omega
  exact Nat.div_le_of_le_mul (by rw [Nat.mul_comm ws.sum]; exact Nat.mul_le_mul_left u hw)
 unfold amount_Shares
 rw [amount_CheckDecimal_eq', Option.bind_some]
 dsimp only
 rw [if_pos (show DecOk (n, pl) from ⟨by omega, hpl.1, hpl.2⟩), show ((0 : Int) != 0) = false from rfl, cond_false, amount_weightsFault_ok h, Option.bind_some]
 dsimp only
 rw [show ((0 : Int) != 0) = false from rfl, cond_false]
 -- the sum
 have loop1 : ∀ f, ws.length < f → iter f ((wI ws, (0 : Int), wI ws, ((wI ws).length : Int), (0 : Int), n, pl, ()) : amount_Shares_x9) amount_Shares_b9 = some (Sum.inr (wI ws, (ws.sum : Int), n, pl, ())) := by
  intro f hf
  rw [wI_len]
  refine iter_post (Inv := fun i X => X = (wI ws, (((ws.take i).sum : Nat) : Int), wI ws, (ws.length : Int), (i : Int), n, pl, ())) ws.length (fun r => r = some (Sum.inr (wI ws, (ws.sum : Int), n, pl, ()))) ?_ ?_ f 0 _ (by simp) (by omega) (by omega)
  ·rintro i _ again hi rfl ih
   unfold amount_Shares_b9
   dsimp only
   have hw : ws[i]? = some ws[i] := getElem?_of hi
   have hwl := h.le _ (List.getElem_mem hi)
   generalize ws[i] = w at hw hwl
   have h1 := h.sum_le i
   rw [bif_pos (by omega), idx_nat, wI_get hw, Option.bind_some, w64_id (by omega) (by omega), w64_id (by omega) (by omega)]
   refine ih _ ?_
   rw [sum_take_succ hw]
   simp
  ·rintro _ again rfl
   unfold amount_Shares_b9
   dsimp only
   rw [bif_neg (by omega), List.take_of_length_le (Nat.le_refl _)]
 rw [loop1 _ (by rw [wI_len]; omega), joinB_inr]
 dsimp only
 have hmax : (if (w64 (0 - n)) > n then (w64 (0 - n)) else n) = (u : Int) := by
  rw [w64_id (by omega) (by omega)]
  split <;> omega
 rw [hmax]
 -- what each weight gets at first
 have loop2 : ∀ f, ws.length < f → iter f (((ws.sum : Int), (u : Int), (u : Int), ([] : List D_amount_share), wI ws, ((wI ws).length : Int), (0 : Int), n, pl, ()) : amount_Shares_x17) amount_Shares_b17 = some (Sum.inr (((u - (ws.map (shQ u ws.sum)).sum : Nat) : Int), (List.range ws.length).map (shE u ws), n, pl, ())) := by
  intro f hf
  rw [wI_len]
  have hle := (left_eq (u := u) hpos).2
  have htk : ∀ i, ((ws.take i).map (shQ u ws.sum)).sum ≤ u := fun i => by
   have := take_map_sum_le (shQ u ws.sum) ws i
   omega
  refine iter_post (Inv := fun i X => X = ((ws.sum : Int), (u : Int), ((u - ((ws.take i).map (shQ u ws.sum)).sum : Nat) : Int), (List.range i).map (shE u ws), wI ws, (ws.length : Int), (i : Int), n, pl, ())) ws.length (fun r => r = some (Sum.inr (((u - (ws.map (shQ u ws.sum)).sum : Nat) : Int), (List.range ws.length).map (shE u ws), n, pl, ()))) ?_ ?_ f 0 _ (by simp) (by omega) (by omega)
  ·rintro i _ again hi rfl ih
   unfold amount_Shares_b17
   dsimp only
   have hw : ws[i]? = some ws[i] := getElem?_of hi
   have hwl := h.le _ (List.getElem_mem hi)
   generalize ws[i] = w at hw hwl
   have hgd : ws.getD i 0 = w := by rw [List.getD_eq_getElem?_getD, hw]; rfl
   have hq := hQ i
   rw [hgd] at hq
   have L : ∀ m : Nat, m ≤ 1000000000000000 → Le 19 (m : Int) := fun m hm => Le.int (by omega) (by omega)
   rw [bif_pos (by omega), idx_nat, wI_get hw, Option.bind_some, whole_Of_eq _ (by omega) (by omega), Option.bind_some, whole_Of_eq _ (by omega) (by omega), Option.bind_some]
   dsimp only
   rw [whole_Int_Times_eq _ _ ((L u (by omega)).w (by omega)) ((L w (by omega)).w (by omega)), Option.bind_some, whole_Of_eq _ (by omega) (by omega), Option.bind_some]
   dsimp only
   rw [← Int.natCast_mul, whole_Int_By_eq _ _ (by rw [Int.natCast_mul]; exact ((L u (by omega)).mul (L w (by omega))).w (by omega)) ((L ws.sum (by omega)).w (by omega)) (by omega), Option.bind_some]
   dsimp only
   rw [Int.natAbs_natCast, Int.natAbs_natCast, show u * w / ws.sum = shQ u ws.sum w from rfl, show u * w % ws.sum = shR u ws.sum w from rfl, whole_Int_Int_eq _ _ (by omega) (by omega), Option.bind_some, if_pos (by omega)]
   dsimp only
   rw [chk_pos (chk_app (by simp; omega) (by simp; omega)), w64_id (by omega) (by omega)]
   have h1 := htk (i + 1)
   have e1 : ((ws.take (i + 1)).map (shQ u ws.sum)).sum = ((ws.take i).map (shQ u ws.sum)).sum + shQ u ws.sum w := by
    rw [List.take_add_one, hw, List.map_append, List.sum_append]; simp
   have h2 := htk i
   rw [w64_id (by omega) (by omega)]
   refine ih _ ?_
   rw [e1, List.range_succ, List.map_append]
   have e2 : ((u - (((ws.take i).map (shQ u ws.sum)).sum + shQ u ws.sum w) : Nat) : Int) = ((u - ((ws.take i).map (shQ u ws.sum)).sum : Nat) : Int) - (shQ u ws.sum w : Int) := by omega
   rw [e2]
   unfold shE
   simp only [List.map_cons, List.map_nil, hgd]
   rfl
  ·rintro _ again rfl
   unfold amount_Shares_b17
   dsimp only
   rw [bif_neg (by omega), List.take_of_length_le (Nat.le_refl _)]
 rw [loop2 _ (by rw [wI_len]; omega), joinB_inr]
 dsimp only
 obtain ⟨o, ho, hsort⟩ := sorted_shares (u := u) h
 rw [hsort, Option.bind_some]
 dsimp only
 have hol := ho.len
 generalize hlf : u - (ws.map (shQ u ws.sum)).sum = left
 rw [List.length_map, hol, chk_pos (by simp only [Bool.and_eq_true, decide_eq_true_eq]; omega)]
 have hg : ∀ i, shG n ws i = if n < 0 then -((shQ u ws.sum (ws.getD i 0) + if rankS (rS u ws) ws.length i < left then 1 else 0 : Nat) : Int) else ((shQ u ws.sum (ws.getD i 0) + if rankS (rS u ws) ws.length i < left then 1 else 0 : Nat) : Int) := fun i => by
  unfold shG; dsimp only; rw [hu, hlf]
 have loop3 : ∀ f, ws.length < f → iter f (((left : Int), o.map (shE u ws), (ws.length : Int), (0 : Int), n, pl, List.replicate (Int.toNat (ws.length : Int)) ((0, 0) : D_api_Decimal), ()) : amount_Shares_x27) amount_Shares_b27 = some (Sum.inr ((sharesZ n ws).map fun x => (x, pl), ())) := by
  intro f hf
  refine iter_post (Inv := fun c X => X = ((left : Int), o.map (shE u ws), (ws.length : Int), (c : Int), n, pl, (List.range ws.length).map (fun i => if rankS (rS u ws) ws.length i < c then (shG n ws i, pl) else ((0, 0) : D_api_Decimal)), ())) ws.length (fun r => r = some (Sum.inr ((sharesZ n ws).map fun x => (x, pl), ()))) ?_ ?_ f 0 _ ?_ (by omega) (by omega)
  ·rintro c _ again hc rfl ih
   unfold amount_Shares_b27
   dsimp only
   have hoc : o[c]? = some (o[c]'(by omega)) := getElem?_of (by omega)
   generalize (o[c]'(by omega)) = i at hoc
   have hin : i < ws.length := ho.mem.1 (List.mem_of_getElem? hoc)
   have hrk := ho.rank hoc
   have hget : (o.map (shE u ws))[c]? = some (shE u ws i) := by rw [List.getElem?_map, hoc]; rfl
   have hqi := hQ i
   have hset : ((List.range ws.length).map (fun j => if rankS (rS u ws) ws.length j < c then (shG n ws j, pl) else ((0, 0) : D_api_Decimal))).set i (shG n ws i, pl) = (List.range ws.length).map (fun j => if rankS (rS u ws) ws.length j < c + 1 then (shG n ws j, pl) else ((0, 0) : D_api_Decimal)) := by
    refine map_set_range _ _ _ _ _ (fun j hj hji => ?_) (by simp only [hrk]; rw [if_pos (by omega)])
    have hjr := ho.rank_inv hj
    have hne : rankS (rS u ws) ws.length j ≠ c := fun e => by
     rw [e, hoc] at hjr; cases hjr; exact hji rfl
    by_cases h1 : rankS (rS u ws) ws.length j < c
    ·rw [if_pos h1, if_pos (by omega)]
    ·rw [if_neg h1, if_neg (by omega)]
   rw [bif_pos (by omega), chk_pos (by simp only [Bool.and_eq_true, decide_eq_true_eq, List.length_map, hol]; omega), Int.toNat_natCast, hget, Option.bind_some]
   have hlast : ∀ z : Int, z = shG n ws i → again ((left : Int), o.map (shE u ws), (ws.length : Int), w64 ((c : Int) + 1), n, pl, ((List.range ws.length).map (fun j => if rankS (rS u ws) ws.length j < c then (shG n ws j, pl) else ((0, 0) : D_api_Decimal))).set i (z, pl), ()) = some (Sum.inr ((sharesZ n ws).map fun x => (x, pl), ())) := fun z hz => by
    rw [hz, hset, w64_id (by omega) (by omega)]
    exact ih _ rfl
   have hgi := hg i
   rw [hrk] at hgi
   have hlenm : ((List.range ws.length).map (fun j => if rankS (rS u ws) ws.length j < c then (shG n ws j, pl) else ((0, 0) : D_api_Decimal))).length = ws.length := by simp
   have hgetm : ∃ y, ((List.range ws.length).map (fun j => if rankS (rS u ws) ws.length j < c then (shG n ws j, pl) else ((0, 0) : D_api_Decimal)))[i]? = some y := ⟨_, getElem?_of (by rw [hlenm]; exact hin)⟩
   obtain ⟨y0, hy0⟩ := hgetm
   have e1 : (shE u ws i).1 = (i : Int) := rfl
   have e2 : (shE u ws i).2.1 = (shQ u ws.sum (ws.getD i 0) : Int) := rfl
   rw [e1, e2]
   by_cases hcl : c < left
   ·rw [if_pos hcl] at hgi
    rw [bif_pos (by omega), joinB_inr]
    dsimp only
    rw [w64_id (by omega) (by omega)]
    by_cases hneg : n < 0
    ·rw [if_pos hneg] at hgi
     rw [bif_pos hneg, joinB_inr]
     dsimp only
     rw [w64_id (by omega) (by omega), hlenm, chk_pos (by simp only [Bool.and_eq_true, decide_eq_true_eq]; omega), Int.toNat_natCast, hy0, Option.bind_some]
     exact hlast _ (by omega)
    ·rw [if_neg hneg] at hgi
     rw [bif_neg hneg, joinB_inr]
     dsimp only
     rw [hlenm, chk_pos (by simp only [Bool.and_eq_true, decide_eq_true_eq]; omega), Int.toNat_natCast, hy0, Option.bind_some]
     exact hlast _ (by omega)
   ·rw [if_neg hcl] at hgi
    rw [bif_neg (by omega), joinB_inr]
    dsimp only
    by_cases hneg : n < 0
    ·rw [if_pos hneg] at hgi
     rw [bif_pos hneg, joinB_inr]
     dsimp only
     rw [w64_id (by omega) (by omega), hlenm, chk_pos (by simp only [Bool.and_eq_true, decide_eq_true_eq]; omega), Int.toNat_natCast, hy0, Option.bind_some]
     exact hlast _ (by omega)
    ·rw [if_neg hneg] at hgi
     rw [bif_neg hneg, joinB_inr]
     dsimp only
     rw [hlenm, chk_pos (by simp only [Bool.and_eq_true, decide_eq_true_eq]; omega), Int.toNat_natCast, hy0, Option.bind_some]
     exact hlast _ (by omega)
  ·rintro _ again rfl
   unfold amount_Shares_b27
   dsimp only
   rw [bif_neg (by omega), sharesZ_range, List.map_map]
   congr 3
   apply List.map_congr_left
   intro i hi
   rw [List.mem_range] at hi
   have hr := ho.rank_inv hi
   have := (List.getElem?_eq_some_iff.1 hr).1
   rw [if_pos (by omega)]
   rfl
  ·simp only [Nat.not_lt_zero, if_false, Int.toNat_natCast]
   congr 7
   rw [List.map_const', List.length_range]
 have e := loop3 ((Int.natAbs (left : Int)) + ((o.map (shE u ws)).length + (Int.natAbs (ws.length : Int) + (Int.natAbs (0 : Int) + (Int.natAbs n + (Int.natAbs pl + ((List.replicate (Int.toNat (ws.length : Int)) ((0, 0) : D_api_Decimal)).length + 2))))))) (by simp; omega)
 rw [List.length_map, hol] at e
 rw [e, joinB_inr]

end Go.Md
