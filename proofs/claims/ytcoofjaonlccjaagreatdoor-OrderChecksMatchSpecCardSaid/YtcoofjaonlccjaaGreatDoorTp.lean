/-
 Plain facts: loops, digits, whole numbers. No condition.
-/
import Derived.Test.YtcoofjaonlccjaaGreatDoorTm
set_option linter.all false
namespace Go.Md
open Go.Dn

def forL {α σ β : Type} (g : σ → Nat → α → (σ → Option β) → Option β) (fin : σ → Option β) : List α → Nat → σ → Option β
 | [], _, s => fin s
 | y :: r, i, s => g s i y fun s' => forL g fin r (i + 1) s'

theorem iter_forL {X α σ β : Type} {f : X → (X → Option β) → Option β} (mk : σ → Nat → X) (l : List α) (g : σ → Nat → α → (σ → Option β) → Option β) (fin : σ → Option β)
  (hstep : ∀ s i y again, l[i]? = some y → f (mk s i) again = g s i y fun s' => again (mk s' (i + 1))) (hend : ∀ s again, f (mk s l.length) again = fin s) :
  ∀ (r : List α) (i : Nat) (s : σ) (n : Nat), l.drop i = r → i ≤ l.length → r.length < n → iter n (mk s i) f = forL g fin r i s
 | _, _, _, 0, _, _, hn => absurd hn (Nat.not_lt_zero _)
 | [], i, s, n + 1, hd, hi, _ => by
  have : i = l.length := by
   have := congrArg List.length hd
   simp at this; omega
  subst this
  exact hend s _
 | y :: r, i, s, n + 1, hd, hi, hn => by
  have hy : l[i]? = some y := by
   have := congrArg (·[0]?) hd
   simpa [List.getElem?_drop] using this
  have hr : l.drop (i + 1) = r := by
   have := congrArg List.tail hd
   simpa [List.tail_drop] using this
  have hi' : i < l.length := (List.getElem?_eq_some_iff.1 hy).1
  show f (mk s i) _ = _
  rw [hstep s i y _ hy]
  show g s i y _ = g s i y _
  congr 1
  funext s'
  exact iter_forL mk l g fin hstep hend r (i + 1) s' n hr hi' (by simp at hn; omega)

theorem iter_for {X α σ β : Type} {f : X → (X → Option β) → Option β} (mk : σ → Nat → X) (l : List α) (g : σ → Nat → α → (σ → Option β) → Option β) (fin : σ → Option β)
  (hstep : ∀ s i y again, l[i]? = some y → f (mk s i) again = g s i y fun s' => again (mk s' (i + 1))) (hend : ∀ s again, f (mk s l.length) again = fin s) (s : σ) (n : Nat) (hn : l.length < n) : iter n (mk s 0) f = forL g fin l 0 s :=
 iter_forL mk l g fin hstep hend l 0 s n rfl (Nat.zero_le _) hn

theorem iter_post {X β : Type} {f : X → (X → Option β) → Option β} (Inv : Nat → X → Prop) (N : Nat) (Q : Option β → Prop)
  (step : ∀ i x again, i < N → Inv i x → (∀ y, Inv (i + 1) y → Q (again y)) → Q (f x again)) (fin : ∀ x again, Inv N x → Q (f x again)) : ∀ n i x, Inv i x → i ≤ N → N - i < n → Q (iter n x f)
 | 0, _, _, _, _, hn => absurd hn (Nat.not_lt_zero _)
 | n + 1, i, x, hx, hi, hn => by
  show Q (f x _)
  by_cases h : i = N
  ·subst h; exact fin x _ hx
  ·exact step i x _ (by omega) hx fun y hy => iter_post Inv N Q step fin n (i + 1) y hy (by omega) (by omega)
theorem iter_meas {X β : Type} {f : X → (X → Option β) → Option β} (Inv : X → Prop) (μ : X → Nat) (Q : X → Option β → Prop)
  (step : ∀ x again, Inv x → (∀ y, Inv y → μ y < μ x → Q y (again y)) → Q x (f x again)) : ∀ n x, Inv x → μ x < n → Q x (iter n x f)
 | 0, _, _, hn => absurd hn (Nat.not_lt_zero _)
 | n + 1, x, hx, hn => step x _ hx fun y hy h => iter_meas Inv μ Q step n y hy (by omega)

theorem maxLen_eq : maxLen = 9223372036854775807 := rfl
theorem chk_pos {β : Type} {b : Bool} (h : b = true) (x : Option β) : chk b x = x := by rw [h]; rfl
theorem chk_app {n k : Nat} (h : n * k ≤ 140737488355328) (h2 : n ≤ 9223372036854775807) : (decide (n * k ≤ 140737488355328) && decide (n ≤ maxLen)) = true := by
 simp only [Bool.and_eq_true, decide_eq_true_eq]; rw [maxLen_eq]; omega
theorem bif_pos {α : Type} {p : Prop} [Decidable p] (h : p) (x y : α) : (bif decide p then x else y) = x := by rw [decide_eq_true h]; rfl
theorem bif_neg {α : Type} {p : Prop} [Decidable p] (h : ¬p) (x y : α) : (bif decide p then x else y) = y := by rw [decide_eq_false h]; rfl
theorem joinB_inl {β γ : Type} (r : β) (f : γ → Option β) : joinB (some (Sum.inl r)) f = some r := rfl
theorem joinB_inr {β γ : Type} (v : γ) (f : γ → Option β) : joinB (β := β) (some (Sum.inr v)) f = f v := rfl
theorem getElem?_of {α : Type} {l : List α} {i : Nat} (h : i < l.length) : l[i]? = some (l[i]'h) := List.getElem?_eq_getElem h

theorem wrap_s {k : IntKind} {n : Int} (h1 : k.min ≤ n) (h2 : n ≤ k.max) : k.wrap n = n := by
 cases k <;> simp [IntKind.wrap, IntKind.min, IntKind.max, IntKind.bits, IntKind.signed] at * <;> (try split) <;> omega
theorem w64_id {n : Int} (h1 : -9223372036854775808 ≤ n) (h2 : n ≤ 9223372036854775807) : w64 n = n := wrap_s h1 h2
theorem idx_nat {α : Type} (l : List α) (i : Nat) : idx l (i : Int) = l[i]? := by simp [idx]
end Go.Md

namespace Go.Md
open Go.Dn

def val (B : Int) : List Int → Int
 | [] => 0
 | d :: r => d + B * val B r
def Dig (B : Int) (l : List Int) : Prop := ∀ d, d ∈ l → 0 ≤ d ∧ d < B

theorem Dig.nil {B : Int} : Dig B [] := fun _ h => by cases h
theorem Dig.cons {B d : Int} {l : List Int} (h : 0 ≤ d ∧ d < B) (hl : Dig B l) : Dig B (d :: l) := fun x hx => by
 rcases List.mem_cons.1 hx with rfl | hx
 ·exact h
 ·exact hl x hx
theorem Dig.head {B d : Int} {l : List Int} (h : Dig B (d :: l)) : 0 ≤ d ∧ d < B := h d (by simp)
theorem Dig.tail {B d : Int} {l : List Int} (h : Dig B (d :: l)) : Dig B l := fun x hx => h x (by simp [hx])
theorem Dig.append {B : Int} {l m : List Int} (h : Dig B l) (k : Dig B m) : Dig B (l ++ m) := fun x hx => by
 rcases List.mem_append.1 hx with hx | hx
 ·exact h x hx
 ·exact k x hx
theorem Dig.snoc {B d : Int} {l : List Int} (h : Dig B l) (hd : 0 ≤ d ∧ d < B) : Dig B (l ++ [d]) := h.append (Dig.cons hd Dig.nil)
theorem Dig.take {B : Int} {l : List Int} (h : Dig B l) (n : Nat) : Dig B (l.take n) := fun x hx => h x (List.mem_of_mem_take hx)
theorem Dig.drop {B : Int} {l : List Int} (h : Dig B l) (n : Nat) : Dig B (l.drop n) := fun x hx => h x (List.mem_of_mem_drop hx)
theorem Dig.get {B d : Int} {l : List Int} {i : Nat} (h : Dig B l) (hi : l[i]? = some d) : 0 ≤ d ∧ d < B := h d (List.mem_of_getElem? hi)
theorem Dig.left {B : Int} {l m : List Int} (h : Dig B (l ++ m)) : Dig B l := fun x hx => h x (List.mem_append_left _ hx)
theorem Dig.right {B : Int} {l m : List Int} (h : Dig B (l ++ m)) : Dig B m := fun x hx => h x (List.mem_append_right _ hx)

theorem val_nonneg {B : Int} (hB : 0 < B) : ∀ {l : List Int}, Dig B l → 0 ≤ val B l
 | [], _ => Int.le_refl _
 | d :: r, h => by
  have h1 := h.head; have h2 := val_nonneg hB h.tail
  have : 0 ≤ B * val B r := Int.mul_nonneg (by omega) h2
  simp only [val]; omega
theorem val_lt {B : Int} (hB : 0 < B) : ∀ {l : List Int}, Dig B l → val B l < B ^ l.length
 | [], _ => by simp [val]
 | d :: r, h => by
  have h1 := h.head; have h2 := val_lt hB h.tail
  have h3 : B * (val B r + 1) ≤ B * B ^ r.length := Int.mul_le_mul_of_nonneg_left h2 (by omega)
  rw [Int.mul_add, Int.mul_one] at h3
  simp only [val, List.length_cons]
  rw [Int.pow_succ, Int.mul_comm (B ^ r.length) B]
  omega
theorem val_append {B : Int} : ∀ (l m : List Int), val B (l ++ m) = val B l + B ^ l.length * val B m
 | [], m => by simp [val]
 | d :: r, m => by
  simp only [List.cons_append, val, val_append r m, List.length_cons, Int.pow_succ]
  rw [Int.mul_add, Int.add_assoc]
  congr 2
  rw [Int.mul_comm (B ^ r.length) B, Int.mul_assoc]
theorem val_snoc {B : Int} (l : List Int) (d : Int) : val B (l ++ [d]) = val B l + B ^ l.length * d := by
 rw [val_append]; simp [val]
theorem pow_pos' {B : Int} (hB : 0 < B) : ∀ n : Nat, 0 < B ^ n
 | 0 => by simp
 | n + 1 => by rw [Int.pow_succ]; exact Int.mul_pos (pow_pos' hB n) hB

def dgF (B : Nat) : Nat → Nat → List Int
 | 0, _ => []
 | f + 1, n => if n = 0 then [] else ((n % B : Nat) : Int) :: dgF B f (n / B)
def dg (B n : Nat) : List Int := dgF B n n
theorem dgF_eq {B : Nat} (hB : 2 ≤ B) : ∀ (f g n : Nat), n ≤ f → n ≤ g → dgF B f n = dgF B g n
 | 0, 0, _, _, _ => rfl
 | 0, g + 1, n, h, _ => by have : n = 0 := by omega
                           subst this; simp [dgF]
 | f + 1, 0, n, _, h => by have : n = 0 := by omega
                           subst this; simp [dgF]
 | f + 1, g + 1, n, hf, hg => by
  by_cases hn : n = 0
  ·subst hn; simp [dgF]
  ·have : n / B < n := Nat.div_lt_self (by omega) (by omega)
   simp only [dgF, hn, if_false]
   rw [dgF_eq hB f g (n / B) (by omega) (by omega)]
theorem dg_zero (B : Nat) : dg B 0 = [] := rfl
theorem dg_pos {B : Nat} (hB : 2 ≤ B) {n : Nat} (hn : 0 < n) : dg B n = ((n % B : Nat) : Int) :: dg B (n / B) := by
 have : n / B < n := Nat.div_lt_self hn (by omega)
 obtain ⟨m, rfl⟩ : ∃ m, n = m + 1 := ⟨n - 1, by omega⟩
 unfold dg
 rw [dgF, if_neg (by omega), dgF_eq hB m ((m + 1) / B) _ (by omega) (Nat.le_refl _)]
theorem dg_dig {B : Nat} (hB : 2 ≤ B) : ∀ n, Dig B (dg B n) := by
 intro n
 induction n using Nat.strongRecOn with
 | _ n ih =>
  by_cases hn : n = 0
  ·subst hn; exact Dig.nil
  ·rw [dg_pos hB (by omega)]
   exact Dig.cons ⟨by omega, by have := Nat.mod_lt n (show 0 < B by omega); omega⟩ (ih _ (Nat.div_lt_self (by omega) (by omega)))
theorem val_dg {B : Nat} (hB : 2 ≤ B) : ∀ n, val B (dg B n) = n := by
 intro n
 induction n using Nat.strongRecOn with
 | _ n ih =>
  by_cases hn : n = 0
  ·subst hn; rfl
  ·rw [dg_pos hB (by omega), val, ih _ (Nat.div_lt_self (by omega) (by omega))]
   have := Nat.mod_add_div n B
   omega
theorem dg_ne_nil {B : Nat} (hB : 2 ≤ B) {n : Nat} (hn : 0 < n) : dg B n ≠ [] := by rw [dg_pos hB hn]; simp
theorem dg_eq_nil {B : Nat} (hB : 2 ≤ B) {n : Nat} : dg B n = [] ↔ n = 0 := by
 constructor
 ·intro h
  rcases Nat.eq_zero_or_pos n with h0 | h0
  ·exact h0
  ·exact absurd h (dg_ne_nil hB h0)
 ·rintro rfl; rfl
theorem dg_mul_add {B : Nat} (hB : 2 ≤ B) {d n : Nat} (hd : d < B) (h : 0 < d + B * n) : dg B (d + B * n) = (d : Int) :: dg B n := by
 rw [dg_pos hB h]
 have h1 : (d + B * n) % B = d := by rw [Nat.add_mul_mod_self_left, Nat.mod_eq_of_lt hd]
 have h2 : (d + B * n) / B = n := by rw [Nat.add_mul_div_left _ _ (by omega), Nat.div_eq_of_lt hd]; omega
 rw [h1, h2]

def trim : List Int → List Int
 | [] => []
 | d :: r => match trim r with
  | [] => if d = 0 then [] else [d]
  | t => d :: t
theorem trim_dg {B : Nat} (hB : 2 ≤ B) : ∀ {l : List Int}, Dig B l → trim l = dg B (val B l).toNat
 | [], _ => rfl
 | d :: r, h => by
  have hr := trim_dg hB h.tail
  have h1 := h.head
  have hB0 : (0 : Int) < B := by omega
  have h2 := val_nonneg hB0 h.tail
  obtain ⟨k, rfl⟩ : ∃ k : Nat, d = k := ⟨d.toNat, by omega⟩
  obtain ⟨n, hn⟩ : ∃ n : Nat, val B r = n := ⟨(val B r).toNat, by omega⟩
  have hv : (val B ((k : Int) :: r)).toNat = k + B * n := by
   simp only [val, hn]
   rw [show ((B : Int) * (n : Int)) = ((B * n : Nat) : Int) by simp]
   omega
  rw [hv]
  rw [hn] at hr
  simp only [Int.toNat_natCast] at hr
  unfold trim
  rw [hr]
  rcases Nat.eq_zero_or_pos n with h0 | h0
  ·subst h0
   simp only [dg_zero, Nat.mul_zero, Nat.add_zero]
   by_cases hk : k = 0
   ·subst hk; simp [dg_zero]
   ·have := dg_mul_add hB (d := k) (n := 0) (by omega) (by omega)
    simp only [Nat.mul_zero, Nat.add_zero, dg_zero] at this
    rw [this]; simp [hk]
  ·have hpos : 0 < k + B * n := by have := Nat.mul_pos (show 0 < B by omega) h0; omega
   rw [dg_mul_add hB (by omega) hpos]
   cases hd : dg B n with
   | nil => exact absurd hd (dg_ne_nil hB h0)
   | cons a t => rfl
theorem trim_snoc_zero : ∀ l : List Int, trim (l ++ [0]) = trim l
 | [] => rfl
 | d :: r => by simp only [List.cons_append, trim, trim_snoc_zero r]
theorem trim_snoc_ne {d : Int} (hd : d ≠ 0) : ∀ l : List Int, trim (l ++ [d]) = l ++ [d]
 | [] => by simp [trim, hd]
 | e :: r => by
  simp only [List.cons_append, trim, trim_snoc_ne hd r]
  cases h : r ++ [d] with
  | nil => simp at h
  | cons a t => rfl

theorem dg_len {B : Nat} (hB : 2 ≤ B) : ∀ (k n : Nat), n < B ^ k → (dg B n).length ≤ k
 | 0, n, h => by have : n = 0 := by simpa using h
                 subst this; simp [dg_zero]
 | k + 1, n, h => by
  by_cases hn : n = 0
  ·subst hn; simp [dg_zero]
  ·rw [dg_pos hB (by omega), List.length_cons]
   have := dg_len hB k (n / B) (by rw [Nat.pow_succ] at h; exact Nat.div_lt_of_lt_mul (by rw [Nat.mul_comm]; exact h))
   omega
theorem dg_len_lt {B : Nat} (hB : 2 ≤ B) {m n : Nat} (h : (dg B m).length < (dg B n).length) : m < n := by
 rcases Nat.lt_or_ge m n with h1 | h1
 ·exact h1
 ·exfalso
  have h2 : ∀ a b : Nat, b ≤ a → (dg B b).length ≤ (dg B a).length := by
   intro a
   induction a using Nat.strongRecOn with
   | _ a ih =>
    intro b hb
    by_cases h0 : b = 0
    ·subst h0; simp [dg_zero]
    ·rw [dg_pos hB (by omega), dg_pos hB (show 0 < a by omega), List.length_cons, List.length_cons]
     have := ih (a / B) (Nat.div_lt_self (by omega) (by omega)) (b / B) (Nat.div_le_div_right hb)
     omega
  have := h2 m n h1
  omega

end Go.Md

namespace Go.Md
open Go.Dn

def dg32 (n : Nat) : List Int := dg 4294967296 n
def W (z : Int) : D_whole_Int := (decide (z < 0), dg32 z.natAbs)

theorem take_succ_get {α : Type} {l : List α} {i : Nat} {y : α} (h : l[i]? = some y) : l.take (i + 1) = l.take i ++ [y] := by
 rw [List.take_add_one, h]; rfl
end Go.Md

namespace Go.Md
open Go.Dn

theorem Dig.set {B : Int} {l : List Int} (h : Dig B l) {i : Nat} {z : Int} (hz : 0 ≤ z ∧ z < B) : Dig B (l.set i z) := fun x hx => by
 rcases List.mem_or_eq_of_mem_set hx with hx | rfl
 ·exact h x hx
 ·exact hz

end Go.Md

namespace Go.Md
open Go.Dn

def v6 (l : List Int) : Int := val 1000000 l
theorem v6_nil : v6 [] = 0 := rfl
theorem v6_cons (d : Int) (l : List Int) : v6 (d :: l) = d + 1000000 * v6 l := rfl
theorem v6_append (l m : List Int) : v6 (l ++ m) = v6 l + 1000000 ^ l.length * v6 m := val_append l m
theorem v6_snoc (l : List Int) (d : Int) : v6 (l ++ [d]) = v6 l + 1000000 ^ l.length * d := val_snoc l d
abbrev Dg6 (l : List Int) : Prop := Dig 1000000 l
def dg6 (n : Nat) : List Int := dg 1000000 n
theorem dg6_zero : dg6 0 = [] := rfl
theorem dg6_eq_nil {n : Nat} : dg6 n = [] ↔ n = 0 := dg_eq_nil (B := 1000000) (by omega)
theorem dg6_ne_nil {n : Nat} (h : 0 < n) : dg6 n ≠ [] := dg_ne_nil (B := 1000000) (by omega) h
theorem dg6_len_lt {m n : Nat} (h : (dg6 m).length < (dg6 n).length) : m < n := dg_len_lt (B := 1000000) (by omega) h
theorem dg6_dig (n : Nat) : Dg6 (dg6 n) := dg_dig (B := 1000000) (by omega) n
theorem v6_dg (n : Nat) : v6 (dg6 n) = n := val_dg (B := 1000000) (by omega) n
theorem trim6 {l : List Int} (h : Dg6 l) : trim l = dg6 (v6 l).toNat := trim_dg (B := 1000000) (by omega) h
theorem v6_nonneg {l : List Int} (h : Dg6 l) : 0 ≤ v6 l := val_nonneg (by omega) h
theorem v6_lt {l : List Int} (h : Dg6 l) : v6 l < 1000000 ^ l.length := val_lt (by omega) h
theorem dg6_len {k n : Nat} (h : n < 1000000 ^ k) : (dg6 n).length ≤ k := dg_len (B := 1000000) (by omega) k n h

theorem v6_take_succ {l : List Int} {i : Nat} {y : Int} (h : l[i]? = some y) : v6 (l.take (i + 1)) = v6 (l.take i) + 1000000 ^ i * y := by
 have hi := (List.getElem?_eq_some_iff.1 h).1
 rw [take_succ_get h, v6_snoc, List.length_take, Nat.min_eq_left (by omega)]
theorem v6_take_none {l : List Int} {i : Nat} (h : l.length ≤ i) : v6 (l.take (i + 1)) = v6 (l.take i) := by
 rw [List.take_of_length_le h, List.take_of_length_le (by omega)]
theorem v6_set {l : List Int} {i : Nat} {y z : Int} (hi : l[i]? = some y) : v6 (l.set i z) = v6 l + 1000000 ^ i * (z - y) := by
 have hlt := (List.getElem?_eq_some_iff.1 hi).1
 have e : l = l.take i ++ (y :: l.drop (i + 1)) := by
  have := List.take_append_drop i l
  rw [List.drop_eq_getElem_cons hlt, (List.getElem?_eq_some_iff.1 hi).2] at this
  exact this.symm
 have e2 : l.set i z = l.take i ++ (z :: l.drop (i + 1)) := by rw [List.set_eq_take_append_cons_drop, if_pos hlt]
 rw [e2]
 conv => rhs; rw [e]
 rw [v6_append, v6_append, v6_cons, v6_cons, List.length_take, Nat.min_eq_left (by omega)]
 have : (1000000 : Int) ^ i * (z + 1000000 * v6 (l.drop (i + 1))) = 1000000 ^ i * (y + 1000000 * v6 (l.drop (i + 1))) + 1000000 ^ i * (z - y) := by rw [← Int.mul_add]; congr 1; omega
 omega

theorem r1_trimmed_eq (b : Bool) (l : List Int) (hd : Dg6 l) (hl : l.length < 1000000) : r1_trimmed (b, l) = some ((b && decide (0 < v6 l), dg6 (v6 l).toNat), ()) := by
 have key : ∀ n (x : r1_trimmed_x1), x.2.1.length < 1000000 → x.2.1.length < n → iter n x r1_trimmed_b1 = some (Sum.inr (x.1, trim x.2.1, x.2.2.1, x.2.2.2.1, ())) := by
  refine iter_meas (fun x : r1_trimmed_x1 => x.2.1.length < 1000000) (fun x => x.2.1.length) (fun x r => r = some (Sum.inr (x.1, trim x.2.1, x.2.2.1, x.2.2.2.1, ()))) ?_
  rintro ⟨c, x, g, m, u⟩ again hx ih
  simp only at hx ih ⊢
  unfold r1_trimmed_b1
  simp only
  by_cases h0 : x.length = 0
  ·have : x = [] := List.eq_nil_of_length_eq_zero h0
   subst this; simp [trim]
  ·have e1 : w64 ((x.length : Int) - 1) = ((x.length - 1 : Nat) : Int) := by rw [w64_id (by omega) (by omega)]; omega
   have hsp : x = x.take (x.length - 1) ++ [x[x.length - 1]'(by omega)] := by
    have := List.take_append_drop (x.length - 1) x
    rw [List.drop_eq_getElem_cons (by omega), List.drop_of_length_le (by omega)] at this
    exact this.symm
   rw [bif_pos (by omega), e1, idx_nat, getElem?_of (by omega)]
   simp only [Int.toNat_natCast, List.drop_zero, Option.bind_some]
   by_cases hz : x[x.length - 1]'(by omega) = 0
   ·rw [hz] at hsp ⊢
    rw [chk_pos (by simp only [Bool.and_eq_true, decide_eq_true_eq]; omega)]
    simp only [beq_self_eq_true, cond_true]
    rw [ih (c, List.take (x.length - 1) x, g, m, ()) (by simp only [List.length_take]; omega) (by simp only [List.length_take]; omega)]
    conv => rhs; rw [hsp, trim_snoc_zero]
   ·have : (x[x.length - 1]'(by omega) == 0) = false := by simp [hz]
    rw [this]
    simp only [cond_false]
    conv => rhs; rw [hsp, trim_snoc_ne hz]
    rw [← hsp]
 unfold r1_trimmed
 rw [key _ _ (by simpa using hl) (by simp), joinB_inr]
 simp only
 rw [trim6 hd]
 have h0 := v6_nonneg hd
 by_cases hv : v6 l = 0
 ·simp [hv, dg6_zero]
 ·have h1 : dg6 (v6 l).toNat ≠ [] := dg6_ne_nil (by omega)
  have h2 : (((dg6 (v6 l).toNat).length : Int) == 0) = false := by
   have : (dg6 (v6 l).toNat).length ≠ 0 := fun h => h1 (List.eq_nil_of_length_eq_zero h)
   simp; omega
  rw [h2]
  have h3 : decide (0 < v6 l) = true := by simp; omega
  simp [h3]

def N (z : Int) : D_interchangeref1_Num := (decide (z < 0), dg6 z.natAbs)

theorem r1_made (b : Bool) (l : List Int) (hd : Dg6 l) (hl : l.length < 1000000) : r1_trimmed (b, l) = some (N (if b then -v6 l else v6 l), ()) := by
 rw [r1_trimmed_eq b l hd hl]
 have h0 := v6_nonneg hd
 cases b with
 | false =>
  simp only [N]; congr 3
  ·simp; omega
  ·simp only [Bool.false_eq_true, if_false]; congr 1; omega
 | true =>
  simp only [N]; congr 3
  ·simp
  ·simp only [if_true]; congr 1; omega

theorem tdiv_abs (x : Int) : (Int.tdiv x 1000000).natAbs = x.natAbs / 1000000 := by rw [Int.natAbs_tdiv]; rfl
theorem tmod_abs (x : Int) : (Int.tmod x 1000000).natAbs = x.natAbs % 1000000 := by rw [Int.natAbs_tmod]; rfl
theorem dg6_pos {n : Nat} (h : 0 < n) : dg6 n = ((n % 1000000 : Nat) : Int) :: dg6 (n / 1000000) := dg_pos (B := 1000000) (by omega) h

theorem r1_Of_loop (ng g : Bool) (gl : List Int) : ∀ (k fuel : Nat) (out : List Int) (x : Int), out.length + k < 1000 → x.natAbs < 1000000 ^ k → k < fuel → -9223372036854775808 < x → x ≤ 9223372036854775807 →
   iter (X := r1_Of_x2) (β := r1_Of_r2) fuel (x, g, gl, ng, out, ()) r1_Of_b2 = some (Sum.inr (g, gl, ng, out ++ dg6 x.natAbs, ()))
 | k, 0, _, _, _, _, h, _, _ => by omega
 | 0, fuel + 1, out, x, _, hx, _, _, _ => by
  have : x = 0 := by simp at hx; omega
  subst this
  rw [iter_succ]
  unfold r1_Of_b2
  simp [dg6_zero]
 | k + 1, fuel + 1, out, x, ho, hx, hf, h1, h2 => by
  rw [iter_succ]
  generalize hag : (fun y => iter fuel y r1_Of_b2) = again
  unfold r1_Of_b2
  dsimp only
  by_cases h0 : x = 0
  ·subst h0; simp [dg6_zero]
  ·have hb : (x != 0) = true := by simp [h0]
   rw [hb, cond_true, chk_pos (chk_app (by omega) (by omega)), ← hag]
   have e0 := tdiv_abs x
   have e1 := tmod_abs x
   have e2 : (if (w64 (0 - (Int.tmod x 1000000))) > (Int.tmod x 1000000) then (w64 (0 - (Int.tmod x 1000000))) else (Int.tmod x 1000000)) = ((x.natAbs % 1000000 : Nat) : Int) := by
    rw [w64_id (by omega) (by omega)]
    split <;> omega
   rw [e2, w64_id (by omega) (by omega)]
   show iter fuel _ r1_Of_b2 = _
   rw [r1_Of_loop ng g gl k fuel _ _ (by simp; omega) (by rw [e0]; rw [Nat.pow_succ] at hx; exact Nat.div_lt_of_lt_mul (by rw [Nat.mul_comm]; exact hx)) (by omega) (by omega) (by omega), e0, List.append_assoc, List.singleton_append, ← dg6_pos (by omega)]

theorem r1_Of_eq (n : Int) (h1 : -9223372036854775808 < n) (h2 : n ≤ 9223372036854775807) : r1_Of n = some (N n, ()) := by
 unfold r1_Of
 have key : iter (X := r1_Of_x2) (β := r1_Of_r2) (Int.natAbs n + (List.length ([] : List Int) + (List.length ([] : List Int) + 2))) (n, false, [], decide (n < 0), [], ()) r1_Of_b2 = some (Sum.inr (false, [], decide (n < 0), [] ++ dg6 n.natAbs, ())) := by
  by_cases h0 : n.natAbs < 1
  ·exact r1_Of_loop _ _ _ 0 _ _ _ (by simp) (by simpa using h0) (by omega) h1 h2
  ·by_cases h3 : n.natAbs < 1000000
   ·exact r1_Of_loop _ _ _ 1 _ _ _ (by simp) (by simpa using h3) (by omega) h1 h2
   ·exact r1_Of_loop _ _ _ 4 _ _ _ (by simp) (by omega) (by omega) h1 h2
 rw [key, joinB_inr]
 rfl

theorem r1_sizes_core (a b : List Int) (ha : Dg6 a) (hb : Dg6 b) (hab : a.length = b.length) (hla : a.length < 100000) : ∀ (n k : Nat), k ≤ a.length → k < n →
  ∃ c : Int, iter (X := r1_sizes_x4) (β := r1_sizes_r4) n (a, b, (k : Int) - 1, ()) r1_sizes_b4 = (if v6 (a.take k) = v6 (b.take k) then some (Sum.inr ()) else some (Sum.inl (c, ()))) ∧ (c < 0 ↔ v6 (a.take k) < v6 (b.take k)) ∧ (0 < c ↔ v6 (b.take k) < v6 (a.take k)) := by
 intro n
 induction n with
 | zero => intro k _ h; omega
 | succ n ih =>
  intro k hk hn
  rw [iter_succ]
  generalize hag : (fun y => iter n y r1_sizes_b4) = again
  unfold r1_sizes_b4
  dsimp only
  cases k with
  | zero => exact ⟨0, by simp [v6_nil], by simp, by simp⟩
  | succ k =>
   rw [bif_pos (by omega), show ((k + 1 : Nat) : Int) - 1 = (k : Int) by omega, idx_nat, idx_nat]
   have hx : a[k]? = some a[k] := getElem?_of (by omega)
   have hy : b[k]? = some b[k] := getElem?_of (by omega)
   rw [hx, hy]
   simp only [Option.bind_some]
   rw [v6_take_succ hx, v6_take_succ hy]
   have h1 := v6_lt (ha.take k)
   have h2 := v6_lt (hb.take k)
   have h3 := v6_nonneg (ha.take k)
   have h4 := v6_nonneg (hb.take k)
   have h5 := ha.get hx
   have h6 := hb.get hy
   rw [List.length_take, Nat.min_eq_left (by omega)] at h1 h2
   generalize a[k] = x at *
   generalize b[k] = y at *
   by_cases hxy : x = y
   ·subst hxy
    simp only [bne_self_eq_false, cond_false]
    rw [w64_id (by omega) (by omega), ← hag]
    obtain ⟨c, h7, h8, h9⟩ := ih k (by omega) (by omega)
    refine ⟨c, ?_, by omega, by omega⟩
    show iter n (a, b, (k : Int) - 1, ()) r1_sizes_b4 = _
    rw [h7]
    congr 1
    simp
   ·have hne : (x != y) = true := by simp [hxy]
    rw [hne]
    simp only [cond_true]
    rw [w64_id (by omega) (by omega)]
    refine ⟨x - y, ?_, ?_, ?_⟩
    ·rw [if_neg]
     intro h
     rcases Int.lt_or_gt_of_ne hxy with hlt | hlt
     ·have : (1000000 : Int) ^ k * (x + 1) ≤ 1000000 ^ k * y := Int.mul_le_mul_of_nonneg_left (by omega) (by omega)
      rw [Int.mul_add, Int.mul_one] at this
      omega
     ·have : (1000000 : Int) ^ k * (y + 1) ≤ 1000000 ^ k * x := Int.mul_le_mul_of_nonneg_left (by omega) (by omega)
      rw [Int.mul_add, Int.mul_one] at this
      omega
    ·rcases Int.lt_or_gt_of_ne hxy with hlt | hlt
     ·have : (1000000 : Int) ^ k * (x + 1) ≤ 1000000 ^ k * y := Int.mul_le_mul_of_nonneg_left (by omega) (by omega)
      rw [Int.mul_add, Int.mul_one] at this
      omega
     ·have : (1000000 : Int) ^ k * (y + 1) ≤ 1000000 ^ k * x := Int.mul_le_mul_of_nonneg_left (by omega) (by omega)
      rw [Int.mul_add, Int.mul_one] at this
      omega
    ·rcases Int.lt_or_gt_of_ne hxy with hlt | hlt
     ·have : (1000000 : Int) ^ k * (x + 1) ≤ 1000000 ^ k * y := Int.mul_le_mul_of_nonneg_left (by omega) (by omega)
      rw [Int.mul_add, Int.mul_one] at this
      omega
     ·have : (1000000 : Int) ^ k * (y + 1) ≤ 1000000 ^ k * x := Int.mul_le_mul_of_nonneg_left (by omega) (by omega)
      rw [Int.mul_add, Int.mul_one] at this
      omega

theorem r1_sizes_eq (m n : Nat) (hm : (dg6 m).length < 100000) (hn : (dg6 n).length < 100000) : ∃ c, r1_sizes (dg6 m) (dg6 n) = some (c, ()) ∧ (c < 0 ↔ m < n) ∧ (0 < c ↔ n < m) := by
 unfold r1_sizes
 by_cases h : (dg6 m).length = (dg6 n).length
 ·have hb : (((dg6 m).length : Int) != ((dg6 n).length : Int)) = false := by simp [h]
  rw [hb]
  simp only [cond_false]
  by_cases h0 : (dg6 m).length = 0
  ·have hm0 : m = 0 := dg6_eq_nil.1 (List.eq_nil_of_length_eq_zero h0)
   have hn0 : n = 0 := dg6_eq_nil.1 (List.eq_nil_of_length_eq_zero (by omega))
   subst hm0; subst hn0
   exact ⟨0, rfl, by simp, by simp⟩
  ·have e1 : w64 (((dg6 m).length : Int) - 1) = (((dg6 m).length : Nat) : Int) - 1 := w64_id (by omega) (by omega)
   obtain ⟨c, h1, h2, h3⟩ := r1_sizes_core _ _ (dg6_dig m) (dg6_dig n) h hm ((dg6 m).length + ((dg6 n).length + (Int.natAbs ((((dg6 m).length : Nat) : Int) - 1) + 2))) _ (Nat.le_refl _) (by omega)
   rw [List.take_of_length_le (Nat.le_refl _), List.take_of_length_le (by omega), v6_dg, v6_dg] at h1 h2 h3
   rw [e1, h1]
   by_cases hmn : (m : Int) = n
   ·rw [if_pos hmn, joinB_inr]; exact ⟨0, rfl, by omega, by omega⟩
   ·rw [if_neg hmn, joinB_inl]; exact ⟨c, rfl, by omega, by omega⟩
 ·have hb : (((dg6 m).length : Int) != ((dg6 n).length : Int)) = true := by simp; omega
  rw [hb]
  simp only [cond_true]
  rw [w64_id (by omega) (by omega)]
  refine ⟨_, rfl, ?_, ?_⟩
  ·constructor
   ·intro h1; exact dg6_len_lt (by omega)
   ·intro h1
    rcases Nat.lt_or_gt_of_ne h with h2 | h2
    ·omega
    ·have := dg6_len_lt (m := n) (n := m) h2; omega
  ·constructor
   ·intro h1; exact dg6_len_lt (by omega)
   ·intro h1
    rcases Nat.lt_or_gt_of_ne h with h2 | h2
    ·have := dg6_len_lt (m := m) (n := n) h2; omega
    ·omega

theorem r1_digit_eq (l : List Int) (i : Nat) : r1_digit l (i : Int) = some ((l[i]?).getD 0, ()) := by
 unfold r1_digit
 by_cases h : i < l.length
 ·rw [bif_pos (by omega), idx_nat, getElem?_of h]; rfl
 ·rw [bif_neg (by omega), List.getElem?_eq_none (by omega)]; rfl
theorem v6_take_getD (l : List Int) (i : Nat) : v6 (l.take (i + 1)) = v6 (l.take i) + 1000000 ^ i * (l[i]?).getD 0 := by
 by_cases h : i < l.length
 ·rw [v6_take_succ (getElem?_of h), getElem?_of h]; rfl
 ·rw [v6_take_none (by omega), List.getElem?_eq_none (by omega)]; simp
theorem getD_dig {l : List Int} (h : Dg6 l) (i : Nat) : 0 ≤ (l[i]?).getD 0 ∧ (l[i]?).getD 0 < 1000000 := by
 cases hi : l[i]? with
 | none => simp
 | some d => exact h.get hi

theorem r1_Plus_add (a b : List Int) (ha : Dg6 a) (hb : Dg6 b) (na nb g : Bool) (gl : List Int) (ng : Bool) (M : Nat) (hM : M < 100000) (hlen : a.length < M ∧ b.length < M) (n : Nat) (hn : M < n) :
  ∃ out, iter (X := r1_Plus_x19) (β := r1_Plus_r19) n (0, (M : Int), 0, na, a, nb, b, g, gl, ng, [], ()) r1_Plus_b19 = some (Sum.inr (g, gl, ng, out, ())) ∧ Dg6 out ∧ out.length = M ∧ v6 out = v6 a + v6 b := by
 refine iter_post (Inv := fun i x => ∃ (out : List Int) (c : Int), x = (c, (M : Int), (i : Int), na, a, nb, b, g, gl, ng, out, ()) ∧ Dg6 out ∧ 0 ≤ c ∧ c ≤ 1 ∧ out.length = i ∧ v6 out + 1000000 ^ i * c = v6 (a.take i) + v6 (b.take i)) M
  (fun r => ∃ out, r = some (Sum.inr (g, gl, ng, out, ())) ∧ Dg6 out ∧ out.length = M ∧ v6 out = v6 a + v6 b) ?_ ?_ n 0 _ ⟨[], 0, rfl, Dig.nil, by omega, by omega, rfl, by simp [v6_nil]⟩ (by omega) (by omega)
 ·rintro i _ again hi ⟨out, c, rfl, hd, hc0, hc1, hl, hv⟩ ih
  unfold r1_Plus_b19
  dsimp only
  rw [bif_pos (by omega), r1_digit_eq, r1_digit_eq]
  have h1 := getD_dig ha i
  have h2 := getD_dig hb i
  have h3 := v6_take_getD a i
  have h4 := v6_take_getD b i
  generalize (a[i]?).getD 0 = x at *
  generalize (b[i]?).getD 0 = y at *
  simp only [Option.bind_some]
  rw [chk_pos (chk_app (by omega) (by omega)), w64_id (n := x + y) (by omega) (by omega), w64_id (n := x + y + c) (by omega) (by omega), w64_id (n := (i : Int) + 1) (by omega) (by omega), Int.tmod_eq_emod_of_nonneg (by omega), Int.tdiv_eq_ediv_of_nonneg (by omega), w64_id (by omega) (by omega)]
  refine ih _ ⟨_, _, rfl, hd.snoc (by omega), by omega, by omega, by simp [hl], ?_⟩
  rw [v6_snoc, hl, h3, h4, Int.pow_succ]
  have : (1000000 : Int) ^ i * ((x + y + c) % 1000000) + 1000000 ^ i * 1000000 * ((x + y + c) / 1000000) = 1000000 ^ i * (x + y + c) := by
   rw [Int.mul_assoc, ← Int.mul_add]; congr 1; omega
  rw [Int.mul_add, Int.mul_add] at this
  omega
 ·rintro _ again ⟨out, c, rfl, hd, hc0, hc1, hl, hv⟩
  unfold r1_Plus_b19
  dsimp only
  rw [bif_neg (by omega)]
  rw [List.take_of_length_le (by omega), List.take_of_length_le (by omega)] at hv
  refine ⟨out, rfl, hd, hl, ?_⟩
  have h1 := v6_lt ha
  have h2 := v6_lt hb
  have h3 := v6_nonneg hd
  have hp : ∀ l : Nat, l < M → (1000000 : Int) ^ l * 1000000 ≤ 1000000 ^ M := by
   intro l hlM
   rw [← Int.pow_succ]
   have h := Nat.pow_le_pow_right (n := 1000000) (by omega) (show l + 1 ≤ M by omega)
   have := Int.ofNat_le.2 h
   simpa using this
  have h4 := hp _ hlen.1
  have h5 := hp _ hlen.2
  have h6 := v6_nonneg ha
  have h7 := v6_nonneg hb
  rcases (show c = 0 ∨ c = 1 by omega) with h | h
  ·subst h; omega
  ·subst h; rw [Int.mul_one] at hv; omega

theorem r1_Plus_sub (a b : List Int) (ha : Dg6 a) (hb : Dg6 b) (na nb g : Bool) (gl : List Int) (ng : Bool) (hla : a.length < 100000) (hlb : b.length ≤ a.length) (hle : v6 b ≤ v6 a) (n : Nat) (hn : a.length < n) :
  ∃ out, iter (X := r1_Plus_x7) (β := r1_Plus_r7) n (0, (a.length : Int), 0, na, a, nb, b, g, gl, ng, [], ()) r1_Plus_b7 = some (Sum.inr (g, gl, ng, out, ())) ∧ Dg6 out ∧ out.length = a.length ∧ v6 out = v6 a - v6 b := by
 refine iter_post (Inv := fun i x => ∃ (out : List Int) (c : Int), x = (c, (a.length : Int), (i : Int), na, a, nb, b, g, gl, ng, out, ()) ∧ Dg6 out ∧ 0 ≤ c ∧ c ≤ 1 ∧ out.length = i ∧ v6 out = v6 (a.take i) - v6 (b.take i) + 1000000 ^ i * c) a.length
  (fun r => ∃ out, r = some (Sum.inr (g, gl, ng, out, ())) ∧ Dg6 out ∧ out.length = a.length ∧ v6 out = v6 a - v6 b) ?_ ?_ n 0 _ ⟨[], 0, rfl, Dig.nil, by omega, by omega, rfl, by simp [v6_nil]⟩ (by omega) (by omega)
 ·rintro i _ again hi ⟨out, c, rfl, hd, hc0, hc1, hl, hv⟩ ih
  unfold r1_Plus_b7
  dsimp only
  have hy : a[i]? = some a[i] := getElem?_of hi
  rw [bif_pos (by omega), r1_digit_eq, idx_nat, hy]
  have h1 := ha.get hy
  have h2 := getD_dig hb i
  have h3 := v6_take_succ hy
  have h4 := v6_take_getD b i
  generalize a[i] = x at *
  generalize (b[i]?).getD 0 = y at *
  simp only [Option.bind_some]
  rw [w64_id (n := x - y) (by omega) (by omega), w64_id (n := x - y - c) (by omega) (by omega)]
  have fin : ∀ q : Int, (q = 0 ∨ q = 1) → 0 ≤ x - y - c + 1000000 * q → x - y - c + 1000000 * q < 1000000 → ∃ out', again (q, (a.length : Int), w64 ((i : Int) + 1), na, a, nb, b, g, gl, ng, out ++ [x - y - c + 1000000 * q], ()) = some (Sum.inr (g, gl, ng, out', ())) ∧ Dg6 out' ∧ out'.length = a.length ∧ v6 out' = v6 a - v6 b := by
   intro q hq hq0 hq1
   rw [w64_id (by omega) (by omega)]
   refine ih _ ⟨_, q, rfl, hd.snoc (by omega), by omega, by omega, by simp [hl], ?_⟩
   rw [v6_snoc, hl, h3, h4, Int.pow_succ, hv]
   generalize (1000000 : Int) ^ i = p
   rw [Int.mul_add, Int.mul_sub, Int.mul_sub, Int.mul_assoc]
   omega
  by_cases hneg : x - y - c < 0
  ·rw [bif_pos hneg, joinB_inr]
   dsimp only
   rw [chk_pos (chk_app (by omega) (by omega)), w64_id (n := x - y - c + 1000000) (by omega) (by omega)]
   exact fin 1 (.inr rfl) (by omega) (by omega)
  ·rw [bif_neg hneg, joinB_inr]
   dsimp only
   rw [chk_pos (chk_app (by omega) (by omega))]
   have := fin 0 (.inl rfl) (by omega) (by omega)
   rw [show x - y - c + 1000000 * 0 = x - y - c by omega] at this
   exact this
 ·rintro _ again ⟨out, c, rfl, hd, hc0, hc1, hl, hv⟩
  unfold r1_Plus_b7
  dsimp only
  rw [bif_neg (by omega)]
  rw [List.take_of_length_le (Nat.le_refl _), List.take_of_length_le hlb] at hv
  refine ⟨out, rfl, hd, hl, ?_⟩
  have h3 := v6_lt hd
  rw [hl] at h3
  rcases (show c = 0 ∨ c = 1 by omega) with h | h
  ·subst h; omega
  ·subst h; rw [Int.mul_one] at hv; omega

theorem dg6_len_le {m n : Nat} (h : m ≤ n) : (dg6 m).length ≤ (dg6 n).length := by
 rcases Nat.lt_or_ge (dg6 n).length (dg6 m).length with h1 | h1
 ·have := dg6_len_lt h1; omega
 ·exact h1

theorem r1_Plus_eq (x y : Int) (hx : (dg6 x.natAbs).length < 10000) (hy : (dg6 y.natAbs).length < 10000) : r1_Plus (N x) (N y) = some (N (x + y), ()) := by
 unfold r1_Plus N
 dsimp only
 have main : ∀ (a b : Nat) (na nb : Bool), (dg6 a).length < 10000 → (dg6 b).length < 10000 → b ≤ a → joinB (β := (D_interchangeref1_Num × Unit)) (γ := (Bool × (List Int) × Bool × (List Int) × Unit)) (
   iter (X := r1_Plus_x7) (β := r1_Plus_r7) (Int.natAbs (0 : Int) + (Int.natAbs ((List.length (dg6 a) : Int)) + (Int.natAbs (0 : Int) + (List.length (dg6 a) + (List.length (dg6 b) + (List.length ([] : List Int) + (List.length ([] : List Int) + 2))))))) (0, (List.length (dg6 a) : Int), 0, na, dg6 a, nb, dg6 b, false, [], na, [], ()) (r1_Plus_b7)) (fun v8 =>
  Option.bind (r1_trimmed (v8.2.2.1, v8.2.2.2.1)) fun r9 =>
  some (r9.1, ())) = some (N (if na then -((a : Int) - b) else (a : Int) - b), ()) := by
  intro a b na nb h1 h2 h3
  obtain ⟨out, h4, h5, h6, h7⟩ := r1_Plus_sub (dg6 a) (dg6 b) (dg6_dig a) (dg6_dig b) na nb false [] na (by omega) (dg6_len_le h3) (by rw [v6_dg, v6_dg]; omega) (Int.natAbs (0 : Int) + (Int.natAbs ((List.length (dg6 a) : Int)) + (Int.natAbs (0 : Int) + (List.length (dg6 a) + (List.length (dg6 b) + (List.length ([] : List Int) + (List.length ([] : List Int) + 2))))))) (by omega)
  rw [h4, joinB_inr]
  dsimp only
  rw [r1_made _ _ h5 (by omega), h7, v6_dg, v6_dg]
  rfl
 by_cases hs : decide (x < 0) = decide (y < 0)
 ·rw [show (!(decide (x < 0) == decide (y < 0))) = false by simp [hs]]
  dsimp only [cond_false]
  have e1 : w64 ((if ((dg6 y.natAbs).length : Int) > ((dg6 x.natAbs).length : Int) then ((dg6 y.natAbs).length : Int) else ((dg6 x.natAbs).length : Int)) + 1) = ((max (dg6 x.natAbs).length (dg6 y.natAbs).length + 1 : Nat) : Int) := by
   split <;> rw [w64_id (by omega) (by omega)] <;> omega
  rw [e1]
  obtain ⟨out, h4, h5, h6, h7⟩ := r1_Plus_add (dg6 x.natAbs) (dg6 y.natAbs) (dg6_dig _) (dg6_dig _) (decide (x < 0)) (decide (y < 0)) false [] (decide (x < 0)) (max (dg6 x.natAbs).length (dg6 y.natAbs).length + 1) (by omega) ⟨by omega, by omega⟩ (Int.natAbs (0 : Int) + (Int.natAbs ((max (dg6 x.natAbs).length (dg6 y.natAbs).length + 1 : Nat) : Int) + (Int.natAbs (0 : Int) + (List.length (dg6 x.natAbs) + (List.length (dg6 y.natAbs) + (List.length ([] : List Int) + (List.length ([] : List Int) + 2))))))) (by omega)
  rw [h4, joinB_inr]
  dsimp only
  rw [r1_made _ _ h5 (by omega), h7, v6_dg, v6_dg]
  rw [Option.bind_some]
  show some (N _, ()) = some (N (x + y), ())
  congr 3
  simp only [decide_eq_decide] at hs
  by_cases h : x < 0
  ·simp only [h, decide_true, if_true]; omega
  ·simp only [h, decide_false, Bool.false_eq_true, if_false]; omega
 ·rw [show (!(decide (x < 0) == decide (y < 0))) = true by simp [hs]]
  rw [cond_true]
  obtain ⟨c, h1, h2, h3⟩ := r1_sizes_eq x.natAbs y.natAbs (by omega) (by omega)
  rw [h1, Option.bind_some]
  dsimp only
  simp only [decide_eq_decide] at hs
  by_cases hc : c < 0
  ·rw [bif_pos hc, joinB_inr]
   have := main y.natAbs x.natAbs (decide (y < 0)) (decide (x < 0)) hy hx (by omega)
   dsimp only
   rw [this]
   congr 3
   by_cases h : y < 0
   ·simp only [h, decide_true, if_true]; omega
   ·simp only [h, decide_false, Bool.false_eq_true, if_false]; omega
  ·rw [bif_neg hc, joinB_inr]
   have := main x.natAbs y.natAbs (decide (x < 0)) (decide (y < 0)) hx hy (by omega)
   dsimp only
   rw [this]
   congr 3
   by_cases h : x < 0
   ·simp only [h, decide_true, if_true]; omega
   ·simp only [h, decide_false, Bool.false_eq_true, if_false]; omega

theorem r1_Minus_eq (x : Int) : r1_Minus (N x) = some (N (-x), ()) := by
 unfold r1_Minus N
 dsimp only
 by_cases h0 : x = 0
 ·subst h0; simp [dg6_zero]
 ·have h1 : dg6 x.natAbs ≠ [] := dg6_ne_nil (by omega)
  have h2 : 0 < (dg6 x.natAbs).length := by
   rcases Nat.eq_zero_or_pos (dg6 x.natAbs).length with h | h
   ·exact absurd (List.eq_nil_of_length_eq_zero h) h1
   ·exact h
  rw [bif_pos (by omega), Int.natAbs_neg]
  congr 3
  by_cases h : x < 0
  ·simp [h]; omega
  ·simp [h]; omega
theorem r1_Sign_eq (x : Int) : r1_Sign (N x) = some (x.sign, ()) := by
 unfold r1_Sign N
 dsimp only
 by_cases h0 : x = 0
 ·subst h0; simp [dg6_zero]
 ·have h1 : dg6 x.natAbs ≠ [] := dg6_ne_nil (by omega)
  have h2 : (((dg6 x.natAbs).length : Int) == 0) = false := by
   have : (dg6 x.natAbs).length ≠ 0 := fun h => h1 (List.eq_nil_of_length_eq_zero h)
   simp; omega
  rw [h2, cond_false]
  by_cases h : x < 0
  ·simp [h, Int.sign_eq_neg_one_of_neg h]
  ·simp [h, Int.sign_eq_one_of_pos (show 0 < x by omega)]
theorem r1_Cmp_eq (x y : Int) (hx : (dg6 x.natAbs).length < 10000) (hy : (dg6 y.natAbs).length < 10000) : r1_Cmp (N x) (N y) = some ((x - y).sign, ()) := by
 unfold r1_Cmp
 rw [r1_Minus_eq, Option.bind_some]
 dsimp only
 rw [r1_Plus_eq x (-y) hx (by rw [Int.natAbs_neg]; exact hy), Option.bind_some]
 dsimp only
 rw [r1_Sign_eq, Option.bind_some]
 rw [show x + -y = x - y by omega]

end Go.Md

namespace Go.Md
open Go.Dn

def Big (D : Int) (l : List Int) : Prop := ∀ d, d ∈ l → 0 ≤ d ∧ d ≤ D
theorem Big.get {D d : Int} {l : List Int} {i : Nat} (h : Big D l) (hi : l[i]? = some d) : 0 ≤ d ∧ d ≤ D := h d (List.mem_of_getElem? hi)
theorem Big.set {D E : Int} {l : List Int} (h : Big D l) (hDE : D ≤ E) {i : Nat} {z : Int} (hz : 0 ≤ z ∧ z ≤ E) : Big E (l.set i z) := fun x hx => by
 rcases List.mem_or_eq_of_mem_set hx with hx | rfl
 ·have := h x hx; omega
 ·exact hz
theorem Big.mono {D E : Int} {l : List Int} (h : Big D l) (hDE : D ≤ E) : Big E l := fun x hx => by have := h x hx; omega
theorem v6_carry {l : List Int} {j : Nat} {y z t : Int} (hj : l[j]? = some y) (hj1 : l[j + 1]? = some z) : v6 (((l.set j t).set (j + 1) (z + t / 1000000)).set j (t % 1000000)) = v6 l + 1000000 ^ j * (t - y) := by
 have hl := (List.getElem?_eq_some_iff.1 hj).1
 have h1 : (l.set j t)[j + 1]? = some z := by rw [List.getElem?_set_ne (by omega)]; exact hj1
 have h2 : ((l.set j t).set (j + 1) (z + t / 1000000))[j]? = some t := by rw [List.getElem?_set_ne (by omega), List.getElem?_set_self hl]
 rw [v6_set h2, v6_set h1, v6_set hj, Int.pow_succ]
 have e : (1000000 : Int) ^ j * 1000000 * (z + t / 1000000 - z) + 1000000 ^ j * (t % 1000000 - t) = 0 := by
  rw [Int.mul_assoc, ← Int.mul_add]
  have : 1000000 * (z + t / 1000000 - z) + (t % 1000000 - t) = 0 := by omega
  rw [this, Int.mul_zero]
 omega

theorem set_thrice {α : Type} (l : List α) (j : Nat) (t z u : α) : ((l.set j t).set (j + 1) z).set j u = (l.set j u).set (j + 1) z := by
 rw [List.set_comm _ _ (show j + 1 ≠ j by omega), List.set_set]

theorem r1_Times_inner (i : Nat) (x : Int) (g1 : List Int) (g2 g3 : Int) (b : List Int) (nb gb : Bool) (gl : List Int) (ng : Bool) (out : List Int) (D : Int) (hx : 0 ≤ x ∧ x < 1000000) (hb : Dg6 b) (hbl : b.length < 10000) (hil : i < 10000) (ho : i + b.length < out.length) (hol : out.length < 100000) (hD : Big D out) (hD0 : 0 ≤ D) (hD1 : D + 3000000 * b.length ≤ 1000000000000) (n : Nat) (hn : b.length < n) :
  ∃ out', iter (X := r1_TimesOf_x6) (β := r1_TimesOf_r6) n ((i : Int), x, g1, g2, g3, b, (b.length : Int), 0, nb, b, gb, gl, ng, out, ()) r1_TimesOf_b6 = some (Sum.inr (g1, g2, g3, nb, b, gb, gl, ng, out', ())) ∧ out'.length = out.length ∧ Big (D + 3000000 * b.length) out' ∧ v6 out' = v6 out + 1000000 ^ i * (x * v6 b) := by
 refine iter_post (Inv := fun k s => ∃ o : List Int, s = ((i : Int), x, g1, g2, g3, b, (b.length : Int), (k : Int), nb, b, gb, gl, ng, o, ()) ∧ o.length = out.length ∧ Big (D + 3000000 * k) o ∧ v6 o = v6 out + 1000000 ^ i * (x * v6 (b.take k))) b.length
  (fun r => ∃ out', r = some (Sum.inr (g1, g2, g3, nb, b, gb, gl, ng, out', ())) ∧ out'.length = out.length ∧ Big (D + 3000000 * b.length) out' ∧ v6 out' = v6 out + 1000000 ^ i * (x * v6 b)) ?_ ?_ n 0 _ ⟨out, rfl, rfl, hD.mono (by omega), by simp [v6_nil]⟩ (by omega) (by omega)
 ·rintro k _ again hk ⟨o, rfl, hol', hB, hv⟩ ih
  unfold r1_TimesOf_b6
  dsimp only
  have hy : b[k]? = some b[k] := getElem?_of hk
  have hyd := hb.get hy
  have hts := v6_take_succ hy
  generalize b[k] = y at hy hyd hts
  have e1 : w64 ((i : Int) + (k : Int)) = ((i + k : Nat) : Int) := by rw [w64_id (by omega) (by omega)]; omega
  have e2 : w64 (((i + k : Nat) : Int) + 1) = ((i + k + 1 : Nat) : Int) := by rw [w64_id (by omega) (by omega)]; omega
  rw [bif_pos (by omega), idx_nat, hy, Option.bind_some, e1, e2]
  simp only [Int.toNat_natCast]
  have h3 : o[i + k]? = some o[i + k] := getElem?_of (by omega)
  have h4 : o[i + k + 1]? = some o[i + k + 1] := getElem?_of (by omega)
  have d3 := hB.get h3
  have d4 := hB.get h4
  generalize o[i + k]'(by omega) = y3 at h3 d3
  generalize o[i + k + 1]'(by omega) = y4 at h4 d4
  have hxy : 0 ≤ x * y ∧ x * y ≤ 1000000000000 := by
   constructor
   ·exact Int.mul_nonneg hx.1 hyd.1
   ·have h1 : x * y ≤ 1000000 * y := Int.mul_le_mul_of_nonneg_right (by omega) hyd.1
    omega
  have e3 : w64 (y3 + w64 (x * y)) = y3 + x * y := by rw [w64_id (n := x * y) (by omega) (by omega), w64_id (by omega) (by omega)]
  generalize hxy' : x * y = xy at *
  have h5 : (o.set (i + k) (y3 + xy))[i + k + 1]? = some y4 := by rw [List.getElem?_set_ne (by omega)]; exact h4
  have h6 : (o.set (i + k) (y3 + xy))[i + k]? = some (y3 + xy) := List.getElem?_set_self (by omega)
  have e4 : w64 (y4 + w64 (Int.tdiv (y3 + xy) 1000000)) = y4 + (y3 + xy) / 1000000 := by
   rw [Int.tdiv_eq_ediv_of_nonneg (by omega), w64_id (n := (y3 + xy) / 1000000) (by omega) (by omega), w64_id (by omega) (by omega)]
  have h7 : ((o.set (i + k) (y3 + xy)).set (i + k + 1) (y4 + (y3 + xy) / 1000000))[i + k]? = some (y3 + xy) := by rw [List.getElem?_set_ne (by omega)]; exact h6
  simp only [h3, Option.bind_some, e3]
  simp only [h5, h6, Option.bind_some]
  simp only [e4, h7, Option.bind_some, List.length_set]
  rw [chk_pos (by simp only [Bool.and_eq_true, decide_eq_true_eq]; omega), chk_pos (by simp only [Bool.and_eq_true, decide_eq_true_eq]; omega), chk_pos (by simp only [Bool.and_eq_true, decide_eq_true_eq]; omega), chk_pos (by simp only [Bool.and_eq_true, decide_eq_true_eq]; omega), chk_pos (by simp only [Bool.and_eq_true, decide_eq_true_eq]; omega), chk_pos (by simp only [Bool.and_eq_true, decide_eq_true_eq]; omega), chk_pos (by simp only [Bool.and_eq_true, decide_eq_true_eq]; omega)]
  rw [w64_id (n := (k : Int) + 1) (by omega) (by omega), Int.tmod_eq_emod_of_nonneg (by omega)]
  refine ih _ ⟨_, rfl, by simp only [List.length_set]; exact hol', ?_, ?_⟩
  ·rw [set_thrice]
   exact Big.set (D := D + 3000000 * ((k + 1 : Nat) : Int)) (Big.set hB (by omega) (by omega)) (Int.le_refl _) (by omega)
  ·rw [v6_carry h3 h4, hv, hts]
   have e5 : x * (v6 (b.take k) + 1000000 ^ k * y) = x * v6 (b.take k) + 1000000 ^ k * xy := by rw [Int.mul_add, ← hxy', Int.mul_left_comm]
   rw [e5, Int.mul_add, Int.pow_add, show y3 + xy - y3 = xy by omega, Int.mul_assoc (1000000 ^ i) (1000000 ^ k) xy]
   omega
 ·rintro _ again ⟨o, rfl, hol', hB, hv⟩
  unfold r1_TimesOf_b6
  dsimp only
  rw [bif_neg (by omega)]
  rw [List.take_of_length_le (Nat.le_refl _)] at hv
  exact ⟨o, rfl, hol', hB, hv⟩

theorem r1_Times_outer (a b : List Int) (ha : Dg6 a) (hb : Dg6 b) (hal : a.length < 100) (hbl : b.length < 1000) (nb gb : Bool) (gl : List Int) (ng : Bool) (out : List Int) (ho : a.length + b.length < out.length) (hol : out.length < 100000) (hz : Big 0 out) (hv0 : v6 out = 0) (n : Nat) (hn : a.length < n) :
  ∃ out', iter (X := r1_TimesOf_x3) (β := r1_TimesOf_r3) n (a, (a.length : Int), 0, nb, b, gb, gl, ng, out, ()) r1_TimesOf_b3 = some (Sum.inr (gb, gl, ng, out', ())) ∧ out'.length = out.length ∧ Big 1000000000000 out' ∧ v6 out' = v6 a * v6 b := by
 refine iter_post (Inv := fun i s => ∃ o : List Int, s = (a, (a.length : Int), (i : Int), nb, b, gb, gl, ng, o, ()) ∧ o.length = out.length ∧ Big (3000000 * b.length * i) o ∧ v6 o = v6 (a.take i) * v6 b) a.length
  (fun r => ∃ out', r = some (Sum.inr (gb, gl, ng, out', ())) ∧ out'.length = out.length ∧ Big 1000000000000 out' ∧ v6 out' = v6 a * v6 b) ?_ ?_ n 0 _ ⟨out, rfl, rfl, hz.mono (by omega), by simp [v6_nil, hv0]⟩ (by omega) (by omega)
 ·rintro i _ again hi ⟨o, rfl, hl, hB, hv⟩ ih
  unfold r1_TimesOf_b3
  dsimp only
  have hy : a[i]? = some a[i] := getElem?_of hi
  have hyd := ha.get hy
  have hts := v6_take_succ hy
  generalize a[i] = y at hy hyd hts
  rw [bif_pos (by omega), idx_nat, hy, Option.bind_some]
  have hbnd : 3000000 * (b.length : Int) * (i : Int) ≤ 3000000 * (b.length : Int) * 99 := Int.mul_le_mul_of_nonneg_left (by omega) (by omega)
  have hnn : 0 ≤ 3000000 * (b.length : Int) * (i : Int) := Int.mul_nonneg (by omega) (by omega)
  obtain ⟨o', h1, h2, h3, h4⟩ := r1_Times_inner i y a (a.length : Int) (i : Int) b nb gb gl ng o (3000000 * (b.length : Int) * (i : Int)) hyd hb (by omega) (by omega) (by omega) (by omega) hB hnn (by omega) (Int.natAbs (i : Int) + (Int.natAbs y + (List.length a + (Int.natAbs (a.length : Int) + (Int.natAbs (i : Int) + (List.length b + (Int.natAbs ((List.length b : Int)) + (Int.natAbs (0 : Int) + (List.length b + (List.length gl + (List.length o + 2))))))))))) (by omega)
  rw [h1, joinB_inr]
  dsimp only
  rw [w64_id (by omega) (by omega)]
  refine ih _ ⟨o', rfl, by omega, ?_, ?_⟩
  ·have e : 3000000 * (b.length : Int) * (i : Int) + 3000000 * (b.length : Int) = 3000000 * (b.length : Int) * ((i + 1 : Nat) : Int) := by
    rw [show ((i + 1 : Nat) : Int) = (i : Int) + 1 by omega, Int.mul_add, Int.mul_one]
   rw [← e]; exact h3
  ·rw [h4, hv, hts, Int.add_mul, Int.mul_assoc]
 ·rintro _ again ⟨o, rfl, hl, hB, hv⟩
  unfold r1_TimesOf_b3
  dsimp only
  rw [bif_neg (by omega)]
  rw [List.take_of_length_le (Nat.le_refl _)] at hv
  have hbnd : 3000000 * (b.length : Int) * (a.length : Int) ≤ 3000000 * (b.length : Int) * 99 := Int.mul_le_mul_of_nonneg_left (by omega) (by omega)
  exact ⟨o, rfl, hl, hB.mono (by omega), hv⟩

theorem r1_Times_last (l : List Int) (nb g : Bool) (gl : List Int) (M : Nat) (hM : M + 1 = l.length) (hl : l.length < 10000) (hB : Big 1000000000000 l) (n : Nat) (hn : M < n) :
  ∃ l', iter (X := r1_TimesOf_x14) (β := r1_TimesOf_r14) n ((M : Int), 0, g, gl, nb, l, ()) r1_TimesOf_b14 = some (Sum.inr (g, gl, nb, l', ())) ∧ l'.length = l.length ∧ Dg6 (l'.take M) ∧ (∀ d, l'[M]? = some d → 0 ≤ d) ∧ v6 l' = v6 l := by
 refine iter_post (Inv := fun i s => ∃ o : List Int, s = ((M : Int), (i : Int), g, gl, nb, o, ()) ∧ o.length = l.length ∧ Big (1000000000000 + 2000000 * i) o ∧ Dg6 (o.take i) ∧ v6 o = v6 l) M
  (fun r => ∃ l', r = some (Sum.inr (g, gl, nb, l', ())) ∧ l'.length = l.length ∧ Dg6 (l'.take M) ∧ (∀ d, l'[M]? = some d → 0 ≤ d) ∧ v6 l' = v6 l) ?_ ?_ n 0 _ ⟨l, rfl, rfl, hB.mono (by omega), by simpa using Dig.nil, rfl⟩ (by omega) (by omega)
 ·rintro i _ again hi ⟨o, rfl, hol, hBo, hd, hv⟩ ih
  unfold r1_TimesOf_b14
  dsimp only
  have e2 : w64 ((i : Int) + 1) = ((i + 1 : Nat) : Int) := by rw [w64_id (by omega) (by omega)]; omega
  have h3 : o[i]? = some o[i] := getElem?_of (by omega)
  have h4 : o[i + 1]? = some o[i + 1] := getElem?_of (by omega)
  have d3 := hBo.get h3
  have d4 := hBo.get h4
  generalize o[i]'(by omega) = y3 at h3 d3
  generalize o[i + 1]'(by omega) = y4 at h4 d4
  rw [bif_pos (by omega), e2]
  simp only [Int.toNat_natCast, h3, h4, Option.bind_some, List.length_set]
  have e4 : w64 (y4 + w64 (Int.tdiv y3 1000000)) = y4 + y3 / 1000000 := by
   rw [Int.tdiv_eq_ediv_of_nonneg (by omega), w64_id (n := y3 / 1000000) (by omega) (by omega), w64_id (by omega) (by omega)]
  have h7 : (o.set (i + 1) (y4 + y3 / 1000000))[i]? = some y3 := by rw [List.getElem?_set_ne (by omega)]; exact h3
  simp only [e4, h7, Option.bind_some]
  rw [chk_pos (by simp only [Bool.and_eq_true, decide_eq_true_eq]; omega), chk_pos (by simp only [Bool.and_eq_true, decide_eq_true_eq]; omega), chk_pos (by simp only [Bool.and_eq_true, decide_eq_true_eq]; omega), chk_pos (by simp only [Bool.and_eq_true, decide_eq_true_eq]; omega), chk_pos (by simp only [Bool.and_eq_true, decide_eq_true_eq]; omega), Int.tmod_eq_emod_of_nonneg (by omega)]
  have hself : o.set i y3 = o := by
   apply List.ext_getElem?
   intro j
   by_cases hj : i = j
   ·subst hj; rw [List.getElem?_set_self (by omega), h3]
   ·rw [List.getElem?_set_ne hj]
  refine ih _ ⟨_, rfl, by simp only [List.length_set]; exact hol, ?_, ?_, ?_⟩
  ·exact Big.set (D := 1000000000000 + 2000000 * ((i + 1 : Nat) : Int)) (Big.set hBo (by omega) (by omega)) (Int.le_refl _) (by omega)
  ·have hg : ((o.set (i + 1) (y4 + y3 / 1000000)).set i (y3 % 1000000))[i]? = some (y3 % 1000000) := List.getElem?_set_self (by rw [List.length_set]; omega)
   rw [take_succ_get hg]
   refine Dig.snoc ?_ (by omega)
   rw [List.take_set_of_le (by omega), List.take_set_of_le (by omega)]
   exact hd
  ·have := v6_carry h3 h4 (t := y3)
   rw [hself] at this
   rw [this, hv]; simp
 ·rintro _ again ⟨o, rfl, hol, hBo, hd, hv⟩
  unfold r1_TimesOf_b14
  dsimp only
  rw [bif_neg (by omega)]
  exact ⟨o, rfl, hol, hd, fun d hd' => (hBo.get hd').1, hv⟩

theorem r1_TimesOf_eq (x y : Int) (hx : (dg6 x.natAbs).length < 100) (hy : (dg6 y.natAbs).length < 1000) : r1_TimesOf (N x) (N y) = some (N (x * y), ()) := by
 unfold r1_TimesOf N
 dsimp only
 have e1 : w64 (w64 (((dg6 x.natAbs).length : Int) + ((dg6 y.natAbs).length : Int)) + 1) = (((dg6 x.natAbs).length + (dg6 y.natAbs).length + 1 : Nat) : Int) := by
  rw [w64_id (n := ((dg6 x.natAbs).length : Int) + ((dg6 y.natAbs).length : Int)) (by omega) (by omega), w64_id (by omega) (by omega)]; omega
 rw [e1, Int.toNat_natCast, chk_pos (by simp only [Bool.and_eq_true, decide_eq_true_eq]; omega)]
 generalize hL : (dg6 x.natAbs).length + (dg6 y.natAbs).length + 1 = L at *
 have hz : Big 0 (List.replicate L 0) := fun d hd => by rw [List.mem_replicate] at hd; omega
 have hv0 : v6 (List.replicate L 0) = 0 := by
  generalize L = k
  induction k with
  | zero => rfl
  | succ k ih => rw [List.replicate_succ, v6_cons, ih]; rfl
 obtain ⟨o, h1, h2, h3, h4⟩ := r1_Times_outer (dg6 x.natAbs) (dg6 y.natAbs) (dg6_dig _) (dg6_dig _) hx hy (decide (y < 0)) false [] (!(decide (x < 0) == decide (y < 0))) (List.replicate L 0) (by rw [List.length_replicate]; omega) (by rw [List.length_replicate]; omega) hz hv0 (List.length (dg6 x.natAbs) + (Int.natAbs ((List.length (dg6 x.natAbs) : Int)) + (Int.natAbs (0 : Int) + (List.length (dg6 y.natAbs) + (List.length ([] : List Int) + (List.length ((List.replicate L 0) : List Int) + 2)))))) (by omega)
 rw [h1, joinB_inr]
 dsimp only
 rw [List.length_replicate] at h2
 have e2 : w64 ((o.length : Int) - 1) = (((L - 1 : Nat)) : Int) := by rw [w64_id (by omega) (by omega)]; omega
 rw [e2]
 obtain ⟨o', g1, g2, g3, g4, g5⟩ := r1_Times_last o (!(decide (x < 0) == decide (y < 0))) false [] (L - 1) (by omega) (by omega) h3 (Int.natAbs ((((L - 1 : Nat)) : Int)) + (Int.natAbs (0 : Int) + (List.length ([] : List Int) + (List.length o + 2)))) (by omega)
 rw [g1, joinB_inr]
 dsimp only
 have hm : v6 o' = (x.natAbs : Int) * (y.natAbs : Int) := by rw [g5, h4, v6_dg, v6_dg]
 have hlast : o'[L - 1]? = some (o'[L - 1]'(by omega)) := getElem?_of (by omega)
 have hsplit : v6 o' = v6 (o'.take (L - 1)) + 1000000 ^ (L - 1) * (o'[L - 1]'(by omega)) := by
  rw [← v6_take_succ hlast, List.take_of_length_le (by omega)]
 have hlt : v6 o' < 1000000 ^ (L - 1) := by
  rw [hm]
  have a1 := v6_lt (dg6_dig x.natAbs)
  have a2 := v6_lt (dg6_dig y.natAbs)
  rw [v6_dg] at a1 a2
  rw [show L - 1 = (dg6 x.natAbs).length + (dg6 y.natAbs).length by omega, Int.pow_add]
  have b1 : (x.natAbs : Int) * (y.natAbs : Int) ≤ (x.natAbs : Int) * 1000000 ^ (dg6 y.natAbs).length := Int.mul_le_mul_of_nonneg_left (by omega) (by omega)
  have b2 : (x.natAbs : Int) * 1000000 ^ (dg6 y.natAbs).length < 1000000 ^ (dg6 x.natAbs).length * 1000000 ^ (dg6 y.natAbs).length := Int.mul_lt_mul_of_pos_right a1 (by omega)
  omega
 have hl0 := g4 _ hlast
 generalize o'[L - 1]'(by omega) = dl at hlast hsplit hl0
 have hdl : dl = 0 := by
  have h5 := v6_nonneg g3
  rcases (show dl = 0 ∨ 1 ≤ dl by omega) with h | h
  ·exact h
  ·have hp : (0 : Int) < 1000000 ^ (L - 1) := pow_pos' (by omega) _
   have : (1000000 : Int) ^ (L - 1) * 1 ≤ 1000000 ^ (L - 1) * dl := Int.mul_le_mul_of_nonneg_left h (by omega)
   omega
 have hdig : Dg6 o' := by
  have e : o' = o'.take (L - 1) ++ [dl] := by
   rw [← take_succ_get hlast, List.take_of_length_le (by omega)]
  rw [e]; exact g3.snoc (by omega)
 rw [r1_made _ _ hdig (by omega), Option.bind_some, hm]
 show some (N _, ()) = some (N (x * y), ())
 congr 3
 by_cases hxn : x < 0 <;> by_cases hyn : y < 0
 ·simp only [hxn, hyn, decide_true, beq_self_eq_true, Bool.not_true, Bool.false_eq_true, if_false]
  rw [show (x.natAbs : Int) = -x by omega, show (y.natAbs : Int) = -y by omega, Int.neg_mul_neg]
 ·simp only [hxn, hyn, decide_true, decide_false, if_true, show (!(true == false)) = true from rfl]
  rw [show (x.natAbs : Int) = -x by omega, show (y.natAbs : Int) = y by omega, Int.neg_mul, Int.neg_neg]
 ·simp only [hxn, hyn, decide_true, decide_false, if_true, show (!(false == true)) = true from rfl]
  rw [show (x.natAbs : Int) = x by omega, show (y.natAbs : Int) = -y by omega, Int.mul_neg, Int.neg_neg]
 ·simp only [hxn, hyn, decide_false, beq_self_eq_true, Bool.not_true, Bool.false_eq_true, if_false]
  rw [show (x.natAbs : Int) = x by omega, show (y.natAbs : Int) = y by omega]

end Go.Md
