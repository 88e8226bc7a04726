/-
 Plain facts: loops, digits, whole numbers. No condition.
-/
import Derived.Test.YtcoofjaonlccjaaGreatDoorUm
set_option linter.all false
namespace Go.Md
open Go.Dn

def forL {α σ β : Type} (g : σ → Nat → α → (σ → Option β) → Option β) (fin : σ → Option β) : List α → Nat → σ → Option β
 | [], _, s => fin s
 | y :: r, i, s => g s i y fun s' => forL g fin r (i + 1) s'

theorem iter_forL {X α σ β : Type} {f : X → (X → Option β) → Option β} (mk : σ → Nat → X) (l : List α) (g : σ → Nat → α → (σ → Option β) → Option β) (fin : σ → Option β)
  (hstep : ∀ s i y again, l[i]? = some y → f (mk s i) again = g s i y fun s' => again (mk s' (i + 1))) (hend : ∀ s again, f (mk s l.length) again = fin s) :
  ∀ (r : List α) (i : Nat) (s : σ) (n : Nat), l.drop i = r → i ≤ l.length → r.length < n → iter n (mk s i) f = forL g fin r i s
 | _, _, _, 0, _, _, hn => absurd hn (Nat.not_lt_zero _)
 | [], i, s, n + 1, hd, hi, _ => by
  have : i = l.length := by
   have := congrArg List.length hd
   simp at this; omega
  subst this
  exact hend s _
 | y :: r, i, s, n + 1, hd, hi, hn => by
  have hy : l[i]? = some y := by
   have := congrArg (·[0]?) hd
   simpa [List.getElem?_drop] using this
  have hr : l.drop (i + 1) = r := by
   have := congrArg List.tail hd
   simpa [List.tail_drop] using this
  have hi' : i < l.length := (List.getElem?_eq_some_iff.1 hy).1
  show f (mk s i) _ = _
  rw [hstep s i y _ hy]
  show g s i y _ = g s i y _
  congr 1
  funext s'
  exact iter_forL mk l g fin hstep hend r (i + 1) s' n hr hi' (by simp at hn; omega)

theorem iter_for {X α σ β : Type} {f : X → (X → Option β) → Option β} (mk : σ → Nat → X) (l : List α) (g : σ → Nat → α → (σ → Option β) → Option β) (fin : σ → Option β)
  (hstep : ∀ s i y again, l[i]? = some y → f (mk s i) again = g s i y fun s' => again (mk s' (i + 1))) (hend : ∀ s again, f (mk s l.length) again = fin s) (s : σ) (n : Nat) (hn : l.length < n) : iter n (mk s 0) f = forL g fin l 0 s :=
 iter_forL mk l g fin hstep hend l 0 s n rfl (Nat.zero_le _) hn

theorem iter_post {X β : Type} {f : X → (X → Option β) → Option β} (Inv : Nat → X → Prop) (N : Nat) (Q : Option β → Prop)
  (step : ∀ i x again, i < N → Inv i x → (∀ y, Inv (i + 1) y → Q (again y)) → Q (f x again)) (fin : ∀ x again, Inv N x → Q (f x again)) : ∀ n i x, Inv i x → i ≤ N → N - i < n → Q (iter n x f)
 | 0, _, _, _, _, hn => absurd hn (Nat.not_lt_zero _)
 | n + 1, i, x, hx, hi, hn => by
  show Q (f x _)
  by_cases h : i = N
  ·subst h; exact fin x _ hx
  ·exact step i x _ (by omega) hx fun y hy => iter_post Inv N Q step fin n (i + 1) y hy (by omega) (by omega)
theorem iter_meas {X β : Type} {f : X → (X → Option β) → Option β} (Inv : X → Prop) (μ : X → Nat) (Q : X → Option β → Prop)
  (step : ∀ x again, Inv x → (∀ y, Inv y → μ y < μ x → Q y (again y)) → Q x (f x again)) : ∀ n x, Inv x → μ x < n → Q x (iter n x f)
 | 0, _, _, hn => absurd hn (Nat.not_lt_zero _)
 | n + 1, x, hx, hn => step x _ hx fun y hy h => iter_meas Inv μ Q step n y hy (by omega)

theorem maxLen_eq : maxLen = 9223372036854775807 := rfl
theorem chk_pos {β : Type} {b : Bool} (h : b = true) (x : Option β) : chk b x = x := by rw [h]; rfl
theorem chk_app {n k : Nat} (h : n * k ≤ 140737488355328) (h2 : n ≤ 9223372036854775807) : (decide (n * k ≤ 140737488355328) && decide (n ≤ maxLen)) = true := by
 simp only [Bool.and_eq_true, decide_eq_true_eq]; rw [maxLen_eq]; omega
theorem bif_pos {α : Type} {p : Prop} [Decidable p] (h : p) (x y : α) : (bif decide p then x else y) = x := by rw [decide_eq_true h]; rfl
theorem bif_neg {α : Type} {p : Prop} [Decidable p] (h : ¬p) (x y : α) : (bif decide p then x else y) = y := by rw [decide_eq_false h]; rfl
theorem joinB_inl {β γ : Type} (r : β) (f : γ → Option β) : joinB (some (Sum.inl r)) f = some r := rfl
theorem joinB_inr {β γ : Type} (v : γ) (f : γ → Option β) : joinB (β := β) (some (Sum.inr v)) f = f v := rfl
theorem getElem?_of {α : Type} {l : List α} {i : Nat} (h : i < l.length) : l[i]? = some (l[i]'h) := List.getElem?_eq_getElem h

theorem wrap_s {k : IntKind} {n : Int} (h1 : k.min ≤ n) (h2 : n ≤ k.max) : k.wrap n = n := by
 cases k <;> simp [IntKind.wrap, IntKind.min, IntKind.max, IntKind.bits, IntKind.signed] at * <;> (try split) <;> omega
theorem w64_id {n : Int} (h1 : -9223372036854775808 ≤ n) (h2 : n ≤ 9223372036854775807) : w64 n = n := wrap_s h1 h2
theorem wu64_id {n : Int} (h1 : 0 ≤ n) (h2 : n ≤ 18446744073709551615) : wu64 n = n := wrap_s h1 h2
theorem wu32_id {n : Int} (h1 : 0 ≤ n) (h2 : n ≤ 4294967295) : wu32 n = n := wrap_s h1 h2
theorem wu64_mod (n : Int) : wu64 n = n % 18446744073709551616 := by simp [wu64, IntKind.wrap, IntKind.bits, IntKind.signed]
theorem wu32_mod (n : Int) : wu32 n = n % 4294967296 := by simp [wu32, IntKind.wrap, IntKind.bits, IntKind.signed]

theorem idx_nat {α : Type} (l : List α) (i : Nat) : idx l (i : Int) = l[i]? := by simp [idx]
end Go.Md

namespace Go.Md
open Go.Dn

def val (B : Int) : List Int → Int
 | [] => 0
 | d :: r => d + B * val B r
def Dig (B : Int) (l : List Int) : Prop := ∀ d, d ∈ l → 0 ≤ d ∧ d < B

theorem Dig.nil {B : Int} : Dig B [] := fun _ h => by cases h
theorem Dig.cons {B d : Int} {l : List Int} (h : 0 ≤ d ∧ d < B) (hl : Dig B l) : Dig B (d :: l) := fun x hx => by
 rcases List.mem_cons.1 hx with rfl | hx
 ·exact h
 ·exact hl x hx
theorem Dig.head {B d : Int} {l : List Int} (h : Dig B (d :: l)) : 0 ≤ d ∧ d < B := h d (by simp)
theorem Dig.tail {B d : Int} {l : List Int} (h : Dig B (d :: l)) : Dig B l := fun x hx => h x (by simp [hx])
theorem Dig.append {B : Int} {l m : List Int} (h : Dig B l) (k : Dig B m) : Dig B (l ++ m) := fun x hx => by
 rcases List.mem_append.1 hx with hx | hx
 ·exact h x hx
 ·exact k x hx
theorem Dig.snoc {B d : Int} {l : List Int} (h : Dig B l) (hd : 0 ≤ d ∧ d < B) : Dig B (l ++ [d]) := h.append (Dig.cons hd Dig.nil)
theorem Dig.take {B : Int} {l : List Int} (h : Dig B l) (n : Nat) : Dig B (l.take n) := fun x hx => h x (List.mem_of_mem_take hx)
theorem Dig.drop {B : Int} {l : List Int} (h : Dig B l) (n : Nat) : Dig B (l.drop n) := fun x hx => h x (List.mem_of_mem_drop hx)
theorem Dig.get {B d : Int} {l : List Int} {i : Nat} (h : Dig B l) (hi : l[i]? = some d) : 0 ≤ d ∧ d < B := h d (List.mem_of_getElem? hi)
theorem Dig.left {B : Int} {l m : List Int} (h : Dig B (l ++ m)) : Dig B l := fun x hx => h x (List.mem_append_left _ hx)
theorem Dig.right {B : Int} {l m : List Int} (h : Dig B (l ++ m)) : Dig B m := fun x hx => h x (List.mem_append_right _ hx)

theorem val_nonneg {B : Int} (hB : 0 < B) : ∀ {l : List Int}, Dig B l → 0 ≤ val B l
 | [], _ => Int.le_refl _
 | d :: r, h => by
  have h1 := h.head; have h2 := val_nonneg hB h.tail
  have : 0 ≤ B * val B r := Int.mul_nonneg (by omega) h2
  simp only [val]; omega
theorem val_lt {B : Int} (hB : 0 < B) : ∀ {l : List Int}, Dig B l → val B l < B ^ l.length
 | [], _ => by simp [val]
 | d :: r, h => by
  have h1 := h.head; have h2 := val_lt hB h.tail
  have h3 : B * (val B r + 1) ≤ B * B ^ r.length := Int.mul_le_mul_of_nonneg_left h2 (by omega)
  rw [Int.mul_add, Int.mul_one] at h3
  simp only [val, List.length_cons]
  rw [Int.pow_succ, Int.mul_comm (B ^ r.length) B]
  omega
theorem val_append {B : Int} : ∀ (l m : List Int), val B (l ++ m) = val B l + B ^ l.length * val B m
 | [], m => by simp [val]
 | d :: r, m => by
  simp only [List.cons_append, val, val_append r m, List.length_cons, Int.pow_succ]
  rw [Int.mul_add, Int.add_assoc]
  congr 2
  rw [Int.mul_comm (B ^ r.length) B, Int.mul_assoc]
theorem val_snoc {B : Int} (l : List Int) (d : Int) : val B (l ++ [d]) = val B l + B ^ l.length * d := by
 rw [val_append]; simp [val]
theorem pow_pos' {B : Int} (hB : 0 < B) : ∀ n : Nat, 0 < B ^ n
 | 0 => by simp
 | n + 1 => by rw [Int.pow_succ]; exact Int.mul_pos (pow_pos' hB n) hB

def dgF (B : Nat) : Nat → Nat → List Int
 | 0, _ => []
 | f + 1, n => if n = 0 then [] else ((n % B : Nat) : Int) :: dgF B f (n / B)
def dg (B n : Nat) : List Int := dgF B n n
theorem dgF_eq {B : Nat} (hB : 2 ≤ B) : ∀ (f g n : Nat), n ≤ f → n ≤ g → dgF B f n = dgF B g n
 | 0, 0, _, _, _ => rfl
 | 0, g + 1, n, h, _ => by have : n = 0 := by omega
                           subst this; simp [dgF]
 | f + 1, 0, n, _, h => by have : n = 0 := by omega
                           subst this; simp [dgF]
 | f + 1, g + 1, n, hf, hg => by
  by_cases hn : n = 0
  ·subst hn; simp [dgF]
  ·have : n / B < n := Nat.div_lt_self (by omega) (by omega)
   simp only [dgF, hn, if_false]
   rw [dgF_eq hB f g (n / B) (by omega) (by omega)]
theorem dg_zero (B : Nat) : dg B 0 = [] := rfl
theorem dg_pos {B : Nat} (hB : 2 ≤ B) {n : Nat} (hn : 0 < n) : dg B n = ((n % B : Nat) : Int) :: dg B (n / B) := by
 have : n / B < n := Nat.div_lt_self hn (by omega)
 obtain ⟨m, rfl⟩ : ∃ m, n = m + 1 := ⟨n - 1, by omega⟩
 unfold dg
 rw [dgF, if_neg (by omega), dgF_eq hB m ((m + 1) / B) _ (by omega) (Nat.le_refl _)]
theorem dg_dig {B : Nat} (hB : 2 ≤ B) : ∀ n, Dig B (dg B n) := by
 intro n
 induction n using Nat.strongRecOn with
 | _ n ih =>
  by_cases hn : n = 0
  ·subst hn; exact Dig.nil
  ·rw [dg_pos hB (by omega)]
   exact Dig.cons ⟨by omega, by have := Nat.mod_lt n (show 0 < B by omega); omega⟩ (ih _ (Nat.div_lt_self (by omega) (by omega)))
theorem val_dg {B : Nat} (hB : 2 ≤ B) : ∀ n, val B (dg B n) = n := by
 intro n
 induction n using Nat.strongRecOn with
 | _ n ih =>
  by_cases hn : n = 0
  ·subst hn; rfl
  ·rw [dg_pos hB (by omega), val, ih _ (Nat.div_lt_self (by omega) (by omega))]
   have := Nat.mod_add_div n B
   omega
theorem dg_ne_nil {B : Nat} (hB : 2 ≤ B) {n : Nat} (hn : 0 < n) : dg B n ≠ [] := by rw [dg_pos hB hn]; simp
theorem dg_eq_nil {B : Nat} (hB : 2 ≤ B) {n : Nat} : dg B n = [] ↔ n = 0 := by
 constructor
 ·intro h
  rcases Nat.eq_zero_or_pos n with h0 | h0
  ·exact h0
  ·exact absurd h (dg_ne_nil hB h0)
 ·rintro rfl; rfl
theorem dg_mul_add {B : Nat} (hB : 2 ≤ B) {d n : Nat} (hd : d < B) (h : 0 < d + B * n) : dg B (d + B * n) = (d : Int) :: dg B n := by
 rw [dg_pos hB h]
 have h1 : (d + B * n) % B = d := by rw [Nat.add_mul_mod_self_left, Nat.mod_eq_of_lt hd]
 have h2 : (d + B * n) / B = n := by rw [Nat.add_mul_div_left _ _ (by omega), Nat.div_eq_of_lt hd]; omega
 rw [h1, h2]

def trim : List Int → List Int
 | [] => []
 | d :: r => match trim r with
  | [] => if d = 0 then [] else [d]
  | t => d :: t
theorem trim_dg {B : Nat} (hB : 2 ≤ B) : ∀ {l : List Int}, Dig B l → trim l = dg B (val B l).toNat
 | [], _ => rfl
 | d :: r, h => by
  have hr := trim_dg hB h.tail
  have h1 := h.head
  have hB0 : (0 : Int) < B := by omega
  have h2 := val_nonneg hB0 h.tail
  obtain ⟨k, rfl⟩ : ∃ k : Nat, d = k := ⟨d.toNat, by omega⟩
  obtain ⟨n, hn⟩ : ∃ n : Nat, val B r = n := ⟨(val B r).toNat, by omega⟩
  have hv : (val B ((k : Int) :: r)).toNat = k + B * n := by
   simp only [val, hn]
   rw [show ((B : Int) * (n : Int)) = ((B * n : Nat) : Int) by simp]
   omega
  rw [hv]
  rw [hn] at hr
  simp only [Int.toNat_natCast] at hr
  unfold trim
  rw [hr]
  rcases Nat.eq_zero_or_pos n with h0 | h0
  ·subst h0
   simp only [dg_zero, Nat.mul_zero, Nat.add_zero]
   by_cases hk : k = 0
   ·subst hk; simp [dg_zero]
   ·have := dg_mul_add hB (d := k) (n := 0) (by omega) (by omega)
    simp only [Nat.mul_zero, Nat.add_zero, dg_zero] at this
    rw [this]; simp [hk]
  ·have hpos : 0 < k + B * n := by have := Nat.mul_pos (show 0 < B by omega) h0; omega
   rw [dg_mul_add hB (by omega) hpos]
   cases hd : dg B n with
   | nil => exact absurd hd (dg_ne_nil hB h0)
   | cons a t => rfl
theorem trim_snoc_zero : ∀ l : List Int, trim (l ++ [0]) = trim l
 | [] => rfl
 | d :: r => by simp only [List.cons_append, trim, trim_snoc_zero r]
theorem trim_snoc_ne {d : Int} (hd : d ≠ 0) : ∀ l : List Int, trim (l ++ [d]) = l ++ [d]
 | [] => by simp [trim, hd]
 | e :: r => by
  simp only [List.cons_append, trim, trim_snoc_ne hd r]
  cases h : r ++ [d] with
  | nil => simp at h
  | cons a t => rfl

theorem dg_len {B : Nat} (hB : 2 ≤ B) : ∀ (k n : Nat), n < B ^ k → (dg B n).length ≤ k
 | 0, n, h => by have : n = 0 := by simpa using h
                 subst this; simp [dg_zero]
 | k + 1, n, h => by
  by_cases hn : n = 0
  ·subst hn; simp [dg_zero]
  ·rw [dg_pos hB (by omega), List.length_cons]
   have := dg_len hB k (n / B) (by rw [Nat.pow_succ] at h; exact Nat.div_lt_of_lt_mul (by rw [Nat.mul_comm]; exact h))
   omega
theorem dg_len_lt {B : Nat} (hB : 2 ≤ B) {m n : Nat} (h : (dg B m).length < (dg B n).length) : m < n := by
 rcases Nat.lt_or_ge m n with h1 | h1
 ·exact h1
 ·exfalso
  have h2 : ∀ a b : Nat, b ≤ a → (dg B b).length ≤ (dg B a).length := by
   intro a
   induction a using Nat.strongRecOn with
   | _ a ih =>
    intro b hb
    by_cases h0 : b = 0
    ·subst h0; simp [dg_zero]
    ·rw [dg_pos hB (by omega), dg_pos hB (show 0 < a by omega), List.length_cons, List.length_cons]
     have := ih (a / B) (Nat.div_lt_self (by omega) (by omega)) (b / B) (Nat.div_le_div_right hb)
     omega
  have := h2 m n h1
  omega

end Go.Md

namespace Go.Md
open Go.Dn

def v32 (l : List Int) : Int := val 4294967296 l
theorem v32_nil : v32 [] = 0 := rfl
theorem v32_cons (d : Int) (l : List Int) : v32 (d :: l) = d + 4294967296 * v32 l := rfl
theorem v32_append (l m : List Int) : v32 (l ++ m) = v32 l + 4294967296 ^ l.length * v32 m := val_append l m
theorem v32_snoc (l : List Int) (d : Int) : v32 (l ++ [d]) = v32 l + 4294967296 ^ l.length * d := val_snoc l d
abbrev Dg (l : List Int) : Prop := Dig 4294967296 l
def dg32 (n : Nat) : List Int := dg 4294967296 n
theorem dg32_zero : dg32 0 = [] := rfl
theorem dg32_eq_nil {n : Nat} : dg32 n = [] ↔ n = 0 := dg_eq_nil (B := 4294967296) (by omega)
theorem dg32_ne_nil {n : Nat} (h : 0 < n) : dg32 n ≠ [] := dg_ne_nil (B := 4294967296) (by omega) h
theorem dg32_len_lt {m n : Nat} (h : (dg32 m).length < (dg32 n).length) : m < n := dg_len_lt (B := 4294967296) (by omega) h
theorem dg32_dig (n : Nat) : Dg (dg32 n) := dg_dig (B := 4294967296) (by omega) n
theorem v32_dg (n : Nat) : v32 (dg32 n) = n := val_dg (B := 4294967296) (by omega) n
theorem trim32 {l : List Int} (h : Dg l) : trim l = dg32 (v32 l).toNat := trim_dg (B := 4294967296) (by omega) h
theorem v32_nonneg {l : List Int} (h : Dg l) : 0 ≤ v32 l := val_nonneg (by omega) h
theorem v32_lt {l : List Int} (h : Dg l) : v32 l < 4294967296 ^ l.length := val_lt (by omega) h
theorem dg32_len {k n : Nat} (h : n < 4294967296 ^ k) : (dg32 n).length ≤ k := dg_len (B := 4294967296) (by omega) k n h

theorem whole_trimmed_eq (l : List Int) (hl : l.length < 1000000) : whole_trimmed l = some (trim l, ()) := by
 have key : ∀ n (x : whole_trimmed_x1), x.1.length < 1000000 → x.1.length < n → iter n x whole_trimmed_b1 = some (Sum.inr (trim x.1, ())) := by
  refine iter_meas (fun x : whole_trimmed_x1 => x.1.length < 1000000) (fun x => x.1.length) (fun x r => r = some (Sum.inr (trim x.1, ()))) ?_
  rintro ⟨x, u⟩ again hx ih
  simp only at hx ih ⊢
  unfold whole_trimmed_b1
  simp only
  by_cases h0 : x.length = 0
  ·have : x = [] := List.eq_nil_of_length_eq_zero h0
   subst this; simp [trim]
  ·have e1 : w64 ((x.length : Int) - 1) = ((x.length - 1 : Nat) : Int) := by rw [w64_id (by omega) (by omega)]; omega
   have hsp : x = x.take (x.length - 1) ++ [x[x.length - 1]'(by omega)] := by
    have := List.take_append_drop (x.length - 1) x
    rw [List.drop_eq_getElem_cons (by omega), List.drop_of_length_le (by omega)] at this
    exact this.symm
   rw [bif_pos (by omega), e1, idx_nat, getElem?_of (by omega)]
   simp only [Int.toNat_natCast, List.drop_zero, Option.bind_some]
   by_cases hz : x[x.length - 1]'(by omega) = 0
   ·rw [hz] at hsp ⊢
    rw [chk_pos (by simp only [Bool.and_eq_true, decide_eq_true_eq]; omega)]
    simp only [beq_self_eq_true, cond_true]
    rw [ih (List.take (x.length - 1) x, ()) (by simp only [List.length_take]; omega) (by simp only [List.length_take]; omega)]
    conv => rhs; rw [hsp, trim_snoc_zero]
   ·have : (x[x.length - 1]'(by omega) == 0) = false := by simp [hz]
    rw [this]
    simp only [cond_false]
    conv => rhs; rw [hsp, trim_snoc_ne hz]
    rw [← hsp]
 unfold whole_trimmed
 rw [key _ _ (by simpa using hl) (by simp)]
 rfl

def W (z : Int) : D_whole_Int := (decide (z < 0), dg32 z.natAbs)

theorem whole_made_eq (b : Bool) (l : List Int) (hd : Dg l) (hl : l.length < 1000000) : whole_made b l = some (W (if b then -v32 l else v32 l), ()) := by
 unfold whole_made
 rw [whole_trimmed_eq l hl, trim32 hd]
 have h0 := v32_nonneg hd
 simp only [Option.bind_some]
 cases b with
 | false => simp only [cond_false, W]; rw [show (decide ((if false = true then -v32 l else v32 l) < 0)) = false by simp; omega]; congr 4; simp; omega
 | true =>
  simp only [cond_true, W]
  congr 3
  ·by_cases hv : v32 l = 0
   ·simp [hv, dg32_zero]
   ·have hpos : 0 < v32 l := by omega
    have : dg32 (v32 l).toNat ≠ [] := dg32_ne_nil (by omega)
    have hlen : 0 < (dg32 (v32 l).toNat).length := by
     cases h : dg32 (v32 l).toNat with
     | nil => exact absurd h this
     | cons a t => simp
    simp; omega
  ·congr 1; simp; omega

theorem whole_Of_eq (n : Int) (h1 : -9223372036854775808 ≤ n) (h2 : n ≤ 9223372036854775807) : whole_Of n = some (W n, ()) := by
 unfold whole_Of
 have key : ∀ u : Int, 0 ≤ u → u ≤ 9223372036854775808 → whole_made (decide (n < 0)) [wu32 u, wu32 (Int.fdiv u (2 ^ 32))] = some (W (if decide (n < 0) then -u else u), ()) := by
  intro u hu0 hu1
  have e : Int.fdiv u (2 ^ 32) = u / 4294967296 := by rw [Int.fdiv_eq_ediv_of_nonneg _ (by omega)]; rfl
  rw [e, wu32_mod, wu32_mod]
  have hd : Dg [u % 4294967296, u / 4294967296 % 4294967296] := Dig.cons (by omega) (Dig.cons (by omega) Dig.nil)
  rw [whole_made_eq _ _ hd (by simp)]
  have hv : v32 [u % 4294967296, u / 4294967296 % 4294967296] = u := by simp only [v32_cons, v32_nil]; omega
  rw [hv]
 by_cases hn : n < 0
 ·have e1 : wu64 (0 - wu64 n) = -n := by rw [wu64_mod, wu64_mod]; omega
  rw [show decide (n < 0) = true by simpa using hn] at key ⊢
  simp only [cond_true, joinB]
  rw [e1]
  rw [show decide (n < 0) = true by simpa using hn]
  rw [key (-n) (by omega) (by omega)]
  simp
 ·have e1 : wu64 n = n := wu64_id (by omega) (by omega)
  rw [show decide (n < 0) = false by simpa using hn] at key ⊢
  simp only [cond_false, joinB]
  rw [e1]
  rw [show decide (n < 0) = false by simpa using hn]
  rw [key n (by omega) (by omega)]
  simp

theorem whole_Int_Sign_eq (z : Int) : whole_Int_Sign (W z) = some (z.sign, ()) := by
 unfold whole_Int_Sign W
 by_cases h : z < 0
 ·simp [h, Int.sign_eq_neg_one_of_neg h]
 ·by_cases h0 : z = 0
  ·subst h0; simp [dg32_zero]
  ·have hp : 0 < z := by omega
   have : dg32 z.natAbs ≠ [] := dg32_ne_nil (by omega)
   have hlen : ((dg32 z.natAbs).length : Int) ≠ 0 := by
    intro h; exact this (List.eq_nil_of_length_eq_zero (by omega))
   have hb : (((dg32 z.natAbs).length : Int) == 0) = false := by simpa using hlen
   simp only [h, decide_false, cond_false, hb, Int.sign_eq_one_of_pos hp]

theorem W_len {z : Int} {k : Nat} (h : z.natAbs < 4294967296 ^ k) : (W z).2.length ≤ k := dg32_len h

theorem whole_Int_Minus_eq (z : Int) (h : z.natAbs < 4294967296 ^ 99) : whole_Int_Minus (W z) = some (W (-z), ()) := by
 unfold whole_Int_Minus
 have hl := W_len h
 rw [whole_made_eq _ (W z).2 (dg32_dig _) (by omega)]
 simp only [Option.bind_some]
 congr 3
 simp only [W, v32_dg]
 by_cases hz : z < 0
 ·simp [hz]; omega
 ·simp [hz]; omega

theorem take_succ_get {α : Type} {l : List α} {i : Nat} {y : α} (h : l[i]? = some y) : l.take (i + 1) = l.take i ++ [y] := by
 rw [List.take_add_one, h]; rfl
theorem v32_take_succ {l : List Int} {i : Nat} {y : Int} (h : l[i]? = some y) : v32 (l.take (i + 1)) = v32 (l.take i) + 4294967296 ^ i * y := by
 have hi := (List.getElem?_eq_some_iff.1 h).1
 rw [take_succ_get h, v32_snoc, List.length_take, Nat.min_eq_left (by omega)]
theorem v32_take_none {l : List Int} {i : Nat} (h : l.length ≤ i) : v32 (l.take (i + 1)) = v32 (l.take i) := by
 rw [List.take_of_length_le h, List.take_of_length_le (by omega)]
theorem fdiv32 {u : Int} : Int.fdiv u (2 ^ 32) = u / 4294967296 := by rw [Int.fdiv_eq_ediv_of_nonneg _ (by omega)]; rfl

theorem whole_sum_core (a b : List Int) (ha : Dg a) (hb : Dg b) (hla : a.length < 100000) (hlb : b.length ≤ a.length) (n : Nat) (hn : a.length < n) :
  ∃ out c, iter (X := whole_sum_x6) (β := whole_sum_r6) n (b, [], 0, a, (a.length : Int), 0, ()) whole_sum_b6 = some (Sum.inr (out, c, ())) ∧ Dg out ∧ 0 ≤ c ∧ c ≤ 1 ∧ out.length = a.length ∧ v32 out + 4294967296 ^ a.length * c = v32 a + v32 b := by
 refine iter_post (Inv := fun i x => ∃ out c, x = (b, out, c, a, (a.length : Int), (i : Int), ()) ∧ Dg out ∧ 0 ≤ c ∧ c ≤ 1 ∧ out.length = i ∧ v32 out + 4294967296 ^ i * c = v32 (a.take i) + v32 (b.take i)) a.length
  (fun r => ∃ out c, r = some (Sum.inr (out, c, ())) ∧ Dg out ∧ 0 ≤ c ∧ c ≤ 1 ∧ out.length = a.length ∧ v32 out + 4294967296 ^ a.length * c = v32 a + v32 b) ?_ ?_ n 0 _ ⟨[], 0, rfl, Dig.nil, by omega, by omega, rfl, by simp [v32_nil]⟩ (by omega) (by omega)
 ·rintro i _ again hi ⟨out, c, rfl, hd, hc0, hc1, hlen, hv⟩ ih
  unfold whole_sum_b6
  simp only
  have hy : a[i]? = some a[i] := getElem?_of hi
  have hyd := ha.get hy
  generalize a[i] = y at hy hyd
  rw [bif_pos (by omega), idx_nat, hy, Option.bind_some]
  have step : ∀ z : Int, 0 ≤ z → z < 4294967296 → v32 (b.take (i + 1)) = v32 (b.take i) + 4294967296 ^ i * z →
    ∃ out' c', again (b, out ++ [wu32 (wu64 (wu64 (c + wu64 y) + wu64 z))], Int.fdiv (wu64 (wu64 (c + wu64 y) + wu64 z)) (2 ^ 32), a, (a.length : Int), w64 ((i : Int) + 1), ()) = some (Sum.inr (out', c', ())) ∧ Dg out' ∧ 0 ≤ c' ∧ c' ≤ 1 ∧ out'.length = a.length ∧ v32 out' + 4294967296 ^ a.length * c' = v32 a + v32 b := by
   intro z hz0 hz1 hbz
   have e1 : wu64 (wu64 (c + wu64 y) + wu64 z) = c + y + z := by
    rw [wu64_id (n := y) (by omega) (by omega), wu64_id (n := z) (by omega) (by omega), wu64_id (n := c + y) (by omega) (by omega), wu64_id (by omega) (by omega)]
   rw [e1, wu32_mod, fdiv32, w64_id (by omega) (by omega)]
   refine ih _ ⟨_, _, rfl, hd.snoc (by omega), by omega, by omega, by simp [hlen], ?_⟩
   rw [v32_snoc, hlen, v32_take_succ hy, hbz, Int.pow_succ]
   have hm := Int.mul_ediv_add_emod (c + y + z) 4294967296
   have : (4294967296 : Int) ^ i * ((c + y + z) % 4294967296) + 4294967296 ^ i * 4294967296 * ((c + y + z) / 4294967296) = 4294967296 ^ i * (c + y + z) := by
    rw [Int.mul_assoc, ← Int.mul_add]; congr 1; omega
   rw [Int.mul_add, Int.mul_add] at this
   omega
  by_cases hib : i < b.length
  ·have hz : b[i]? = some b[i] := getElem?_of hib
   rw [bif_pos (by omega), idx_nat, hz, Option.bind_some]
   simp only [joinB_inr]
   rw [chk_pos (chk_app (by omega) (by omega))]
   exact step b[i] (hb.get hz).1 (hb.get hz).2 (v32_take_succ hz)
  ·rw [bif_neg (by omega)]
   simp only [joinB_inr]
   rw [chk_pos (chk_app (by omega) (by omega))]
   have := step 0 (by omega) (by omega) (by rw [v32_take_none (by omega)]; omega)
   have e0 : wu64 (wu64 (c + wu64 y) + wu64 0) = wu64 (c + wu64 y) := by
    rw [wu64_id (n := y) (by omega) (by omega), wu64_id (n := (0 : Int)) (by omega) (by omega), wu64_id (n := c + y) (by omega) (by omega), wu64_id (by omega) (by omega)]; omega
   rw [e0] at this
   exact this
 ·rintro _ again ⟨out, c, rfl, hd, hc0, hc1, hlen, hv⟩
  unfold whole_sum_b6
  simp only
  rw [bif_neg (by omega)]
  rw [List.take_of_length_le (Nat.le_refl _), List.take_of_length_le hlb] at hv
  exact ⟨out, c, rfl, hd, hc0, hc1, hlen, hv⟩

theorem whole_sum_eq (a b : List Int) (ha : Dg a) (hb : Dg b) (hla : a.length < 100000) (hlb : b.length < 100000) :
  ∃ s, whole_sum a b = some (s, ()) ∧ Dg s ∧ v32 s = v32 a + v32 b ∧ s.length = max a.length b.length + 1 := by
 have core : ∀ (a b : List Int), Dg a → Dg b → a.length < 100000 → b.length ≤ a.length → ∃ s, (chk (decide (0 ≤ (0 : Int)) && decide ((0 : Int) ≤ (w64 (((List.length a : Int)) + 1))) && decide ((4 : Int) * (w64 (((List.length a : Int)) + 1)) ≤ 281474976710656) && decide ((w64 (((List.length a : Int)) + 1)) ≤ 9223372036854775807)) <|
 joinB (β := ((List Int) × Unit)) (γ := ((List Int) × Int × Unit)) (
  iter (X := whole_sum_x6) (β := whole_sum_r6) (List.length b + (List.length ([] : List Int) + (Int.natAbs (0 : Int) + (List.length a + (Int.natAbs ((List.length a : Int)) + (Int.natAbs (0 : Int) + 2)))))) (b, [], 0, a, (List.length a : Int), 0, ()) (whole_sum_b6)) fun v7 =>
 chk (decide (((List.length v7.1) + 1) * 4 ≤ 140737488355328) && decide ((List.length v7.1) + 1 ≤ maxLen)) <|
 some (v7.1 ++ [(wu32 v7.2.1)], ())) = some (s, ()) ∧ Dg s ∧ v32 s = v32 a + v32 b ∧ s.length = a.length + 1 := by
  intro a b ha hb hla hlb
  obtain ⟨out, c, h1, h2, h3, h4, h5, h6⟩ := whole_sum_core a b ha hb hla hlb _ (show a.length < List.length b + (List.length ([] : List Int) + (Int.natAbs (0 : Int) + (List.length a + (Int.natAbs ((List.length a : Int)) + (Int.natAbs (0 : Int) + 2))))) by omega)
  rw [h1, joinB_inr, w64_id (by omega) (by omega), chk_pos (by simp only [Bool.and_eq_true, decide_eq_true_eq]; omega)]
  simp only
  rw [chk_pos (chk_app (by omega) (by omega))]
  refine ⟨_, rfl, h2.snoc ?_, ?_, by simp [h5]⟩
  ·rw [wu32_id (by omega) (by omega)]; omega
  ·rw [wu32_id (by omega) (by omega), v32_snoc, h5]; exact h6
 unfold whole_sum
 by_cases h : a.length < b.length
 ·rw [bif_pos (by omega), joinB_inr]
  obtain ⟨s, h1, h2, h3, h4⟩ := core b a hb ha hlb (by omega)
  exact ⟨s, h1, h2, by omega, by omega⟩
 ·rw [bif_neg (by omega), joinB_inr]
  obtain ⟨s, h1, h2, h3, h4⟩ := core a b ha hb hla (by omega)
  exact ⟨s, h1, h2, by omega, by omega⟩

theorem whole_less_core (a b : List Int) (ha : Dg a) (hb : Dg b) (hla : a.length < 100000) (hlb : b.length ≤ a.length) (n : Nat) (hn : a.length < n) :
  ∃ out c, iter (X := whole_less_x4) (β := whole_less_r4) n (b, [], 0, a, (a.length : Int), 0, ()) whole_less_b4 = some (Sum.inr (out, ())) ∧ Dg out ∧ 0 ≤ c ∧ c ≤ 1 ∧ out.length = a.length ∧ v32 out = v32 a - v32 b + 4294967296 ^ a.length * c := by
 refine iter_post (Inv := fun i x => ∃ out c, x = (b, out, c, a, (a.length : Int), (i : Int), ()) ∧ Dg out ∧ 0 ≤ c ∧ c ≤ 1 ∧ out.length = i ∧ v32 out = v32 (a.take i) - v32 (b.take i) + 4294967296 ^ i * c) a.length
  (fun r => ∃ out c, r = some (Sum.inr (out, ())) ∧ Dg out ∧ 0 ≤ c ∧ c ≤ 1 ∧ out.length = a.length ∧ v32 out = v32 a - v32 b + 4294967296 ^ a.length * c) ?_ ?_ n 0 _ ⟨[], 0, rfl, Dig.nil, by omega, by omega, rfl, by simp [v32_nil]⟩ (by omega) (by omega)
 ·rintro i _ again hi ⟨out, c, rfl, hd, hc0, hc1, hlen, hv⟩ ih
  unfold whole_less_b4
  simp only
  have hy : a[i]? = some a[i] := getElem?_of hi
  have hyd := ha.get hy
  generalize a[i] = y at hy hyd
  rw [bif_pos (by omega), idx_nat, hy, Option.bind_some]
  have step : ∀ z : Int, 0 ≤ z → z < 4294967296 → v32 (b.take (i + 1)) = v32 (b.take i) + 4294967296 ^ i * z → ∀ t : Int, t = (y - c - z) % 18446744073709551616 →
    ∃ out' c', again (b, out ++ [wu32 t], wu64 (((BitVec.ofInt (IntKind.bits .u64) (Int.fdiv t (2 ^ 32)) &&& BitVec.ofInt (IntKind.bits .u64) 1).toNat : Int)), a, (a.length : Int), w64 ((i : Int) + 1), ()) = some (Sum.inr (out', ())) ∧ Dg out' ∧ 0 ≤ c' ∧ c' ≤ 1 ∧ out'.length = a.length ∧ v32 out' = v32 a - v32 b + 4294967296 ^ a.length * c' := by
   intro z hz0 hz1 hbz t ht
   have e2 : wu64 (((BitVec.ofInt (IntKind.bits .u64) (Int.fdiv t (2 ^ 32)) &&& BitVec.ofInt (IntKind.bits .u64) 1).toNat : Int)) = (if y - c - z < 0 then 1 else 0) := by
    rw [fdiv32]
    have h1 : t / 4294967296 = (if y - c - z < 0 then 4294967295 else 0) := by split <;> omega
    rw [h1]
    split <;> rfl
   rw [e2, wu32_mod, w64_id (by omega) (by omega)]
   refine ih _ ⟨_, _, rfl, hd.snoc (by omega), by split <;> omega, by split <;> omega, by simp [hlen], ?_⟩
   rw [v32_snoc, hlen, v32_take_succ hy, hbz, Int.pow_succ, hv]
   have e3 : t % 4294967296 = y - c - z + 4294967296 * (if y - c - z < 0 then 1 else 0) := by split <;> omega
   rw [e3]
   generalize (if y - c - z < 0 then (1 : Int) else 0) = q
   generalize (4294967296 : Int) ^ i = p
   rw [Int.mul_add, Int.mul_sub, Int.mul_sub, Int.mul_assoc]
   omega
  by_cases hib : i < b.length
  ·have hz : b[i]? = some b[i] := getElem?_of hib
   rw [bif_pos (by omega), idx_nat, hz, Option.bind_some]
   simp only [joinB_inr]
   rw [chk_pos (chk_app (by omega) (by omega))]
   have hz' := hb.get hz
   refine step b[i] hz'.1 hz'.2 (v32_take_succ hz) _ ?_
   rw [wu64_id (n := y) (by omega) (by omega), wu64_id (n := b[i]) (by omega) (by omega), wu64_mod, wu64_mod]
   omega
  ·rw [bif_neg (by omega)]
   simp only [joinB_inr]
   rw [chk_pos (chk_app (by omega) (by omega))]
   refine step 0 (by omega) (by omega) (by rw [v32_take_none (by omega)]; omega) _ ?_
   rw [wu64_id (n := y) (by omega) (by omega), wu64_mod]
   omega
 ·rintro _ again ⟨out, c, rfl, hd, hc0, hc1, hlen, hv⟩
  unfold whole_less_b4
  simp only
  rw [bif_neg (by omega)]
  rw [List.take_of_length_le (Nat.le_refl _), List.take_of_length_le hlb] at hv
  exact ⟨out, c, rfl, hd, hc0, hc1, hlen, hv⟩

theorem whole_less_eq (a b : List Int) (ha : Dg a) (hb : Dg b) (hla : a.length < 100000) (hlb : b.length ≤ a.length) (hle : v32 b ≤ v32 a) : whole_less a b = some (dg32 (v32 a - v32 b).toNat, ()) := by
 unfold whole_less
 obtain ⟨out, c, h1, h2, h3, h4, h5, h6⟩ := whole_less_core a b ha hb hla hlb _ (show a.length < List.length b + (List.length ([] : List Int) + (Int.natAbs (0 : Int) + (List.length a + (Int.natAbs ((List.length a : Int)) + (Int.natAbs (0 : Int) + 2))))) by omega)
 rw [h1, joinB_inr, chk_pos (by simp only [Bool.and_eq_true, decide_eq_true_eq]; omega)]
 simp only
 rw [whole_trimmed_eq _ (by omega), trim32 h2, Option.bind_some]
 have h7 := v32_lt h2
 rw [h5] at h7
 have h8 : c = 0 := by
  rcases (show c = 0 ∨ c = 1 by omega) with h | h
  ·exact h
  ·subst h; rw [Int.mul_one] at h6; omega
 subst h8
 rw [h6, Int.mul_zero, Int.add_zero]

theorem whole_compare_core (a b : List Int) (ha : Dg a) (hb : Dg b) (hab : a.length = b.length) (hla : a.length < 100000) : ∀ (n k : Nat), k ≤ a.length → k < n →
  iter (X := whole_compare_x4) (β := whole_compare_r4) n (a, b, (k : Int) - 1, ()) whole_compare_b4 = if v32 (a.take k) < v32 (b.take k) then some (Sum.inl ((-1), ())) else if v32 (b.take k) < v32 (a.take k) then some (Sum.inl (1, ())) else some (Sum.inr ()) := by
 intro n
 induction n with
 | zero => intro k _ h; omega
 | succ n ih =>
  intro k hk hn
  rw [iter_succ]
  generalize hag : (fun y => iter n y whole_compare_b4) = again
  unfold whole_compare_b4
  simp only
  cases k with
  | zero => simp [v32_nil]
  | succ k =>
   rw [bif_pos (by omega), show ((k + 1 : Nat) : Int) - 1 = (k : Int) by omega, idx_nat, idx_nat]
   have hx : a[k]? = some a[k] := getElem?_of (by omega)
   have hy : b[k]? = some b[k] := getElem?_of (by omega)
   rw [hx, hy]
   simp only [Option.bind_some]
   rw [v32_take_succ hx, v32_take_succ hy]
   have h1 := v32_lt (ha.take k)
   have h2 := v32_lt (hb.take k)
   have h3 := v32_nonneg (ha.take k)
   have h4 := v32_nonneg (hb.take k)
   rw [List.length_take, Nat.min_eq_left (by omega)] at h1 h2
   generalize a[k] = x
   generalize b[k] = y
   by_cases hxy : x = y
   ·subst hxy
    simp only [bne_self_eq_false, cond_false]
    rw [w64_id (by omega) (by omega), ← hag]
    show iter n (a, b, (k : Int) - 1, ()) whole_compare_b4 = _
    rw [ih k (by omega) (by omega)]
    congr 1
    ·simp
    ·congr 1; simp
   ·have hne : (x != y) = true := by simp [hxy]
    rw [hne]
    simp only [cond_true]
    by_cases hlt : x < y
    ·rw [bif_pos hlt, if_pos]
     have : (4294967296 : Int) ^ k * (x + 1) ≤ 4294967296 ^ k * y := Int.mul_le_mul_of_nonneg_left (by omega) (by omega)
     rw [Int.mul_add, Int.mul_one] at this
     omega
    ·rw [bif_neg hlt]
     have : (4294967296 : Int) ^ k * (y + 1) ≤ 4294967296 ^ k * x := Int.mul_le_mul_of_nonneg_left (by omega) (by omega)
     rw [Int.mul_add, Int.mul_one] at this
     rw [if_neg (by omega), if_pos (by omega)]

theorem whole_compare_eq (m n : Nat) (hm : (dg32 m).length < 100000) (hn : (dg32 n).length < 100000) : ∃ c, whole_compare (dg32 m) (dg32 n) = some (c, ()) ∧ (c < 0 ↔ m < n) ∧ (0 < c ↔ n < m) := by
 unfold whole_compare
 by_cases h : (dg32 m).length = (dg32 n).length
 ·have hb : (((dg32 m).length : Int) != ((dg32 n).length : Int)) = false := by simp [h]
  rw [hb]
  simp only [cond_false]
  by_cases h0 : (dg32 m).length = 0
  ·have hm0 : m = 0 := dg32_eq_nil.1 (List.eq_nil_of_length_eq_zero h0)
   have hn0 : n = 0 := dg32_eq_nil.1 (List.eq_nil_of_length_eq_zero (by omega))
   subst hm0; subst hn0
   exact ⟨0, rfl, by simp, by simp⟩
  ·have e1 : w64 (((dg32 m).length : Int) - 1) = (((dg32 m).length : Nat) : Int) - 1 := w64_id (by omega) (by omega)
   rw [e1, whole_compare_core _ _ (dg32_dig m) (dg32_dig n) h hm _ _ (Nat.le_refl _) (by omega), List.take_of_length_le (Nat.le_refl _), List.take_of_length_le (by omega), v32_dg, v32_dg]
   by_cases h1 : m < n
   ·rw [if_pos (by omega), joinB_inl]; exact ⟨-1, rfl, by omega, by omega⟩
   ·by_cases h2 : n < m
    ·rw [if_neg (by omega), if_pos (by omega), joinB_inl]; exact ⟨1, rfl, by omega, by omega⟩
    ·rw [if_neg (by omega), if_neg (by omega), joinB_inr]; exact ⟨0, rfl, by omega, by omega⟩
 ·have hb : (((dg32 m).length : Int) != ((dg32 n).length : Int)) = true := by simp; omega
  rw [hb]
  simp only [cond_true]
  rw [w64_id (by omega) (by omega)]
  refine ⟨_, rfl, ?_, ?_⟩
  ·constructor
   ·intro h1; exact dg32_len_lt (by omega)
   ·intro h1
    rcases Nat.lt_or_gt_of_ne h with h2 | h2
    ·omega
    ·have := dg32_len_lt (m := n) (n := m) h2; omega
  ·constructor
   ·intro h1; exact dg32_len_lt (by omega)
   ·intro h1
    rcases Nat.lt_or_gt_of_ne h with h2 | h2
    ·have := dg32_len_lt (m := m) (n := n) h2; omega
    ·omega

end Go.Md

namespace Go.Md
open Go.Dn

theorem bv_or (w : Nat) {a b : Nat} (ha : a < 2 ^ w) (hb : b < 2 ^ w) : ((BitVec.ofInt w (a : Int) ||| BitVec.ofInt w (b : Int)).toNat : Int) = ((a ||| b : Nat) : Int) := by
 rw [BitVec.ofInt_natCast, BitVec.ofInt_natCast, BitVec.toNat_or, BitVec.toNat_ofNat, BitVec.toNat_ofNat, Nat.mod_eq_of_lt ha, Nat.mod_eq_of_lt hb]
theorem bv_and (w : Nat) {a b : Nat} (ha : a < 2 ^ w) (hb : b < 2 ^ w) : ((BitVec.ofInt w (a : Int) &&& BitVec.ofInt w (b : Int)).toNat : Int) = ((a &&& b : Nat) : Int) := by
 rw [BitVec.ofInt_natCast, BitVec.ofInt_natCast, BitVec.toNat_and, BitVec.toNat_ofNat, BitVec.toNat_ofNat, Nat.mod_eq_of_lt ha, Nat.mod_eq_of_lt hb]
theorem or_add {a k b : Nat} (hb : b < 2 ^ k) : (2 ^ k * a) ||| b = 2 ^ k * a + b := (Nat.two_pow_add_eq_or_of_lt hb a).symm

theorem v32_get {l : List Int} (h : Dg l) {i : Nat} {y : Int} (hi : l[i]? = some y) : y = v32 l / 4294967296 ^ i % 4294967296 := by
 have hlt := (List.getElem?_eq_some_iff.1 hi).1
 have e : l = l.take i ++ (y :: l.drop (i + 1)) := by
  have := List.take_append_drop i l
  rw [List.drop_eq_getElem_cons hlt, (List.getElem?_eq_some_iff.1 hi).2] at this
  exact this.symm
 have hd := h.get hi
 have h1 := v32_lt (h.take i)
 have h2 := v32_nonneg (h.take i)
 rw [List.length_take, Nat.min_eq_left (by omega)] at h1
 have hv : v32 l = v32 (l.take i) + 4294967296 ^ i * (y + 4294967296 * v32 (l.drop (i + 1))) := by
  conv => lhs; rw [e]
  rw [v32_append, List.length_take, Nat.min_eq_left (by omega), v32_cons]
 rw [hv, Int.add_mul_ediv_left _ _ (by omega), Int.ediv_eq_zero_of_lt h2 h1, Int.zero_add, Int.add_mul_emod_self_left, Int.emod_eq_of_lt hd.1 hd.2]
theorem v32_set {l : List Int} {i : Nat} {y z : Int} (hi : l[i]? = some y) : v32 (l.set i z) = v32 l + 4294967296 ^ i * (z - y) := by
 have hlt := (List.getElem?_eq_some_iff.1 hi).1
 have e : l = l.take i ++ (y :: l.drop (i + 1)) := by
  have := List.take_append_drop i l
  rw [List.drop_eq_getElem_cons hlt, (List.getElem?_eq_some_iff.1 hi).2] at this
  exact this.symm
 have e2 : l.set i z = l.take i ++ (z :: l.drop (i + 1)) := by rw [List.set_eq_take_append_cons_drop, if_pos hlt]
 rw [e2]
 conv => rhs; rw [e]
 rw [v32_append, v32_append, v32_cons, v32_cons, List.length_take, Nat.min_eq_left (by omega)]
 have : (4294967296 : Int) ^ i * (z + 4294967296 * v32 (l.drop (i + 1))) = 4294967296 ^ i * (y + 4294967296 * v32 (l.drop (i + 1))) + 4294967296 ^ i * (z - y) := by rw [← Int.mul_add]; congr 1; omega
 omega
theorem Dig.set {B : Int} {l : List Int} (h : Dig B l) {i : Nat} {z : Int} (hz : 0 ≤ z ∧ z < B) : Dig B (l.set i z) := fun x hx => by
 rcases List.mem_or_eq_of_mem_set hx with hx | rfl
 ·exact h x hx
 ·exact hz

theorem bit_nat (y : Nat) (j : Nat) (hy : y < 4294967296) : wu32 (((BitVec.ofInt (IntKind.bits .u32) (Int.fdiv (y : Int) (2 ^ (min j (IntKind.bits .u32)))) &&& BitVec.ofInt (IntKind.bits .u32) 1).toNat : Int)) = ((y / 2 ^ (min j 32) % 2 : Nat) : Int) := by
 have e1 : Int.fdiv (y : Int) (2 ^ (min j (IntKind.bits .u32))) = ((y / 2 ^ (min j 32) : Nat) : Int) := by
  have : ((2 : Int) ^ (min j 32)) = ((2 ^ (min j 32) : Nat) : Int) := by simp
  rw [show IntKind.bits .u32 = 32 from rfl, this, Int.fdiv_eq_ediv_of_nonneg _ (Int.natCast_nonneg _)]
  simp
 rw [e1]
 have hlt : y / 2 ^ (min j 32) < 2 ^ 32 := Nat.lt_of_le_of_lt (Nat.div_le_self _ _) hy
 have := bv_and (IntKind.bits .u32) (a := y / 2 ^ (min j 32)) (b := 1) hlt (by decide)
 rw [show ((1 : Nat) : Int) = 1 from rfl] at this
 rw [this, Nat.and_one_is_mod]
 exact wu32_id (by omega) (by omega)

theorem whole_By_core (a b : Nat) (hb : 0 < b) (na : Bool) (nb : Bool) (ha : (dg32 a).length < 1000) (hlb : (dg32 b).length < 1000) (g1 : Bool) (g2 : List Int) (g3 : Bool) (g4 : List Int) : ∀ (n k : Nat) (q : List Int), k ≤ 32 * (dg32 a).length → k < n → Dg q → q.length = (dg32 a).length → v32 q = ((a / 2 ^ k / b * 2 ^ k : Nat) : Int) →
  ∃ q', iter (X := whole_Int_By_x4) (β := whole_Int_By_r4) n (dg32 (a / 2 ^ k % b), (k : Int) - 1, na, dg32 a, nb, dg32 b, g1, g2, g3, g4, q, ()) whole_Int_By_b4 = some (Sum.inr (dg32 (a % b), g1, g2, g3, g4, q', ())) ∧ Dg q' ∧ q'.length = (dg32 a).length ∧ v32 q' = ((a / b : Nat) : Int) := by
 intro n
 induction n with
 | zero => intro k q _ h; omega
 | succ n ih =>
  intro k q hk hn hq hql hqv
  rw [iter_succ]
  generalize hag : (fun y => iter n y whole_Int_By_b4) = again
  unfold whole_Int_By_b4
  simp only
  cases k with
  | zero =>
   rw [bif_neg (by omega)]
   refine ⟨q, ?_, hq, hql, by simpa using hqv⟩
   simp
  | succ k =>
   rw [bif_pos (by omega), show ((k + 1 : Nat) : Int) - 1 = (k : Int) by omega]
   -- the rest, doubled
   have hR : a / 2 ^ (k + 1) % b < b := Nat.mod_lt _ hb
   have hRl : (dg32 (a / 2 ^ (k + 1) % b)).length ≤ (dg32 b).length := by
    rcases Nat.lt_or_ge (dg32 b).length (dg32 (a / 2 ^ (k + 1) % b)).length with h | h
    ·have := dg32_len_lt h; omega
    ·exact h
   obtain ⟨s, hs1, hs2, hs3, hs4⟩ := whole_sum_eq _ _ (dg32_dig (a / 2 ^ (k + 1) % b)) (dg32_dig (a / 2 ^ (k + 1) % b)) (by omega) (by omega)
   rw [hs1]
   simp only [Option.bind_some]
   have hs0 : s[0]? = some s[0] := getElem?_of (by omega)
   have hs0d := hs2.get hs0
   have hs0v := v32_get hs2 hs0
   rw [v32_dg] at hs3
   generalize s[0]'(by omega) = y3 at hs0 hs0d hs0v
   rw [chk_pos (by simp only [Bool.and_eq_true, decide_eq_true_eq]; omega), hs0]
   simp only [Option.bind_some]
   -- the bit
   have hk32 : k / 32 < (dg32 a).length := by omega
   have e5 : w64 (Int.tdiv (k : Int) 32) = ((k / 32 : Nat) : Int) := by
    rw [Int.tdiv_eq_ediv_of_nonneg (by omega), w64_id (by omega) (by omega)]; omega
   have e6 : Int.tmod (k : Int) 32 = ((k % 32 : Nat) : Int) := by rw [Int.tmod_eq_emod_of_nonneg (by omega)]; omega
   have hy4 : (dg32 a)[k / 32]? = some ((dg32 a)[k / 32]) := getElem?_of hk32
   have hy4d := (dg32_dig a).get hy4
   have hy4v := v32_get (dg32_dig a) hy4
   rw [v32_dg] at hy4v
   generalize (dg32 a)[k / 32] = y4 at hy4 hy4d hy4v
   obtain ⟨m4, rfl⟩ : ∃ m : Nat, y4 = m := ⟨y4.toNat, by omega⟩
   rw [e5, e6, idx_nat, hy4]
   simp only [Option.bind_some]
   rw [chk_pos (by simp only [decide_eq_true_eq]; omega)]
   simp only [Int.toNat_natCast]
   rw [bit_nat m4 (k % 32) (by omega)]
   have hbit : m4 / 2 ^ (min (k % 32) 32) % 2 = a / 2 ^ k % 2 := by
    have h1 : m4 = a / 4294967296 ^ (k / 32) % 4294967296 := by
     have h2 : ((a : Int) / 4294967296 ^ (k / 32) % 4294967296) = ((a / 4294967296 ^ (k / 32) % 4294967296 : Nat) : Int) := by simp
     rw [h2] at hy4v; omega
    have h3 : (4294967296 : Nat) ^ (k / 32) = 2 ^ (32 * (k / 32)) := by rw [Nat.pow_mul]
    rw [h1, Nat.min_eq_left (by omega), h3]
    have h4 : (4294967296 : Nat) = 2 ^ (k % 32) * 2 ^ (32 - k % 32) := by rw [← Nat.pow_add]; rw [show k % 32 + (32 - k % 32) = 32 by omega]
    rw [show a / 2 ^ (32 * (k / 32)) % 4294967296 = a / 2 ^ (32 * (k / 32)) % (2 ^ (k % 32) * 2 ^ (32 - k % 32)) by rw [← h4], Nat.mod_mul_right_div_self, Nat.div_div_eq_div_mul, ← Nat.pow_add, show 32 * (k / 32) + k % 32 = k by omega]
    have h5 : (2 : Nat) ∣ 2 ^ (32 - k % 32) := by
     rw [show 32 - k % 32 = (31 - k % 32) + 1 by omega, Nat.pow_succ]; exact Nat.dvd_mul_left _ _
    exact Nat.mod_mod_of_dvd _ h5
   rw [hbit, chk_pos (by simp only [Bool.and_eq_true, decide_eq_true_eq]; omega)]
   -- the rest with the bit
   obtain ⟨m3, rfl⟩ : ∃ m : Nat, y3 = m := ⟨y3.toNat, by omega⟩
   have hev : m3 % 2 = 0 := by
    have h1 : v32 s / 4294967296 ^ 0 % 4294967296 = v32 s % 4294967296 := by simp
    rw [h1, hs3] at hs0v
    omega
   have hor : wu32 (((BitVec.ofInt (IntKind.bits .u32) (m3 : Int) ||| BitVec.ofInt (IntKind.bits .u32) ((a / 2 ^ k % 2 : Nat) : Int)).toNat : Int)) = ((m3 + a / 2 ^ k % 2 : Nat) : Int) := by
    rw [bv_or (IntKind.bits .u32) (by show m3 < 2 ^ 32; omega) (by show a / 2 ^ k % 2 < 2 ^ 32; omega)]
    have h1 : m3 = 2 ^ 1 * (m3 / 2) := by omega
    have h2 : m3 ||| (a / 2 ^ k % 2) = m3 + a / 2 ^ k % 2 := by
     conv => lhs; rw [h1]
     rw [or_add (by omega)]; omega
    rw [h2]; exact wu32_id (by omega) (by omega)
   rw [hor]
   rw [whole_trimmed_eq _ (by simp only [List.length_set]; omega), trim32 (hs2.set (by omega)), v32_set hs0, hs3]
   simp only [Option.bind_some]
   have hr2 : (((a / 2 ^ (k + 1) % b : Nat) : Int) + ((a / 2 ^ (k + 1) % b : Nat) : Int) + 4294967296 ^ 0 * (((m3 + a / 2 ^ k % 2 : Nat) : Int) - (m3 : Int))).toNat = 2 * (a / 2 ^ (k + 1) % b) + a / 2 ^ k % 2 := by
    rw [Int.pow_zero]; omega
   rw [hr2]
   have htop : a / 2 ^ k = 2 * (a / 2 ^ (k + 1)) + a / 2 ^ k % 2 := by
    rw [Nat.pow_succ, ← Nat.div_div_eq_div_mul]; omega
   generalize hT : a / 2 ^ (k + 1) = T at *
   generalize hbt : a / 2 ^ k % 2 = bt at *
   have hbt2 : bt < 2 := by omega
   have hr3l : (dg32 (2 * (T % b) + bt)).length ≤ (dg32 b).length + 1 := by
    rcases Nat.lt_or_ge ((dg32 b).length + 1) (dg32 (2 * (T % b) + bt)).length with h | h
    ·exfalso
     have h1 : dg32 (4294967296 * b) = 0 :: dg32 b := by
      have := dg_mul_add (B := 4294967296) (by omega) (d := 0) (n := b) (by omega) (by omega)
      simpa [dg32] using this
     have h2 : (dg32 (4294967296 * b)).length < (dg32 (2 * (T % b) + bt)).length := by rw [h1]; simpa using h
     have := dg32_len_lt h2
     omega
    ·exact h
   obtain ⟨c, hc1, hc2, hc3⟩ := whole_compare_eq (2 * (T % b) + bt) b (by omega) (by omega)
   rw [hc1]
   simp only [Option.bind_some]
   have hdm := Nat.div_add_mod T b
   by_cases hge : b ≤ 2 * (T % b) + bt
   ·rw [bif_pos (by omega)]
    have hlen2 : (dg32 b).length ≤ (dg32 (2 * (T % b) + bt)).length := by
     rcases Nat.lt_or_ge (dg32 (2 * (T % b) + bt)).length (dg32 b).length with h | h
     ·have := dg32_len_lt h; omega
     ·exact h
    rw [whole_less_eq _ _ (dg32_dig _) (dg32_dig _) (by omega) hlen2 (by rw [v32_dg, v32_dg]; omega), v32_dg, v32_dg]
    simp only [Option.bind_some]
    rw [chk_pos (by simp only [Bool.and_eq_true, decide_eq_true_eq]; omega)]
    have hy9 : q[k / 32]? = some (q[k / 32]'(by omega)) := getElem?_of (by omega)
    have hy9d := hq.get hy9
    have hy9v := v32_get hq hy9
    rw [hqv] at hy9v
    generalize q[k / 32]'(by omega) = y9 at hy9 hy9d hy9v
    obtain ⟨m9, rfl⟩ : ∃ m : Nat, y9 = m := ⟨y9.toNat, by omega⟩
    rw [hy9]
    simp only [Option.bind_some]
    rw [chk_pos (by simp only [decide_eq_true_eq]; omega), chk_pos (by simp only [Bool.and_eq_true, decide_eq_true_eq]; omega)]
    -- the quotient's bit
    have h9 : m9 = T / b * 2 ^ (k + 1) / 4294967296 ^ (k / 32) % 4294967296 := by
     have h2 : (((T / b * 2 ^ (k + 1) : Nat) : Int) / 4294967296 ^ (k / 32) % 4294967296) = ((T / b * 2 ^ (k + 1) / 4294967296 ^ (k / 32) % 4294967296 : Nat) : Int) := by simp
     rw [h2] at hy9v; omega
    have h3 : (4294967296 : Nat) ^ (k / 32) = 2 ^ (32 * (k / 32)) := by rw [Nat.pow_mul]
    have h9d : 2 ^ (k % 32 + 1) ∣ m9 := by
     rw [h9, h3]
     have e1 : T / b * 2 ^ (k + 1) / 2 ^ (32 * (k / 32)) = T / b * 2 ^ (k % 32 + 1) := by
      rw [show k + 1 = (k % 32 + 1) + 32 * (k / 32) by omega, Nat.pow_add, ← Nat.mul_assoc, Nat.mul_div_cancel _ (Nat.pow_pos (by omega))]
     rw [e1]
     have h4 : (4294967296 : Nat) = 2 ^ (k % 32 + 1) * 2 ^ (31 - k % 32) := by rw [← Nat.pow_add]; rw [show k % 32 + 1 + (31 - k % 32) = 32 by omega]
     exact (Nat.dvd_mod_iff (by rw [h4]; exact Nat.dvd_mul_right _ _)).2 (Nat.dvd_mul_left _ _)
    have hsh : wu32 (1 * 2 ^ (min (k % 32) (IntKind.bits .u32))) = ((2 ^ (k % 32) : Nat) : Int) := by
     rw [show IntKind.bits .u32 = 32 from rfl, Nat.min_eq_left (by omega), Int.one_mul, show ((2 : Int) ^ (k % 32)) = ((2 ^ (k % 32) : Nat) : Int) by simp]
     have : 2 ^ (k % 32) ≤ 2 ^ 31 := Nat.pow_le_pow_right (by omega) (by omega)
     exact wu32_id (by omega) (by omega)
    have hp31 : 2 ^ (k % 32) ≤ 2 ^ 31 := Nat.pow_le_pow_right (by omega) (by omega)
    obtain ⟨e9, he9⟩ := h9d
    have hor2 : wu32 (((BitVec.ofInt (IntKind.bits .u32) (m9 : Int) ||| BitVec.ofInt (IntKind.bits .u32) ((2 ^ (k % 32) : Nat) : Int)).toNat : Int)) = ((m9 + 2 ^ (k % 32) : Nat) : Int) := by
     rw [bv_or (IntKind.bits .u32) (by show m9 < 2 ^ 32; omega) (by show 2 ^ (k % 32) < 2 ^ 32; omega)]
     have h2 : m9 ||| 2 ^ (k % 32) = m9 + 2 ^ (k % 32) := by rw [he9, or_add (Nat.pow_lt_pow_right (by omega) (by omega))]
     rw [h2]
     refine wu32_id (by omega) ?_
     have h5 : 2 ^ (k % 32 + 1) * e9 + 2 ^ (k % 32) ≤ 4294967295 := by
      have h4 : (4294967296 : Nat) = 2 ^ (k % 32 + 1) * 2 ^ (31 - k % 32) := by rw [← Nat.pow_add]; rw [show k % 32 + 1 + (31 - k % 32) = 32 by omega]
      have h6 : e9 < 2 ^ (31 - k % 32) := by
       rcases Nat.lt_or_ge e9 (2 ^ (31 - k % 32)) with h | h
       ·exact h
       ·have := Nat.mul_le_mul_left (2 ^ (k % 32 + 1)) h; omega
      have h7 := Nat.mul_le_mul_left (2 ^ (k % 32 + 1)) (show e9 + 1 ≤ 2 ^ (31 - k % 32) by omega)
      rw [Nat.mul_add, Nat.mul_one, ← h4] at h7
      have h8 : 2 ^ (k % 32 + 1) = 2 * 2 ^ (k % 32) := by rw [Nat.pow_succ, Nat.mul_comm]
      omega
     omega
    have hz9 : m9 + 2 ^ (k % 32) < 4294967296 := by
     have := wu32_mod (((BitVec.ofInt (IntKind.bits .u32) (m9 : Int) ||| BitVec.ofInt (IntKind.bits .u32) ((2 ^ (k % 32) : Nat) : Int)).toNat : Int))
     rw [hor2] at this; omega
    rw [hsh, hor2, w64_id (by omega) (by omega), ← hag]
    have hTk : a / 2 ^ k / b = 2 * (T / b) + 1 ∧ a / 2 ^ k % b = 2 * (T % b) + bt - b := by
     have h1 : a / 2 ^ k = b * (2 * (T / b) + 1) + (2 * (T % b) + bt - b) := by
      rw [htop, Nat.mul_add, Nat.mul_one, show b * (2 * (T / b)) = 2 * (b * (T / b)) by rw [Nat.mul_left_comm]]; omega
     have h2 : 2 * (T % b) + bt - b < b := by have := Nat.mod_lt T hb; omega
     rw [h1]
     exact ⟨by rw [Nat.mul_add_div hb, Nat.div_eq_of_lt h2, Nat.add_zero], by rw [Nat.mul_add_mod, Nat.mod_eq_of_lt h2]⟩
    have hih := ih k (q.set (k / 32) ((m9 + 2 ^ (k % 32) : Nat) : Int)) (by omega) (by omega) (hq.set ⟨Int.natCast_nonneg _, Int.ofNat_lt.2 hz9⟩) (by rw [List.length_set]; exact hql) (by
     rw [v32_set hy9, hqv, hTk.1]
     have e1 : (((m9 + 2 ^ (k % 32) : Nat) : Int) - (m9 : Int)) = ((2 ^ (k % 32) : Nat) : Int) := by omega
     have e2 : ((4294967296 : Int) ^ (k / 32)) = ((2 ^ (32 * (k / 32)) : Nat) : Int) := by rw [← h3]; simp
     rw [e1, e2, ← Int.natCast_mul, ← Nat.pow_add, show 32 * (k / 32) + k % 32 = k by omega, ← Int.natCast_add]
     congr 1
     rw [Nat.pow_succ, Nat.add_mul, Nat.one_mul, Nat.mul_comm (2 ^ k) 2, ← Nat.mul_assoc, Nat.mul_comm (T / b) 2])
    rw [hTk.2] at hih
    have e7 : (((2 * (T % b) + bt : Nat) : Int) - (b : Int)).toNat = 2 * (T % b) + bt - b := by omega
    rw [e7]
    exact hih
   ·rw [bif_neg (by omega), w64_id (by omega) (by omega), ← hag]
    have hTk : a / 2 ^ k / b = 2 * (T / b) ∧ a / 2 ^ k % b = 2 * (T % b) + bt := by
     have h1 : a / 2 ^ k = b * (2 * (T / b)) + (2 * (T % b) + bt) := by
      rw [htop, show b * (2 * (T / b)) = 2 * (b * (T / b)) by rw [Nat.mul_left_comm]]; omega
     have h2 : 2 * (T % b) + bt < b := by omega
     rw [h1]
     exact ⟨by rw [Nat.mul_add_div hb, Nat.div_eq_of_lt h2, Nat.add_zero], by rw [Nat.mul_add_mod, Nat.mod_eq_of_lt h2]⟩
    have hih := ih k q (by omega) (by omega) hq hql (by
     rw [hqv, hTk.1]
     congr 1
     rw [Nat.pow_succ, Nat.mul_comm (2 ^ k) 2, ← Nat.mul_assoc, Nat.mul_comm (T / b) 2])
    rw [hTk.2] at hih
    exact hih

theorem v32_replicate (n : Nat) : v32 (List.replicate n 0) = 0 := by
 induction n with
 | zero => rfl
 | succ n ih => rw [List.replicate_succ, v32_cons, ih]; rfl
theorem pow32 (k : Nat) : (4294967296 : Nat) ^ k = 2 ^ (32 * k) := by rw [Nat.pow_mul]

theorem whole_Int_By_eq (x y : Int) (hx : x.natAbs < 4294967296 ^ 99) (hy : y.natAbs < 4294967296 ^ 99) (h0 : y ≠ 0) : whole_Int_By (W x) (W y) = some (W ((x.natAbs / y.natAbs : Nat) : Int), W ((x.natAbs % y.natAbs : Nat) : Int), ()) := by
 have hlx := dg32_len hx
 have hly := dg32_len hy
 unfold whole_Int_By W
 dsimp only
 rw [chk_pos (by simp only [Bool.and_eq_true, decide_eq_true_eq]; omega)]
 have e1 : w64 (w64 (((dg32 x.natAbs).length : Int) * 32) - 1) = ((32 * (dg32 x.natAbs).length : Nat) : Int) - 1 := by
  rw [w64_id (n := ((dg32 x.natAbs).length : Int) * 32) (by omega) (by omega), w64_id (by omega) (by omega)]; omega
 rw [e1]
 have hlt : x.natAbs < 2 ^ (32 * (dg32 x.natAbs).length) := by
  have := v32_lt (dg32_dig x.natAbs)
  rw [v32_dg] at this
  have h2 : ((4294967296 : Int) ^ (dg32 x.natAbs).length) = ((4294967296 ^ (dg32 x.natAbs).length : Nat) : Int) := by simp
  rw [h2, pow32] at this
  omega
 have hz : x.natAbs / 2 ^ (32 * (dg32 x.natAbs).length) = 0 := Nat.div_eq_of_lt hlt
 obtain ⟨q, h1, h2, h3, h4⟩ := whole_By_core x.natAbs y.natAbs (by omega) (decide (x < 0)) (decide (y < 0)) (by omega) (by omega) false [] false [] (List.length ([] : List Int) + (Int.natAbs (((32 * (dg32 x.natAbs).length : Nat) : Int) - 1) + (List.length (dg32 x.natAbs) + (List.length (dg32 y.natAbs) + (List.length ([] : List Int) + (List.length ([] : List Int) + (List.length ((List.replicate (Int.toNat ((List.length (dg32 x.natAbs) : Int))) 0) : List Int) + 2)))))))
  (32 * (dg32 x.natAbs).length) (List.replicate (Int.toNat ((List.length (dg32 x.natAbs) : Int))) 0) (Nat.le_refl _) (by omega) (fun d hd => by rw [List.mem_replicate] at hd; omega) (by simp) (by rw [v32_replicate, hz]; simp)
 rw [hz, Nat.zero_mod, dg32_zero] at h1
 rw [h1, joinB_inr]
 simp only
 rw [whole_made_eq _ _ h2 (by omega), whole_made_eq _ _ (dg32_dig _) (by
  have := dg32_len (k := 99) (n := x.natAbs % y.natAbs) (Nat.lt_of_le_of_lt (Nat.mod_le _ _) hx); omega), h4, v32_dg]
 rfl

theorem whole_Int_Int_eq (z : Int) (most : Int) (h0 : 0 ≤ most) (h1 : most ≤ 9223372036854775807) : whole_Int_Int (W z) most = some (if z.natAbs ≤ most then (z, true, ()) else (0, false, ())) := by
 unfold whole_Int_Int W
 dsimp only
 by_cases hl : (dg32 z.natAbs).length > 2
 ·rw [bif_pos (by omega)]
  have : ¬ (z.natAbs : Int) ≤ most := by
   intro h
   have := dg32_len (k := 2) (n := z.natAbs) (by omega)
   omega
  rw [if_neg this]
 ·rw [bif_neg (by omega)]
  have hdig := dg32_dig z.natAbs
  have hval := v32_dg z.natAbs
  have hlen : (dg32 z.natAbs).length ≤ 2 := by omega
  generalize hd : dg32 z.natAbs = d at *
  have loop : ∃ n0, iter (X := whole_Int_Int_x5) (β := whole_Int_Int_r5) (Int.natAbs most + (Int.natAbs (0 : Int) + (List.length d + (Int.natAbs ((List.length d : Int)) + (Int.natAbs (0 : Int) + (List.length d + 2)))))) (most, 0, d, (List.length d : Int), 0, decide (z < 0), d, ()) whole_Int_Int_b5 = some (Sum.inr (most, n0, decide (z < 0), d, ())) ∧ n0 = (z.natAbs : Int) := by
   refine iter_post (Inv := fun i x => ∃ u : Int, x = (most, u, d, (d.length : Int), (i : Int), decide (z < 0), d, ()) ∧ u = v32 (d.take i)) d.length (fun r => ∃ n0, r = some (Sum.inr (most, n0, decide (z < 0), d, ())) ∧ n0 = (z.natAbs : Int)) ?_ ?_ _ 0 _ ⟨0, rfl, by simp [v32_nil]⟩ (by omega) (by omega)
   ·rintro i _ again hi ⟨u, rfl, hu⟩ ih
    unfold whole_Int_Int_b5
    simp only
    have hy : d[i]? = some d[i] := getElem?_of hi
    have hyd := hdig.get hy
    have hts := v32_take_succ hy
    have hlt := v32_lt (hdig.take i)
    have hnn := v32_nonneg (hdig.take i)
    rw [List.length_take, Nat.min_eq_left (by omega)] at hlt
    generalize d[i] = y at hy hyd hts
    rw [bif_pos (by omega), idx_nat, hy, Option.bind_some, w64_id (n := 32 * (i : Int)) (by omega) (by omega), chk_pos (by simp only [decide_eq_true_eq]; omega), w64_id (n := (i : Int) + 1) (by omega) (by omega)]
    refine ih _ ⟨_, rfl, ?_⟩
    rw [hts]
    obtain ⟨m, rfl⟩ : ∃ m : Nat, y = m := ⟨y.toNat, by omega⟩
    obtain ⟨k, hk⟩ : ∃ k : Nat, v32 (d.take i) = k := ⟨(v32 (d.take i)).toNat, by omega⟩
    rw [hk] at hlt hu ⊢
    subst hu
    have hi2 : i = 0 ∨ i = 1 := by omega
    rcases hi2 with rfl | rfl
    ·simp only [Int.pow_zero] at hlt ⊢
     have : k = 0 := by omega
     subst this
     have e : wu64 (wu64 (m : Int) * 2 ^ (min (Int.toNat (32 * ((0 : Nat) : Int))) (IntKind.bits .u64))) = (m : Int) := by
      rw [wu64_id (n := (m : Int)) (by omega) (by omega)]
      simp
      exact wu64_id (by omega) (by omega)
     rw [e, bv_or (IntKind.bits .u64) (by decide) (by show m < 2 ^ 64; omega), Nat.zero_or, wu64_id (by omega) (by omega)]
     omega
    ·simp only [Int.pow_one] at hlt ⊢
     have e : wu64 (wu64 (m : Int) * 2 ^ (min (Int.toNat (32 * ((1 : Nat) : Int))) (IntKind.bits .u64))) = ((2 ^ 32 * m : Nat) : Int) := by
      rw [wu64_id (n := (m : Int)) (by omega) (by omega), show min (Int.toNat (32 * ((1 : Nat) : Int))) (IntKind.bits .u64) = 32 from rfl]
      rw [wu64_id (by omega) (by omega)]
      omega
     rw [e, bv_or (IntKind.bits .u64) (by show k < 2 ^ 64; omega) (by show 2 ^ 32 * m < 2 ^ 64; omega), Nat.or_comm, or_add (by omega), wu64_id (by omega) (by omega)]
     omega
   ·rintro _ again ⟨u, rfl, hu⟩
    unfold whole_Int_Int_b5
    simp only
    rw [bif_neg (by omega)]
    rw [List.take_of_length_le (Nat.le_refl _), hval] at hu
    exact ⟨u, rfl, hu⟩
  obtain ⟨n0, h2, h3⟩ := loop
  rw [h2, joinB_inr]
  subst h3
  simp only
  rw [wu64_id (n := most) (by omega) (by omega)]
  by_cases hm : (z.natAbs : Int) ≤ most
  ·rw [bif_neg (by omega), if_pos hm]
   by_cases hneg : z < 0
   ·rw [decide_eq_true hneg]
    simp only [cond_true]
    rw [w64_id (n := (z.natAbs : Int)) (by omega) (by omega), w64_id (by omega) (by omega)]
    congr 2; omega
   ·rw [decide_eq_false hneg]
    simp only [cond_false]
    rw [w64_id (by omega) (by omega)]
    congr 2; omega
  ·rw [bif_pos (by omega), if_neg hm]

end Go.Md

namespace Go.Md
open Go.Dn

def v6 (l : List Int) : Int := val 1000000 l
def dg6 (n : Nat) : List Int := dg 1000000 n
theorem dg6_len {k n : Nat} (h : n < 1000000 ^ k) : (dg6 n).length ≤ k := dg_len (B := 1000000) (by omega) k n h

def N (z : Int) : D_interchangeref1_Num := (decide (z < 0), dg6 z.natAbs)

end Go.Md

namespace Go.Md
open Go.Dn

def Big (D : Int) (l : List Int) : Prop := ∀ d, d ∈ l → 0 ≤ d ∧ d ≤ D
theorem Big.get {D d : Int} {l : List Int} {i : Nat} (h : Big D l) (hi : l[i]? = some d) : 0 ≤ d ∧ d ≤ D := h d (List.mem_of_getElem? hi)
theorem Big.set {D E : Int} {l : List Int} (h : Big D l) (hDE : D ≤ E) {i : Nat} {z : Int} (hz : 0 ≤ z ∧ z ≤ E) : Big E (l.set i z) := fun x hx => by
 rcases List.mem_or_eq_of_mem_set hx with hx | rfl
 ·have := h x hx; omega
 ·exact hz
theorem Big.mono {D E : Int} {l : List Int} (h : Big D l) (hDE : D ≤ E) : Big E l := fun x hx => by have := h x hx; omega
end Go.Md
