/-
  Plain facts: the order of strings; decimals. No condition.
-/
import Derived.Test.YtglaikpklmafkaaGreatDoorYr
set_option linter.all false
namespace Go.Md
open Go.Dn

/-- Names in order. -/
def Asc {α : Type} (key : α → List UInt8) (l : List α) : Prop := ∀ (i j : Nat) (x y : α), i < j → l[i]? = some x → l[j]? = some y → Op.bytesLess (key x) (key y) = true

/-- Where a name stands. -/
def ixOf {α : Type} (key : α → List UInt8) (t : List UInt8) (l : List α) : Option Nat := l.findIdx? (fun r => key r == t)
end Go.Md

namespace Go.Md
open Go.Dn

instance (d : D_api_Decimal) : Decidable (DecOk d) := by unfold DecOk; exact inferInstance
/-- A decimal from lo to hi with at most so many places. -/
def inR (d : D_api_Decimal) (lo hi pl : Int) : Bool := decide (DecOk d ∧ d.2 ≤ pl ∧ lo * 10 ^ d.2.toNat ≤ d.1 ∧ d.1 ≤ hi * 10 ^ d.2.toNat)
theorem amount_CheckDecimal_eq' (d : D_api_Decimal) : amount_CheckDecimal d = some (if DecOk d then 0 else 1, ()) := by
  rw [amount_CheckDecimal_eq]
  congr 2
  by_cases h : DecOk d
  · rw [if_pos h, if_pos (by unfold DecOk at h; omega)]
  · rw [if_neg h, if_neg (by unfold DecOk at h; omega)]
/-- What is wrong with an extra. -/
def extF (pl : Int) (rates : List D_api_Rate) (line : Bool) (x : D_api_Extra) : Int :=
  if DecOk x.2.1 then
    (if x.2.1.1 = 0 then 13
    else if (if x.1 = true then inR x.2.1 (-100) 100 9 else inR x.2.1 (-1000000000) 1000000000 pl) = true then
      (if x.2.2 = [] then 0 else if line = true then 3 else if (ixOf (·.1) x.2.2 rates).isSome = true then 0 else 5)
    else 1)
  else 1
def extsF (pl : Int) (rates : List D_api_Rate) (line : Bool) (l : List D_api_Extra) : Int := if 20 < l.length then 2 else scanF (fun _ x => extF pl rates line x) 0 l

theorem scanJ {γ : Type} (s : Int) (u : γ) : joinB (β := Int × Unit) (γ := γ) (if s = 0 then some (Sum.inr u) else some (Sum.inl (s, ()))) (fun _ => some (0, ())) = some (s, ()) := by
  by_cases h : s = 0
  · rw [if_pos h, joinB_inr, h]
  · rw [if_neg h, joinB_inl]

theorem iter_scan0 {X α : Type} {γ : Type} {f : X → (X → Option ((Int × Unit) ⊕ γ)) → Option ((Int × Unit) ⊕ γ)} {x0 : X} (mk : Nat → X) (l : List α) (g : Nat → α → Int) (u : γ) (h0 : x0 = mk 0)
    (hstep : ∀ i y again, l[i]? = some y → f (mk i) again = if g i y = 0 then again (mk (i + 1)) else some (Sum.inl (g i y, ()))) (hend : ∀ again, f (mk l.length) again = some (Sum.inr u)) (n : Nat) (hn : l.length < n) :
    iter n x0 f = if scanF g 0 l = 0 then some (Sum.inr u) else some (Sum.inl (scanF g 0 l, ())) := by
  rw [h0]; exact iter_scan mk l g u hstep hend l 0 n rfl (Nat.zero_le _) hn

end Go.Md

namespace Go.Md
open Go.Dn

end Go.Md

namespace Go.Md
open Go.Dn

end Go.Md

namespace Go.Md
open Go.Dn

/-- A right extra. -/
structure ExtOk (pl : Int) (x : D_api_Extra) : Prop where
  dec : DecOk x.2.1
  place : x.1 = false → x.2.1.2 ≤ pl
  nz : x.2.1.1 ≠ 0
structure LineOk (pl : Int) (rates : List D_api_Rate) (x : D_api_BillLine) : Prop where
  q : DecOk x.2.2.2.1
  qp : x.2.2.2.1.2 ≤ 3
  qn : x.2.2.2.1.1 ≠ 0
  p : DecOk x.2.2.2.2.2.1
  pp : x.2.2.2.2.2.1.2 ≤ 4
  p0 : 0 ≤ x.2.2.2.2.2.1.1
  per : 1 ≤ x.2.2.2.2.2.2.1 ∧ x.2.2.2.2.2.2.1 ≤ 100000
  ext : extsF pl rates true x.2.2.2.2.2.2.2.1 = 0
  rate : (ixOf (·.1) x.2.2.2.2.2.2.2.2 rates).isSome = true
structure InvOk (v : D_api_Invoice) : Prop where
  pl : 0 ≤ v.2.2.2.1 ∧ v.2.2.2.1 ≤ 4
  way : 1 ≤ v.2.2.2.2.1 ∧ v.2.2.2.2.1 ≤ 6
  rn : 0 < v.2.2.2.2.2.2.1.length ∧ v.2.2.2.2.2.2.1.length ≤ 20
  asc : Asc (·.1) v.2.2.2.2.2.2.1
  rates : ∀ r ∈ v.2.2.2.2.2.2.1, inR r.2 0 100 9 = true
  ln : 0 < v.2.2.2.2.2.2.2.1.length ∧ v.2.2.2.2.2.2.2.1.length ≤ 500
  lines : ∀ x ∈ v.2.2.2.2.2.2.2.1, LineOk v.2.2.2.1 v.2.2.2.2.2.2.1 x
  ext : extsF v.2.2.2.1 v.2.2.2.2.2.2.1 false v.2.2.2.2.2.2.2.2 = 0
end Go.Md

namespace Go.Md
open Go.Dn

theorem Le.dec {d : D_api_Decimal} (h : DecOk d) : Le 15 d.1 := by
  have := h.1
  unfold Le; omega
theorem Le.i1 {n : Int} (h1 : -9223372036854775808 ≤ n) (h2 : n ≤ 9223372036854775807) : n.natAbs < 4294967296 ^ 99 := (Le.int h1 h2).w (by omega)
theorem r1_Power_eq' {n : Int} (h0 : 0 ≤ n) (h1 : n ≤ 40) : r1_Power n = some (N (10 ^ n.toNat), ()) := by
  obtain ⟨m, rfl⟩ : ∃ m : Nat, n = m := ⟨n.toNat, by omega⟩
  exact r1_Power_eq m (by omega)
theorem r1_At_eq' (d : D_api_Decimal) (p : Int) (hd : DecOk d) (hp : d.2 ≤ p) (hp2 : p ≤ 9) : r1_At d p = some (N (d.1 * 10 ^ (p - d.2).toNat), ()) := by
  have h1 := hd.1; have h2 := hd.2
  have l2 := (Le.dec hd).n (by omega); have l3 := (Le.pow (p - d.2).toNat).n (by omega)
  unfold r1_At
  rw [r1_Of_eq _ (by omega) (by omega), Option.bind_some, w64_id (by omega) (by omega), r1_Power_eq' (by omega) (by omega), Option.bind_some]
  dsimp only
  rw [r1_TimesOf_eq _ _ (by omega) (by omega), Option.bind_some]
end Go.Md
