/-
  Plain facts: gross and net; the plain law BillLinesMatchSpec is true of all data. No condition.
-/
import Derived.Test.YtgdedidiakojoaaGreatDoorPg
set_option linter.all false
namespace Go.Md
open Go.Dn

abbrev MU : Int := 1000000000000000
/-- The gross of a line. -/
def grossZ (v : D_api_Invoice) (x : D_api_BillLine) : Int :=
  rnd v.2.2.2.2.1 (x.2.2.2.1.1 * x.2.2.2.2.2.1.1 * 10 ^ v.2.2.2.1.toNat) (10 ^ (x.2.2.2.1.2 + x.2.2.2.2.2.1.2).toNat * x.2.2.2.2.2.2.1.toNat)
theorem Le.dec {d : D_api_Decimal} (h : DecOk d) : Le 15 d.1 := by
  have := h.1
  unfold Le; omega
theorem Le.i1 {n : Int} (h1 : -9223372036854775808 ≤ n) (h2 : n ≤ 9223372036854775807) : n.natAbs < 4294967296 ^ 99 := (Le.int h1 h2).w (by omega)
theorem natpow (k : Nat) : ((10 ^ k : Nat) : Int) = 10 ^ k := by simp

theorem gross_Le {v : D_api_Invoice} {x : D_api_BillLine} (hv : InvOk v) (hx : LineOk v.2.2.2.1 v.2.2.2.2.2.2.1 x) : Le 34 (x.2.2.2.1.1 * x.2.2.2.2.2.1.1 * 10 ^ v.2.2.2.1.toNat) :=
  ((Le.dec hx.q).mul (Le.dec hx.p)).mul ((Le.pow v.2.2.2.1.toNat).mono (by have := hv.pl; omega : _ ≤ 4))
theorem gross_den {v : D_api_Invoice} {x : D_api_BillLine} (hx : LineOk v.2.2.2.1 v.2.2.2.2.2.2.1 x) : 0 < 10 ^ (x.2.2.2.1.2 + x.2.2.2.2.2.1.2).toNat * x.2.2.2.2.2.2.1.toNat ∧ Le 12 ((10 ^ (x.2.2.2.1.2 + x.2.2.2.2.2.1.2).toNat * x.2.2.2.2.2.2.1.toNat : Nat) : Int) := by
  have h1 := hx.qp; have h2 := hx.pp; have h3 := hx.per
  refine ⟨Nat.mul_pos (Nat.pow_pos (by omega)) (by omega), ?_⟩
  have : Le (7 + 5) (((10 ^ (x.2.2.2.1.2 + x.2.2.2.2.2.1.2).toNat : Nat) : Int) * ((x.2.2.2.2.2.2.1.toNat : Nat) : Int)) := Le.mul (by rw [natpow]; exact (Le.pow _).mono (by omega)) (Le.nat (by omega))
  rw [← Int.natCast_mul] at this
  exact this

theorem whole_Power_eq' {n : Int} (h0 : 0 ≤ n) (h1 : n ≤ 60) : whole_Power n = some (W (10 ^ n.toNat), ()) := by
  obtain ⟨m, rfl⟩ : ∃ m : Nat, n = m := ⟨n.toNat, by omega⟩
  exact whole_Power_eq m (by omega)
theorem r1_Power_eq' {n : Int} (h0 : 0 ≤ n) (h1 : n ≤ 40) : r1_Power n = some (N (10 ^ n.toNat), ()) := by
  obtain ⟨m, rfl⟩ : ∃ m : Nat, n = m := ⟨n.toNat, by omega⟩
  exact r1_Power_eq m (by omega)
theorem bill_fits_eq (z : Int) : bill_fits (W z) = some (decide (z.natAbs ≤ MU), ()) := by
  unfold bill_fits
  rw [whole_Int_Int_eq z _ (by omega) (by omega), Option.bind_some]
  by_cases h : (z.natAbs : Int) ≤ 1000000000000000
  · rw [if_pos h, decide_eq_true h]
  · rw [if_neg h, decide_eq_false h]

theorem bill_gross_eq {v : D_api_Invoice} {x : D_api_BillLine} (hv : InvOk v) (hx : LineOk v.2.2.2.1 v.2.2.2.2.2.2.1 x) : bill_gross v x = some (W (grossZ v x), decide ((grossZ v x).natAbs ≤ MU), ()) := by
  have hq := hx.q.1; have hp := hx.p.1; have hper := hx.per; have hpl := hv.pl; have h1 := hx.qp; have h2 := hx.pp; have h3 := hx.q.2.1; have h4 := hx.p.2.1
  have hL := gross_Le hv hx
  have hD := gross_den hx
  unfold bill_gross
  rw [whole_Of_eq _ (by omega) (by omega), Option.bind_some, whole_Of_eq _ (by omega) (by omega), Option.bind_some]
  dsimp only
  rw [whole_Int_Times_eq _ _ ((Le.dec hx.q).w (by omega)) ((Le.dec hx.p).w (by omega)), Option.bind_some, whole_Power_eq' (by omega) (by omega), Option.bind_some]
  dsimp only
  rw [whole_Int_Times_eq _ _ (((Le.dec hx.q).mul (Le.dec hx.p)).w (by omega)) ((Le.pow _).w (by omega)), Option.bind_some, w64_id (by omega) (by omega), whole_Power_eq' (by omega) (by omega), Option.bind_some, whole_Of_eq _ (by omega) (by omega), Option.bind_some]
  dsimp only
  rw [whole_Int_Times_eq _ _ ((Le.pow _).w (by omega)) (Le.i1 (by omega) (by omega)), Option.bind_some]
  have e : (10 : Int) ^ (x.2.2.2.1.2 + x.2.2.2.2.2.1.2).toNat * x.2.2.2.2.2.2.1 = ((10 ^ (x.2.2.2.1.2 + x.2.2.2.2.2.1.2).toNat * x.2.2.2.2.2.2.1.toNat : Nat) : Int) := by
    rw [Int.natCast_mul, natpow, Int.toNat_of_nonneg (by omega)]
  dsimp only
  rw [e, amount_Divided_eq _ _ _ hD.1 (hL.mono (by omega)) (hD.2.mono (by omega)), Option.bind_some]
  dsimp only
  rw [bill_fits_eq, Option.bind_some]
  rfl

theorem r11_rounded_eq (v : D_api_Invoice) (a : Int) (b : Nat) (hb : 0 < b) (ha : Le 300 a) (hb2 : Le 300 (b : Int)) : r11_rounded v (N a) (N (b : Int)) = some (if (rnd v.2.2.2.2.1 a b).natAbs ≤ MU then (rnd v.2.2.2.2.1 a b, true, ()) else (0, false, ())) := by
  unfold r11_rounded
  rw [r1_Round_eq a b _ hb (ha.mono (by omega)) (hb2.mono (by omega)), Option.bind_some]
  dsimp only
  rw [r1_Small_eq _ _ (by omega) (by omega) ((rnd_Le ha).mono (by omega)), Option.bind_some]
theorem r11_gross_eq {v : D_api_Invoice} {x : D_api_BillLine} (hv : InvOk v) (hx : LineOk v.2.2.2.1 v.2.2.2.2.2.2.1 x) : r11_gross v x = some (if (grossZ v x).natAbs ≤ MU then (grossZ v x, true, ()) else (0, false, ())) := by
  have hq := hx.q.1; have hp := hx.p.1; have hper := hx.per; have hpl := hv.pl; have h1 := hx.qp; have h2 := hx.pp; have h3 := hx.q.2.1; have h4 := hx.p.2.1
  have hL := gross_Le hv hx
  have hD := gross_den hx
  have l1 := (Le.dec hx.q).n (by omega); have l2 := (Le.dec hx.p).n (by omega); have l3 := ((Le.dec hx.q).mul (Le.dec hx.p)).n (by omega)
  have l4 := (Le.pow v.2.2.2.1.toNat).n (by omega)
  have l5 := (Le.pow (x.2.2.2.1.2 + x.2.2.2.2.2.1.2).toNat).n (by omega)
  have l6 := (Le.int (n := x.2.2.2.2.2.2.1) (by omega) (by omega)).n (by omega)
  unfold r11_gross
  rw [r1_Of_eq _ (by omega) (by omega), Option.bind_some, r1_Of_eq _ (by omega) (by omega), Option.bind_some]
  dsimp only
  rw [r1_TimesOf_eq _ _ (by omega) (by omega), Option.bind_some, r1_Power_eq' (by omega) (by omega), Option.bind_some]
  dsimp only
  rw [r1_TimesOf_eq _ _ (by omega) (by omega), Option.bind_some, w64_id (by omega) (by omega), r1_Power_eq' (by omega) (by omega), Option.bind_some, r1_Of_eq _ (by omega) (by omega), Option.bind_some]
  dsimp only
  rw [r1_TimesOf_eq _ _ (by omega) (by omega), Option.bind_some]
  have e : (10 : Int) ^ (x.2.2.2.1.2 + x.2.2.2.2.2.1.2).toNat * x.2.2.2.2.2.2.1 = ((10 ^ (x.2.2.2.1.2 + x.2.2.2.2.2.1.2).toNat * x.2.2.2.2.2.2.1.toNat : Nat) : Int) := by
    rw [Int.natCast_mul, natpow, Int.toNat_of_nonneg (by omega)]
  dsimp only
  rw [e, r11_rounded_eq v _ _ hD.1 (hL.mono (by omega)) (hD.2.mono (by omega)), Option.bind_some]
  rfl

/-- So many hundredths. -/
def partZ (way n : Int) (d : D_api_Decimal) : Int := rnd way (n * d.1) (100 * 10 ^ d.2.toNat)
theorem part_den (d : D_api_Decimal) (h : DecOk d) : 0 < 100 * 10 ^ d.2.toNat ∧ Le 11 ((100 * 10 ^ d.2.toNat : Nat) : Int) := by
  refine ⟨Nat.mul_pos (by omega) (Nat.pow_pos (by omega)), ?_⟩
  have := h.2.2
  have h2 : Le (2 + 9) ((100 : Int) * ((10 ^ d.2.toNat : Nat) : Int)) := Le.mul (by unfold Le; decide) (by rw [natpow]; exact (Le.pow _).mono (by omega))
  rw [show (100 : Int) = ((100 : Nat) : Int) from rfl, ← Int.natCast_mul] at h2
  exact h2
theorem part_Le {way n : Int} {d : D_api_Decimal} {k : Nat} (hn : Le k n) (hd : DecOk d) : Le (k + 16) (partZ way n d) := rnd_Le (k := k + 15) (hn.mul (Le.dec hd))
theorem bill_part_eq (v : D_api_Invoice) (n : Int) (d : D_api_Decimal) (hd : DecOk d) (hn : Le 300 n) : bill_part v (W n) d = some (W (partZ v.2.2.2.2.1 n d), ()) := by
  have h1 := hd.1; have h2 := hd.2
  have hD := part_den d hd
  unfold bill_part
  rw [whole_Of_eq _ (by omega) (by omega), Option.bind_some]
  dsimp only
  rw [whole_Int_Times_eq _ _ (hn.w (by omega)) ((Le.dec hd).w (by omega)), Option.bind_some, whole_Of_eq 100 (by omega) (by omega), Option.bind_some, whole_Power_eq' (by omega) (by omega), Option.bind_some]
  dsimp only
  rw [whole_Int_Times_eq _ _ (Le.i1 (by omega) (by omega)) ((Le.pow _).w (by omega)), Option.bind_some]
  dsimp only
  have e : (100 : Int) * 10 ^ d.2.toNat = ((100 * 10 ^ d.2.toNat : Nat) : Int) := by rw [Int.natCast_mul, natpow]; rfl
  rw [e, amount_Divided_eq _ _ _ hD.1 ((hn.mul (Le.dec hd)).mono (by omega)) (hD.2.mono (by omega)), Option.bind_some]
  rfl
theorem r11_percent_eq (v : D_api_Invoice) (n : Int) (d : D_api_Decimal) (hd : DecOk d) (hn : n.natAbs ≤ 9000000000000000000) : r11_percent v n d = some (if (partZ v.2.2.2.2.1 n d).natAbs ≤ MU then (partZ v.2.2.2.2.1 n d, true, ()) else (0, false, ())) := by
  have h1 := hd.1; have h2 := hd.2
  have hD := part_den d hd
  have hn' : Le 19 n := Le.int (by omega) (by omega)
  have l1 := hn'.n (by omega); have l2 := (Le.dec hd).n (by omega); have l3 := (Le.pow d.2.toNat).n (by omega)
  have l4 : (dg6 (Int.natAbs 100)).length < 90 := (Le.int (n := 100) (by omega) (by omega)).n (by omega)
  unfold r11_percent
  rw [r1_Of_eq _ (by omega) (by omega), Option.bind_some, r1_Of_eq _ (by omega) (by omega), Option.bind_some]
  dsimp only
  rw [r1_TimesOf_eq _ _ (by omega) (by omega), Option.bind_some, r1_Power_eq' (by omega) (by omega), Option.bind_some, r1_Of_eq 100 (by omega) (by omega), Option.bind_some]
  dsimp only
  rw [r1_TimesOf_eq _ _ (by omega) (by omega), Option.bind_some]
  dsimp only
  have e : (10 : Int) ^ d.2.toNat * 100 = ((100 * 10 ^ d.2.toNat : Nat) : Int) := by rw [Int.natCast_mul, natpow, Int.mul_comm]; rfl
  rw [e, r11_rounded_eq v _ _ hD.1 ((hn'.mul (Le.dec hd)).mono (by omega)) (hD.2.mono (by omega)), Option.bind_some]
  rfl

/-- What an extra is of an amount. -/
def amtZ (way pl g : Int) (x : D_api_Extra) : Int := if x.1 = true then partZ way g x.2.1 else x.2.1.1 * 10 ^ (pl - x.2.1.2).toNat

theorem r1_At_eq' (d : D_api_Decimal) (p : Int) (hd : DecOk d) (hp : d.2 ≤ p) (hp2 : p ≤ 9) : r1_At d p = some (N (d.1 * 10 ^ (p - d.2).toNat), ()) := by
  have h1 := hd.1; have h2 := hd.2
  have l2 := (Le.dec hd).n (by omega); have l3 := (Le.pow (p - d.2).toNat).n (by omega)
  unfold r1_At
  rw [r1_Of_eq _ (by omega) (by omega), Option.bind_some, w64_id (by omega) (by omega), r1_Power_eq' (by omega) (by omega), Option.bind_some]
  dsimp only
  rw [r1_TimesOf_eq _ _ (by omega) (by omega), Option.bind_some]
theorem r11_amount_eq (v : D_api_Invoice) (x : D_api_Extra) (n : Int) (hpl : 0 ≤ v.2.2.2.1 ∧ v.2.2.2.1 ≤ 4) (hx : ExtOk v.2.2.2.1 x) (hn : n.natAbs ≤ 9000000000000000000) : r11_amount v x n = some (if (amtZ v.2.2.2.2.1 v.2.2.2.1 n x).natAbs ≤ MU then (amtZ v.2.2.2.2.1 v.2.2.2.1 n x, true, ()) else (0, false, ())) := by
  unfold r11_amount amtZ
  cases hp : x.1 with
  | true =>
    rw [cond_true, r11_percent_eq v n _ hx.dec hn, Option.bind_some]
    simp only [if_true]
  | false =>
    have h1 := hx.place hp; have h2 := hx.dec.2
    rw [cond_false, r1_At_eq' _ _ hx.dec h1 (by omega), Option.bind_some]
    dsimp only
    rw [r1_Small_eq _ _ (by omega) (by omega) (((Le.dec hx.dec).mul (Le.pow _)).mono (by omega)), Option.bind_some]
    simp only [Bool.false_eq_true, if_false]

end Go.Md

namespace Go.Md
open Go.Dn

/-- Sums that stay amounts. -/
def netF (am : D_api_Extra → Int) : List D_api_Extra → Int → Option Int
  | [], n => some n
  | x :: r, n => if (am x).natAbs ≤ MU ∧ (n + am x).natAbs ≤ MU then netF am r (n + am x) else none
def sumZ (am : D_api_Extra → Int) (l : List D_api_Extra) : Int := (l.map am).sum
theorem netF_some {am : D_api_Extra → Int} : ∀ {l : List D_api_Extra} {n m : Int}, netF am l n = some m → m = n + sumZ am l
  | [], n, m, h => by simp only [netF, Option.some.injEq] at h; simp [sumZ, h]
  | x :: r, n, m, h => by
    simp only [netF] at h
    split at h
    · have := netF_some h
      simp only [sumZ, List.map_cons, List.sum_cons] at this ⊢
      omega
    · cases h
theorem netF_bound {am : D_api_Extra → Int} : ∀ {l : List D_api_Extra} {n m : Int}, n.natAbs ≤ MU → netF am l n = some m → m.natAbs ≤ MU
  | [], n, m, hn, h => by simp only [netF, Option.some.injEq] at h; subst h; exact hn
  | x :: r, n, m, hn, h => by
    simp only [netF] at h
    split at h
    · rename_i hc; exact netF_bound hc.2 h
    · cases h

def netZ (v : D_api_Invoice) (x : D_api_BillLine) : Option Int :=
  if (grossZ v x).natAbs ≤ MU then netF (amtZ v.2.2.2.2.1 v.2.2.2.1 (grossZ v x)) x.2.2.2.2.2.2.2.1 (grossZ v x) else none
def netS (v : D_api_Invoice) (x : D_api_BillLine) : Int := grossZ v x + sumZ (amtZ v.2.2.2.2.1 v.2.2.2.1 (grossZ v x)) x.2.2.2.2.2.2.2.1
theorem netZ_some {v : D_api_Invoice} {x : D_api_BillLine} {m : Int} (h : netZ v x = some m) : m = netS v x ∧ m.natAbs ≤ MU := by
  unfold netZ at h
  split at h
  · rename_i hc; exact ⟨netF_some h, netF_bound hc h⟩
  · cases h

theorem amt_Le {way pl g : Int} {x : D_api_Extra} {k : Nat} (hk : 8 ≤ k) (hpl : 0 ≤ pl ∧ pl ≤ 4) (hx : ExtOk pl x) (hg : Le k g) : Le (k + 16) (amtZ way pl g x) := by
  unfold amtZ
  split
  · exact part_Le hg hx.dec
  · have := hx.dec.2
    exact ((Le.dec hx.dec).mul (Le.pow _)).mono (by omega)

theorem bill_net_eq {v : D_api_Invoice} {x : D_api_BillLine} (hv : InvOk v) (hx : LineOk v.2.2.2.1 v.2.2.2.2.2.2.1 x) : bill_net v x = some (W (netS v x), (netZ v x).isSome, ()) := by
  have hpl := hv.pl
  obtain ⟨hl, hex⟩ := extsF_zero hx.ext
  have hG : Le 35 (grossZ v x) := rnd_Le (gross_Le hv hx)
  unfold bill_net
  rw [bill_gross_eq hv hx, Option.bind_some]
  dsimp only
  unfold netZ netS
  generalize x.2.2.2.2.2.2.2.1 = l at *
  generalize grossZ v x = g at *
  obtain ⟨a, b, c, d, e, f, rt, ln, k⟩ := v
  dsimp only at *
  have key : ∀ f', l.length < f' → iter f' ((decide (g.natAbs ≤ MU), l, (l.length : Int), (0 : Int), a, b, c, d, e, f, rt, ln, k, false, ([] : List Int), (W g).1, (W g).2, (W g).1, (W g).2, ()) : bill_net_x4) bill_net_b4 =
      some (Sum.inr (decide (g.natAbs ≤ MU) && (netF (amtZ e d g) l g).isSome, false, [], (W (g + sumZ (amtZ e d g) l)).1, (W (g + sumZ (amtZ e d g) l)).2, ())) := by
    intro f' hf
    refine iter_post (Inv := fun i X => ∃ (ok : Bool) (n : Int), X = ((ok, l, (l.length : Int), (i : Int), a, b, c, d, e, f, rt, ln, k, false, ([] : List Int), (W g).1, (W g).2, (W n).1, (W n).2, ()) : bill_net_x4) ∧ (ok && (netF (amtZ e d g) (l.drop i) n).isSome) = (decide (g.natAbs ≤ MU) && (netF (amtZ e d g) l g).isSome) ∧ n + sumZ (amtZ e d g) (l.drop i) = g + sumZ (amtZ e d g) l ∧ Le (52 + i) n) l.length
      (fun r => r = some (Sum.inr (decide (g.natAbs ≤ MU) && (netF (amtZ e d g) l g).isSome, false, [], (W (g + sumZ (amtZ e d g) l)).1, (W (g + sumZ (amtZ e d g) l)).2, ()))) ?_ ?_ f' 0 _ ⟨_, g, rfl, by simp, by simp, hG.mono (by omega)⟩ (by omega) (by omega)
    · rintro i _ again hi ⟨ok, n, rfl, h1, h2, h3⟩ ih
      unfold bill_net_b4
      dsimp only
      have hy : l[i]? = some l[i] := getElem?_of hi
      have hym : l[i] ∈ l := List.getElem_mem hi
      have hcons := drop_get_cons hy
      generalize l[i] = y at hy hcons hym
      obtain ⟨hyo, _, _⟩ := hex y hym
      have hd1 := hyo.dec.1; have hd2 := hyo.dec.2
      rw [hcons] at h1 h2
      have hA := amt_Le (way := e) (by omega) hpl hyo hG
      have hmx : (if y.2.1.2 > d then y.2.1.2 else d) = max d y.2.1.2 := by omega
      rw [bif_pos (by omega), idx_nat, hy, Option.bind_some, hmx, amount_Scaled_eq _ _ (by omega) (by omega) (by omega) (by omega) (by omega), Option.bind_some]
      dsimp only
      have hjoin : ∀ K, joinB (β := ((D_whole_Int × Bool × Unit) ⊕ (Bool × Bool × (List Int) × Bool × (List Int) × Unit))) (bif y.1 then Option.bind (bill_part (a, b, c, d, e, f, rt, ln, k) ((W g).1, (W g).2) y.2.1) fun r4 => some (Sum.inr (ok, l, (l.length : Int), (i : Int), a, b, c, d, e, f, rt, ln, k, false, ([] : List Int), (W g).1, (W g).2, (W n).1, (W n).2, r4.1.1, r4.1.2, ())) else some (Sum.inr (ok, l, (l.length : Int), (i : Int), a, b, c, d, e, f, rt, ln, k, false, ([] : List Int), (W g).1, (W g).2, (W n).1, (W n).2, (W (y.2.1.1 * 10 ^ (max d y.2.1.2 - y.2.1.2).toNat)).1, (W (y.2.1.1 * 10 ^ (max d y.2.1.2 - y.2.1.2).toNat)).2, ()))) K =
          K (ok, l, (l.length : Int), (i : Int), a, b, c, d, e, f, rt, ln, k, false, ([] : List Int), (W g).1, (W g).2, (W n).1, (W n).2, (W (amtZ e d g y)).1, (W (amtZ e d g y)).2, ()) := by
        intro K
        unfold amtZ
        cases hp : y.1 with
        | true =>
          rw [cond_true, show ((W g).1, (W g).2) = W g from rfl, bill_part_eq _ g _ hyo.dec (hG.mono (by omega)), Option.bind_some, joinB_inr]
          simp only [if_true]
        | false =>
          have := hyo.place hp
          rw [cond_false, joinB_inr, show max d y.2.1.2 = d by omega]
          simp only [Bool.false_eq_true, if_false]
      rw [hjoin]
      dsimp only
      generalize hzd : amtZ e d g y = z at *
      have hz : Le (52 + i) z := hA.mono (by omega)
      rw [show ((W n).1, (W n).2) = W n from rfl, show ((W z).1, (W z).2) = W z from rfl, whole_Int_Plus_eq _ _ (h3.w (by omega)) (hz.w (by omega)), Option.bind_some]
      dsimp only
      rw [bill_fits_eq, bill_fits_eq, Option.bind_some, Option.bind_some, w64_id (by omega) (by omega)]
      have hs : n + z + sumZ (amtZ e d g) (l.drop (i + 1)) = g + sumZ (amtZ e d g) l := by
        rw [← h2]
        simp only [sumZ, List.map_cons, List.sum_cons, hzd]
        omega
      have hn : netF (amtZ e d g) (y :: l.drop (i + 1)) n = if z.natAbs ≤ MU ∧ (n + z).natAbs ≤ MU then netF (amtZ e d g) (l.drop (i + 1)) (n + z) else none := by simp only [netF, hzd]
      rw [hn] at h1
      cases ok with
      | false =>
        rw [cond_false]
        exact ih _ ⟨false, n + z, rfl, by simpa using h1, hs, h3.add hz⟩
      | true =>
        rw [cond_true]
        by_cases f1 : (z.natAbs : Int) ≤ MU
        · rw [decide_eq_true f1, cond_true]
          refine ih _ ⟨_, n + z, rfl, ?_, hs, h3.add hz⟩
          by_cases f2 : ((n + z).natAbs : Int) ≤ MU
          · rw [decide_eq_true f2, ← h1, if_pos ⟨f1, f2⟩]
          · rw [decide_eq_false f2, ← h1, if_neg (fun h => f2 h.2)]; rfl
        · rw [decide_eq_false f1, cond_false]
          refine ih _ ⟨false, n + z, rfl, ?_, hs, h3.add hz⟩
          rw [← h1, if_neg (fun h => f1 h.1)]; rfl
    · rintro _ again ⟨ok, n, rfl, h1, h2, h3⟩
      unfold bill_net_b4
      dsimp only
      rw [bif_neg (by omega)]
      rw [List.drop_length] at h1 h2
      simp only [netF, Option.isSome_some, Bool.and_true, sumZ, List.map_nil, List.sum_nil, Int.add_zero] at h1 h2
      rw [h1, h2]
      rfl
  rw [key _ (by omega), joinB_inr]
  dsimp only
  congr 3
  by_cases hg : (g.natAbs : Int) ≤ MU
  · rw [decide_eq_true hg, if_pos hg, Bool.true_and]
  · rw [decide_eq_false hg, if_neg hg]; rfl

theorem r11_isAmount_eq (n : Int) : r11_isAmount n = some (decide (n.natAbs ≤ MU), ()) := by
  unfold r11_isAmount
  rw [r11_within_eq, Option.bind_some]
  congr 2
  rw [decide_eq_decide]
  show _ ↔ (n.natAbs : Int) ≤ 1000000000000000
  omega

def netO : Option Int → Option r11_net_r6
  | some m => some (Sum.inr (m, ()))
  | none => some (Sum.inl (0, false, ()))
def optI : Option Int → Int × Bool × Unit
  | some n => (n, true, ())
  | none => (0, false, ())

theorem r11_net_eq {v : D_api_Invoice} {x : D_api_BillLine} (hv : InvOk v) (hx : LineOk v.2.2.2.1 v.2.2.2.2.2.2.1 x) : r11_net v x = some (optI (netZ v x)) := by
  have hpl := hv.pl
  obtain ⟨hl, hex⟩ := extsF_zero hx.ext
  unfold r11_net
  rw [r11_gross_eq hv hx, Option.bind_some]
  unfold netZ
  generalize x.2.2.2.2.2.2.2.1 = l at *
  generalize grossZ v x = g at *
  by_cases hg : (g.natAbs : Int) ≤ MU
  · rw [if_pos hg, if_pos hg]
    have hg' : (g.natAbs : Int) ≤ 1000000000000000 := hg
    dsimp only
    rw [Bool.not_true, cond_false]
    obtain ⟨a, b, c, d, e, f, rt, ln, k⟩ := v
    dsimp only at *
    have key : ∀ f', l.length < f' → iter f' ((g, g, l, (l.length : Int), (0 : Int), a, b, c, d, e, f, rt, ln, k, ()) : r11_net_x6) r11_net_b6 = netO (netF (amtZ e d g) l g) := by
      intro f' hf
      refine iter_post (Inv := fun i X => ∃ n : Int, X = ((g, n, l, (l.length : Int), (i : Int), a, b, c, d, e, f, rt, ln, k, ()) : r11_net_x6) ∧ netF (amtZ e d g) (l.drop i) n = netF (amtZ e d g) l g ∧ n.natAbs ≤ MU) l.length
        (fun r => r = netO (netF (amtZ e d g) l g)) ?_ ?_ f' 0 _ ⟨g, rfl, rfl, hg⟩ (by omega) (by omega)
      · rintro i _ again hi ⟨n, rfl, h1, h3⟩ ih
        unfold r11_net_b6
        dsimp only
        have hy : l[i]? = some l[i] := getElem?_of hi
        have hym : l[i] ∈ l := List.getElem_mem hi
        have hcons := drop_get_cons hy
        generalize l[i] = y at hy hcons hym
        obtain ⟨hyo, _, _⟩ := hex y hym
        rw [hcons] at h1
        simp only [netF] at h1
        have h3' : (n.natAbs : Int) ≤ 1000000000000000 := h3
        rw [bif_pos (by omega), idx_nat, hy, Option.bind_some, r11_amount_eq (a, b, c, d, e, f, rt, ln, k) y g hpl hyo (by omega), Option.bind_some]
        dsimp only
        generalize amtZ e d g y = z at *
        by_cases f1 : (z.natAbs : Int) ≤ MU
        · have f1' : (z.natAbs : Int) ≤ 1000000000000000 := f1
          rw [if_pos f1]
          dsimp only
          rw [Bool.not_true, cond_false, w64_id (n := n + z) (by omega) (by omega), r11_isAmount_eq, Option.bind_some, w64_id (by omega) (by omega)]
          by_cases f2 : ((n + z).natAbs : Int) ≤ MU
          · rw [if_pos ⟨f1, f2⟩] at h1
            rw [decide_eq_true f2, Bool.not_true, cond_false]
            exact ih _ ⟨n + z, rfl, h1, f2⟩
          · rw [if_neg (fun h => f2 h.2)] at h1
            rw [decide_eq_false f2, ← h1]
            rfl
        · rw [if_neg (fun h => f1 h.1)] at h1
          rw [if_neg f1, ← h1]
          rfl
      · rintro _ again ⟨n, rfl, h1, h3⟩
        unfold r11_net_b6
        dsimp only
        rw [bif_neg (by omega)]
        rw [List.drop_length] at h1
        rw [← h1]
        rfl
    rw [key _ (by omega)]
    cases netF (amtZ e d g) l g <;> rfl
  · rw [if_neg hg, if_neg hg]
    rfl

theorem bill_Gross_eq (v : D_api_Invoice) (n : Int) : bill_Gross v n = r11_Gross v n := by
  unfold bill_Gross bill_ofLine r11_Gross
  rw [bill_CheckInvoice_eq, r11_CheckInvoice_eq, Option.bind_some, Option.bind_some]
  dsimp only
  by_cases h : invF v = 0
  · have hv := invF_zero h
    have hln := hv.ln
    rw [h, show ((0 : Int) != 0) = false from rfl, cond_false, cond_false, w64_id (by omega) (by omega), kit_Outside_eq, r11_within_eq, Option.bind_some, Option.bind_some]
    dsimp only
    by_cases hr : n < 0 ∨ (v.2.2.2.2.2.2.2.1.length : Int) - 1 < n
    · rw [decide_eq_true hr, decide_eq_false (by omega)]
      rfl
    · rw [decide_eq_false hr, decide_eq_true (by omega), Bool.not_true, cond_false, cond_false]
      obtain ⟨m, rfl⟩ : ∃ m : Nat, n = m := ⟨n.toNat, by omega⟩
      have hm : m < v.2.2.2.2.2.2.2.1.length := by omega
      have hy : v.2.2.2.2.2.2.2.1[m]? = some v.2.2.2.2.2.2.2.1[m] := getElem?_of hm
      have hx := hv.lines _ (List.getElem_mem hm)
      rw [idx_nat, hy, Option.bind_some, Option.bind_some, bill_gross_eq hv hx, r11_gross_eq hv hx, Option.bind_some, Option.bind_some]
      by_cases hg : ((grossZ v v.2.2.2.2.2.2.2.1[m]).natAbs : Int) ≤ MU
      · rw [if_pos hg, decide_eq_true hg]
        dsimp only
        rw [amount_Made_eq, if_pos (by have h9 : ((grossZ v v.2.2.2.2.2.2.2.1[m]).natAbs : Int) ≤ 1000000000000000 := hg; omega)]
        rfl
      · rw [if_neg hg, decide_eq_false hg]
        rfl
  · rw [show (invF v != 0) = true by simpa using h, cond_true, cond_true, Option.bind_some]

theorem bill_Net_eq (v : D_api_Invoice) (n : Int) : bill_Net v n = r11_Net v n := by
  unfold bill_Net bill_ofLine_net r11_Net
  rw [bill_CheckInvoice_eq, r11_CheckInvoice_eq, Option.bind_some, Option.bind_some]
  dsimp only
  by_cases h : invF v = 0
  · have hv := invF_zero h
    have hln := hv.ln
    rw [h, show ((0 : Int) != 0) = false from rfl, cond_false, cond_false, w64_id (by omega) (by omega), kit_Outside_eq, r11_within_eq, Option.bind_some, Option.bind_some]
    dsimp only
    by_cases hr : n < 0 ∨ (v.2.2.2.2.2.2.2.1.length : Int) - 1 < n
    · rw [decide_eq_true hr, decide_eq_false (by omega)]
      rfl
    · rw [decide_eq_false hr, decide_eq_true (by omega), Bool.not_true, cond_false, cond_false]
      obtain ⟨m, rfl⟩ : ∃ m : Nat, n = m := ⟨n.toNat, by omega⟩
      have hm : m < v.2.2.2.2.2.2.2.1.length := by omega
      have hy : v.2.2.2.2.2.2.2.1[m]? = some v.2.2.2.2.2.2.2.1[m] := getElem?_of hm
      have hx := hv.lines _ (List.getElem_mem hm)
      rw [idx_nat, hy, Option.bind_some, Option.bind_some, bill_net_eq hv hx, r11_net_eq hv hx, Option.bind_some, Option.bind_some]
      cases hz : netZ v v.2.2.2.2.2.2.2.1[m] with
      | none => rfl
      | some k =>
        obtain ⟨rfl, hb⟩ := netZ_some hz
        dsimp only [optI]
        simp only [Option.isSome_some, Bool.not_true, cond_false]
        rw [amount_Made_eq, if_pos (by have h9 : ((netS v v.2.2.2.2.2.2.2.1[m]).natAbs : Int) ≤ 1000000000000000 := hb; omega)]
        rfl
  · rw [show (invF v != 0) = true by simpa using h, cond_true, cond_true, Option.bind_some]

theorem r11_Gross_some (v : D_api_Invoice) (n : Int) : ∃ r, r11_Gross v n = some r := by
  unfold r11_Gross
  rw [r11_CheckInvoice_eq, Option.bind_some]
  dsimp only
  by_cases h : invF v = 0
  · have hv := invF_zero h
    have hln := hv.ln
    rw [h, show ((0 : Int) != 0) = false from rfl, cond_false, w64_id (by omega) (by omega), r11_within_eq, Option.bind_some]
    by_cases hr : n < 0 ∨ (v.2.2.2.2.2.2.2.1.length : Int) - 1 < n
    · rw [decide_eq_false (by omega)]
      exact ⟨_, rfl⟩
    · rw [decide_eq_true (by omega), Bool.not_true, cond_false]
      obtain ⟨m, rfl⟩ : ∃ m : Nat, n = m := ⟨n.toNat, by omega⟩
      have hm : m < v.2.2.2.2.2.2.2.1.length := by omega
      have hy : v.2.2.2.2.2.2.2.1[m]? = some v.2.2.2.2.2.2.2.1[m] := getElem?_of hm
      have hx := hv.lines _ (List.getElem_mem hm)
      rw [idx_nat, hy, Option.bind_some, r11_gross_eq hv hx, Option.bind_some]
      split <;> exact ⟨_, rfl⟩
  · rw [show (invF v != 0) = true by simpa using h, cond_true]; exact ⟨_, rfl⟩
theorem r11_Net_some (v : D_api_Invoice) (n : Int) : ∃ r, r11_Net v n = some r := by
  unfold r11_Net
  rw [r11_CheckInvoice_eq, Option.bind_some]
  dsimp only
  by_cases h : invF v = 0
  · have hv := invF_zero h
    have hln := hv.ln
    rw [h, show ((0 : Int) != 0) = false from rfl, cond_false, w64_id (by omega) (by omega), r11_within_eq, Option.bind_some]
    by_cases hr : n < 0 ∨ (v.2.2.2.2.2.2.2.1.length : Int) - 1 < n
    · rw [decide_eq_false (by omega)]
      exact ⟨_, rfl⟩
    · rw [decide_eq_true (by omega), Bool.not_true, cond_false]
      obtain ⟨m, rfl⟩ : ∃ m : Nat, n = m := ⟨n.toNat, by omega⟩
      have hm : m < v.2.2.2.2.2.2.2.1.length := by omega
      have hy : v.2.2.2.2.2.2.2.1[m]? = some v.2.2.2.2.2.2.2.1[m] := getElem?_of hm
      have hx := hv.lines _ (List.getElem_mem hm)
      rw [idx_nat, hy, Option.bind_some, r11_net_eq hv hx, Option.bind_some]
      cases netZ v v.2.2.2.2.2.2.2.1[m] <;> exact ⟨_, rfl⟩
  · rw [show (invF v != 0) = true by simpa using h, cond_true]; exact ⟨_, rfl⟩

theorem l11_awake_k : l11_awake = some (true, ()) := by kernel_rfl

/-- The plain law. -/
theorem linesMatchSpec (v : D_api_Invoice) (n : Int) : l11_BillLinesMatchSpec v n = some (true, ()) := by
  unfold l11_BillLinesMatchSpec
  obtain ⟨⟨d1, f1, u1⟩, h1⟩ := r11_Gross_some v n
  obtain ⟨⟨d2, f2, u2⟩, h2⟩ := r11_Net_some v n
  rw [bill_Gross_eq, bill_Net_eq, h1, h2, bill_CheckInvoice_eq, r11_CheckInvoice_eq, l11_awake_k]
  simp

end Go.Md
