/-
  Plain facts: products, powers, rounding. No condition.
-/
import Derived.Test.YtglaikpklmafkaaGreatDoorPb
import Derived.Test.YtglaikpklmafkaaGreatDoorMe
set_option linter.all false
namespace Go.Md
open Go.Dn

end Go.Md

namespace Go.Md
open Go.Dn

/-- At most 10^k. -/
def Le (k : Nat) (z : Int) : Prop := z.natAbs ≤ 10 ^ k
theorem Le.mul {a b : Nat} {x y : Int} (hx : Le a x) (hy : Le b y) : Le (a + b) (x * y) := by
  unfold Le at *
  rw [Int.natAbs_mul, Nat.pow_add]
  exact Nat.mul_le_mul hx hy
theorem Le.mono {a b : Nat} {x : Int} (hx : Le a x) (h : a ≤ b) : Le b x := Nat.le_trans hx (Nat.pow_le_pow_right (by omega) h)
theorem Le.add {a : Nat} {x y : Int} (hx : Le a x) (hy : Le a y) : Le (a + 1) (x + y) := by
  unfold Le at *
  rw [Nat.pow_succ]
  omega
theorem Le.neg {a : Nat} {x : Int} (hx : Le a x) : Le a (-x) := by unfold Le at *; omega
theorem Le.w {k : Nat} {z : Int} (h : Le k z) (hk : k ≤ 900) : z.natAbs < 4294967296 ^ 99 :=
  Nat.lt_of_le_of_lt (h.mono hk) (by decide +kernel)
theorem Le.n {k : Nat} {z : Int} (h : Le k z) (hk : k ≤ 500) : (dg6 z.natAbs).length < 90 := by
  have := dg6_len (k := 84) (n := z.natAbs) (Nat.lt_of_le_of_lt (h.mono hk) (by decide +kernel))
  omega
theorem Le.int {n : Int} (h1 : -9223372036854775808 ≤ n) (h2 : n ≤ 9223372036854775807) : Le 19 n := by unfold Le; omega

theorem Le.succ {k n : Nat} (h : Le k (n : Int)) : Le (k + 1) ((n + 1 : Nat) : Int) := by
  unfold Le at *
  rw [Nat.pow_succ]
  have : 1 ≤ 10 ^ k := Nat.pow_pos (by omega)
  omega

end Go.Md

namespace Go.Md
open Go.Dn

end Go.Md

namespace Go.Md
open Go.Dn

end Go.Md
