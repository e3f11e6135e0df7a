import Derived.Test.YtbnfanmolphliaaDoorInv
/-! What the document's loops over bits make. -/
namespace TollMont
open TollNt

/-- the number of the bits from i on. -/
theorem top_step (n i : Nat) : n / 2 ^ i = 2 * (n / 2 ^ (i + 1)) + n / 2 ^ i % 2 := by
  rw [Nat.pow_succ, ← Nat.div_div_eq_div_mul]; omega

theorem add_mod_lt {a b m : Nat} (ha : a < m) (hb : b < m) : (a + b) % m = if m ≤ a + b then a + b - m else a + b := by
  split
  · rename_i h; rw [Nat.mod_eq_sub_mod h, Nat.mod_eq_of_lt (by omega)]
  · rename_i h; exact Nat.mod_eq_of_lt (by omega)

/-- one bit of a rest. -/
theorem rest_step (n m i : Nat) : ((n / 2 ^ (i + 1) % m + n / 2 ^ (i + 1) % m) % m + n / 2 ^ i % 2) % m = n / 2 ^ i % m := by
  simp only [Nat.add_mod_mod, Nat.mod_add_mod]
  congr 1
  have := top_step n i
  omega
/-- one bit of a product. -/
theorem mul_step (a n m i : Nat) : ((a * (n / 2 ^ (i + 1)) % m + a * (n / 2 ^ (i + 1)) % m) % m + a * (n / 2 ^ i % 2) % m) % m = a * (n / 2 ^ i) % m := by
  simp only [Nat.add_mod_mod, Nat.mod_add_mod, ← Nat.mul_add]
  congr 2
  have := top_step n i
  omega
/-- one bit of a power. -/
theorem pow_step (a n m i : Nat) : (a ^ (n / 2 ^ (i + 1)) % m * (a ^ (n / 2 ^ (i + 1)) % m) % m) * a ^ (n / 2 ^ i % 2) % m = a ^ (n / 2 ^ i) % m := by
  rw [← Nat.mul_mod, Nat.mod_mul_mod, ← Nat.pow_add, ← Nat.pow_add]
  congr 2
  have := top_step n i
  omega
theorem bit01 (n i : Nat) : n / 2 ^ i % 2 = 0 ∨ n / 2 ^ i % 2 = 1 := by omega

theorem top_all {n : Nat} (h : n < R) : n / 2 ^ 256 = 0 := Nat.div_eq_of_lt h
end TollMont
