import Derived.Test.YtbnfanmolphliaaDoorInv
/-! Plain laws of numbers by a modulus. -/
namespace TollMont
open TollNt
variable {m : Nat}
theorem dif_squares (h : 0 < m) (x y : Nat) : (x + y) % m * subm m x y % m = subm m (x * x % m) (y * y % m) := by
  have hd : (subm m x y + y) % m = x % m := subm_eq h
  have he : (subm m (x * x % m) (y * y % m) + y * y) % m = x * x % m := by
    have := subm_eq (m := m) (x := x * x % m) (y := y * y % m) h
    rw [Nat.add_mod_mod, Nat.mod_mod] at this; exact this
  have l1 : subm m (x * x % m) (y * y % m) < m := Nat.mod_lt _ h
  have key : (x + y) % m * subm m x y % m % m = subm m (x * x % m) (y * y % m) % m := by
    refine add_cancel_mod (c := y * y) ?_
    refine add_cancel_mod (c := x * y) ?_
    have e1 : ((x + y) % m * subm m x y % m + y * y + x * y) % m = (x + y) * (subm m x y + y) % m := by
      rw [Nat.add_assoc, Nat.mod_add_mod, Nat.mul_add, Nat.add_mul x y y, Nat.add_comm (x * y) (y * y)]
      rw [Nat.add_mod, Nat.mod_mul_mod, ← Nat.add_mod]
    rw [e1, Nat.mul_mod, hd, ← Nat.mul_mod, Nat.add_mod (subm m (x * x % m) (y * y % m) + y * y), he, ← Nat.add_mod, Nat.add_mul, Nat.mul_comm y x]
  rw [Nat.mod_mod, Nat.mod_eq_of_lt l1] at key
  exact key
theorem spread (x y : Nat) : x * ((y + 1) % m) % m = (x * y % m + x) % m := by
  rw [Nat.mul_mod_mod, Nat.mod_add_mod, Nat.mul_succ]
theorem sub_back (h : 0 < m) (x y : Nat) : subm m ((x + y) % m) y = x % m := by
  have l1 : subm m ((x + y) % m) y < m := Nat.mod_lt _ h
  have key : subm m ((x + y) % m) y % m = x % m := add_cancel_mod (c := y) (by rw [subm_eq h, Nat.mod_mod])
  rw [Nat.mod_eq_of_lt l1] at key
  exact key
theorem gcd_inv {i x : Nat} (_h : 1 < m) (hi : i * x % m = 1) : Nat.gcd i m = 1 := by
  have h1 : Nat.gcd i m ∣ i * x % m := (Nat.dvd_mod_iff (Nat.gcd_dvd_right i m)).2 (Nat.dvd_trans (Nat.gcd_dvd_left i m) ⟨x, rfl⟩)
  rw [hi] at h1
  exact Nat.dvd_one.1 h1
theorem inv_inv {x : Nat} (h : 1 < m) (hi : minv m x * x % m = 1) : minv m (minv m x) = x % m :=
  minv_eq (Nat.mod_lt _ (by omega)) (by rw [Nat.mod_mul_mod, Nat.mul_comm]; exact hi)
theorem mul_back {i x : Nat} (hi : i * x % m = 1) (y : Nat) : y * x % m * i % m = y % m := by
  rw [Nat.mod_mul_mod, Nat.mul_assoc, Nat.mul_comm x i, Nat.mul_mod, hi, Nat.mul_one, Nat.mod_mod]
end TollMont
