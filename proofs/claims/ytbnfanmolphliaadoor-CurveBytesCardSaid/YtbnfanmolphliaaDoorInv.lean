import Derived.Test.YtbnfanmolphliaaDoorRedc
/-! The inverse by halving and taking away. -/
namespace TollMont
open TollNt

/-- half of x by m. -/
def halve (m x : Nat) : Nat := if x % 2 = 0 then x / 2 else (x + m) / 2
def subm (m x y : Nat) : Nat := (x % m + m - y % m) % m

structure InvAt (m a u v x y : Nat) : Prop where
  vodd : v % 2 = 1
  vle : v ≤ m
  ule : u < m
  xlt : x < m
  ylt : y < m
  xu : x * a % m = u % m
  yv : y * a % m = v % m
  gcd : Nat.gcd u v = Nat.gcd a m

theorem InvAt.start {m a : Nat} (hm : m % 2 = 1) (h1 : 1 < m) : InvAt m a (a % m) m 1 0 :=
  ⟨hm, Nat.le_refl _, Nat.mod_lt _ (by omega), h1, by omega, by simp, by simp, by rw [Nat.gcd_comm a m, Nat.gcd_rec m a]⟩

theorem two_cancel {m a b : Nat} (hm : m % 2 = 1) (h : 2 * a % m = 2 * b % m) : a % m = b % m := by
  have key : ∀ a b, b ≤ a → 2 * a % m = 2 * b % m → a % m = b % m := by
    intro a b hle h
    have h1 : m ∣ 2 * a - 2 * b := dvd_sub_of_mod h (by omega)
    rw [← Nat.mul_sub] at h1
    have hc : Nat.Coprime m 2 := by
      unfold Nat.Coprime; rw [Nat.gcd_comm, Nat.gcd_rec, hm]; rfl
    obtain ⟨c, hc⟩ := Nat.Coprime.dvd_of_dvd_mul_left hc h1
    have : a = b + m * c := by omega
    rw [this, Nat.add_mul_mod_self_left]
  rcases Nat.le_total b a with hle | hle
  · exact key a b hle h
  · exact (key b a hle h.symm).symm

theorem halve_lt {m x : Nat} (hx : x < m) : halve m x < m := by unfold halve; split <;> omega
theorem halve_two {m x : Nat} (hm : m % 2 = 1) : 2 * halve m x % m = x % m := by
  unfold halve; split
  · rename_i h; rw [show 2 * (x / 2) = x by omega]
  · rename_i h; rw [show 2 * ((x + m) / 2) = x + m by omega, Nat.add_mod_right]

theorem gcd_half {u v : Nat} (hu : u % 2 = 0) (hv : v % 2 = 1) : Nat.gcd (u / 2) v = Nat.gcd u v := by
  have hu2 : u = 2 * (u / 2) := by omega
  have hc : Nat.Coprime v 2 := by
    unfold Nat.Coprime; rw [Nat.gcd_comm, Nat.gcd_rec, hv]; rfl
  conv => rhs; rw [hu2, Nat.mul_comm]
  exact (Nat.Coprime.gcd_mul_right_cancel (u / 2) hc.symm).symm

theorem InvAt.halved {m a u v x y : Nat} (hm : m % 2 = 1) (h : InvAt m a u v x y) (hu : u % 2 = 0) : InvAt m a (u / 2) v (halve m x) y := by
  refine ⟨h.vodd, h.vle, by have := h.ule; omega, halve_lt h.xlt, h.ylt, ?_, h.yv, by rw [gcd_half hu h.vodd, h.gcd]⟩
  refine two_cancel hm ?_
  rw [show 2 * (u / 2) = u by omega, ← h.xu, ← Nat.mul_assoc, Nat.mul_mod, halve_two hm, ← Nat.mul_mod]

theorem subm_lt {m x y : Nat} (hm : 1 < m) : subm m x y < m := Nat.mod_lt _ (by omega)
theorem subm_eq {m x y : Nat} (hm : 0 < m) : (subm m x y + y) % m = x % m := by
  unfold subm
  have hy := Nat.mod_lt y hm
  rw [Nat.mod_add_mod, ← Nat.add_mod_mod (x % m + m - y % m), Nat.sub_add_cancel (by omega), Nat.add_mod_right, Nat.mod_mod]
theorem add_cancel_mod {m a b c : Nat} (h : (a + c) % m = (b + c) % m) : a % m = b % m := by
  have key : ∀ a b, b ≤ a → (a + c) % m = (b + c) % m → a % m = b % m := by
    intro a b hle h
    obtain ⟨k, hk⟩ := dvd_sub_of_mod h (by omega)
    have : a = b + m * k := by omega
    rw [this, Nat.add_mul_mod_self_left]
  rcases Nat.le_total b a with hle | hle
  · exact key a b hle h
  · exact (key b a hle h.symm).symm

theorem subm_mul {m a u v x y : Nat} (hm : 1 < m) (hvu : v ≤ u) (hx : x * a % m = u % m) (hy : y * a % m = v % m) : subm m x y * a % m = (u - v) % m := by
  refine add_cancel_mod (c := v) ?_
  rw [Nat.sub_add_cancel hvu, ← hx]
  have e : (subm m x y + y) * a % m = x * a % m := by rw [Nat.mul_mod, subm_eq (by omega), ← Nat.mul_mod]
  rw [← e, Nat.add_mul, Nat.add_mod, ← hy, ← Nat.add_mod]

theorem gcd_sub {u v : Nat} (h : v ≤ u) : Nat.gcd (u - v) v = Nat.gcd u v := by
  conv => rhs; rw [show u = (u - v) + v by omega]
  exact (Nat.gcd_add_self_left v (u - v)).symm

theorem InvAt.less {m a u v x y : Nat} (hm : 1 < m) (h : InvAt m a u v x y) (hvu : v ≤ u) : InvAt m a (u - v) v (subm m x y) y :=
  ⟨h.vodd, h.vle, by have := h.ule; omega, subm_lt hm, h.ylt, subm_mul hm hvu h.xu h.yv, h.yv, by rw [gcd_sub hvu, h.gcd]⟩
theorem InvAt.swap {m a u v x y : Nat} (hm : 1 < m) (h : InvAt m a u v x y) (hu : u % 2 = 1) (huv : u < v) : InvAt m a (v - u) u (subm m y x) x :=
  ⟨hu, Nat.le_of_lt h.ule, by have := h.vle; omega, subm_lt hm, h.xlt, subm_mul hm (Nat.le_of_lt huv) h.yv h.xu, h.xu, by rw [gcd_sub (Nat.le_of_lt huv), Nat.gcd_comm, h.gcd]⟩

/-- the inverse, where there is one; nought. -/
noncomputable def minv (m a : Nat) : Nat := open Classical in if h : ∃ y, y < m ∧ y * a % m = 1 then Classical.choose h else 0
theorem inv_unique {m a y z : Nat} (hy : y < m) (hz : z < m) (h1 : y * a % m = 1) (h2 : z * a % m = 1) : y = z := by
  have e1 : y * (z * a) % m = y % m := by rw [Nat.mul_mod, h2, Nat.mul_one, Nat.mod_mod]
  have e2 : z * (y * a) % m = z % m := by rw [Nat.mul_mod, h1, Nat.mul_one, Nat.mod_mod]
  rw [Nat.mul_left_comm, e2, Nat.mod_eq_of_lt hz, Nat.mod_eq_of_lt hy] at e1
  exact e1.symm
theorem minv_eq {m a y : Nat} (hy : y < m) (h : y * a % m = 1) : minv m a = y := by
  have hex : ∃ y, y < m ∧ y * a % m = 1 := ⟨y, hy, h⟩
  unfold minv
  rw [dif_pos hex]
  have := Classical.choose_spec hex
  exact inv_unique this.1 hy this.2 h

theorem InvAt.done {m a v x y : Nat} (h1 : 1 < m) (h : InvAt m a 0 v x y) : (v = 1 ↔ Nat.gcd a m = 1) ∧ (v = 1 → y = minv m a ∧ y * a % m = 1) := by
  have hg := h.gcd
  rw [Nat.gcd_zero_left] at hg
  refine ⟨by rw [hg], ?_⟩
  rintro rfl
  have := h.yv
  rw [Nat.mod_eq_of_lt h1] at this
  exact ⟨(minv_eq h.ylt this).symm, this⟩
theorem minv_mul {m a : Nat} (h1 : 1 < m) (hm : m % 2 = 1) (h : Nat.gcd a m = 1) : minv m a < m ∧ minv m a * a % m = 1 := by
  -- run the loop
  have key : ∀ n u v x y, u + v ≤ n → InvAt m a u v x y → ∃ y, y < m ∧ y * a % m = 1 := by
    intro n
    induction n with
    | zero => intro u v x y hn hI; have := hI.vodd; omega
    | succ n ih =>
      intro u v x y hn hI
      have hv := hI.vodd
      by_cases hu0 : u = 0
      · subst hu0
        have := hI.done h1
        exact ⟨y, hI.ylt, (this.2 (this.1.2 h)).2⟩
      · by_cases hu : u % 2 = 0
        · exact ih _ _ _ _ (by omega) (hI.halved hm hu)
        · by_cases huv : u < v
          · exact ih _ _ _ _ (by omega) (hI.swap h1 (by omega) huv)
          · exact ih _ _ _ _ (by omega) (hI.less h1 (by omega))
  obtain ⟨y, hy, he⟩ := key _ _ _ _ _ (Nat.le_refl _) (InvAt.start (a := a) hm h1)
  rw [minv_eq hy he]; exact ⟨hy, he⟩
end TollMont
