import Derived.Test.YtbnfanmolphliaaDoorNt
/-! Plain arithmetic of layer 6: numbers of four parts of 64 bits. -/
namespace TollMont
open TollNt

abbrev W : Nat := 18446744073709551616
abbrev R : Nat := 115792089237316195423570985008687907853269984665640564039457584007913129639936

/-- a part of a number. -/
def lim (n i : Nat) : Nat := n / W ^ i % W
theorem lim_lt (n i : Nat) : lim n i < W := Nat.mod_lt _ (by decide)
theorem lim_zero (n : Nat) : lim n 0 = n % W := by simp [lim]
theorem lim_succ (n i : Nat) : lim n (i + 1) = lim (n / W) i := by
  unfold lim; rw [Nat.pow_succ, Nat.mul_comm, Nat.div_div_eq_div_mul]
/-- a number whose lowest part is a. -/
theorem hmod {a b : Nat} (h : a < W) : (a + W * b) % W = a := by rw [Nat.add_mul_mod_self_left]; exact Nat.mod_eq_of_lt h
theorem hdiv {a b : Nat} (h : a < W) : (a + W * b) / W = b := by
  rw [Nat.add_mul_div_left _ _ (by decide), Nat.div_eq_of_lt h, Nat.zero_add]
theorem lim_of (a b c d e : Nat) (ha : a < W) (hb : b < W) (hc : c < W) (hd : d < W) :
    lim (a + W * (b + W * (c + W * (d + W * e)))) 0 = a ∧ lim (a + W * (b + W * (c + W * (d + W * e)))) 1 = b ∧ lim (a + W * (b + W * (c + W * (d + W * e)))) 2 = c ∧
      lim (a + W * (b + W * (c + W * (d + W * e)))) 3 = d ∧ (a + W * (b + W * (c + W * (d + W * e)))) / R = e := by
  refine ⟨?_, ?_, ?_, ?_, ?_⟩
  · rw [lim_zero, hmod ha]
  · rw [lim_succ, hdiv ha, lim_zero, hmod hb]
  · rw [lim_succ, hdiv ha, lim_succ, hdiv hb, lim_zero, hmod hc]
  · rw [lim_succ, hdiv ha, lim_succ, hdiv hb, lim_succ, hdiv hc, lim_zero, hmod hd]
  · rw [show R = W * (W * (W * W)) by decide, ← Nat.div_div_eq_div_mul, hdiv ha, ← Nat.div_div_eq_div_mul, hdiv hb, ← Nat.div_div_eq_div_mul, hdiv hc, hdiv hd]
theorem lim_sum (n : Nat) : n = lim n 0 + W * (lim n 1 + W * (lim n 2 + W * (lim n 3 + W * (n / R)))) := by
  have e : ∀ x : Nat, x = x % W + W * (x / W) := fun x => (Nat.mod_add_div x W).symm
  rw [show R = W * (W * (W * W)) by decide, ← Nat.div_div_eq_div_mul, ← Nat.div_div_eq_div_mul, ← Nat.div_div_eq_div_mul]
  simp only [lim_succ, lim_zero]
  rw [← e, ← e, ← e, ← e]
theorem lim_sum4 {n : Nat} (h : n < R) : n = lim n 0 + W * (lim n 1 + W * (lim n 2 + W * lim n 3)) := by
  have := lim_sum n
  rw [Nat.div_eq_of_lt h] at this
  simpa using this
theorem lim_inj {a b : Nat} (ha : a < R) (hb : b < R) (h0 : lim a 0 = lim b 0) (h1 : lim a 1 = lim b 1) (h2 : lim a 2 = lim b 2) (h3 : lim a 3 = lim b 3) : a = b := by
  rw [lim_sum4 ha, lim_sum4 hb, h0, h1, h2, h3]

/-! ### sums and differences, part by part -/
theorem add_parts (n m : Nat) (hn : n < R) (hm : m < R) (s0 c0 s1 c1 s2 c2 s3 c3 : Nat)
    (e0 : s0 = (lim n 0 + lim m 0) % W) (f0 : c0 = (lim n 0 + lim m 0) / W)
    (e1 : s1 = (lim n 1 + lim m 1 + c0) % W) (f1 : c1 = (lim n 1 + lim m 1 + c0) / W)
    (e2 : s2 = (lim n 2 + lim m 2 + c1) % W) (f2 : c2 = (lim n 2 + lim m 2 + c1) / W)
    (e3 : s3 = (lim n 3 + lim m 3 + c2) % W) (f3 : c3 = (lim n 3 + lim m 3 + c2) / W) :
    s0 = lim (n + m) 0 ∧ s1 = lim (n + m) 1 ∧ s2 = lim (n + m) 2 ∧ s3 = lim (n + m) 3 ∧ c3 = (n + m) / R := by
  have hN := lim_sum4 hn; have hM := lim_sum4 hm
  generalize lim n 0 = n0 at *; generalize lim n 1 = n1 at *; generalize lim n 2 = n2 at *; generalize lim n 3 = n3 at *
  generalize lim m 0 = m0 at *; generalize lim m 1 = m1 at *; generalize lim m 2 = m2 at *; generalize lim m 3 = m3 at *
  have l0 : s0 < W := e0 ▸ Nat.mod_lt _ (by decide)
  have l1 : s1 < W := e1 ▸ Nat.mod_lt _ (by decide)
  have l2 : s2 < W := e2 ▸ Nat.mod_lt _ (by decide)
  have l3 : s3 < W := e3 ▸ Nat.mod_lt _ (by decide)
  have k0 : n0 + m0 = s0 + W * c0 := by rw [e0, f0, Nat.mod_add_div]
  have k1 : n1 + m1 + c0 = s1 + W * c1 := by rw [e1, f1, Nat.mod_add_div]
  have k2 : n2 + m2 + c1 = s2 + W * c2 := by rw [e2, f2, Nat.mod_add_div]
  have k3 : n3 + m3 + c2 = s3 + W * c3 := by rw [e3, f3, Nat.mod_add_div]
  have key : n + m = s0 + W * (s1 + W * (s2 + W * (s3 + W * c3))) := by
    clear e0 e1 e2 e3 f0 f1 f2 f3 l0 l1 l2 l3 hn hm
    simp only [W] at *; omega
  rw [key]
  obtain ⟨h0, h1, h2, h3, h4⟩ := lim_of s0 s1 s2 s3 c3 l0 l1 l2 l3
  exact ⟨h0.symm, h1.symm, h2.symm, h3.symm, h4.symm⟩

/-- a - b, and 2^256 more where it goes under. -/
def dif (n m : Nat) : Nat := if n < m then n + R - m else n - m
theorem dif_lt {n m : Nat} (hn : n < R) (hm : m < R) : dif n m < R := by unfold dif; split <;> omega
theorem sub1 {a b c s d : Nat} (ha : a < W) (hb : b < W) (hc : c ≤ 1) (e : s = (a + W - b - c) % W) (f : d = if a < b + c then 1 else 0) : a + W * d = b + s + c ∧ d ≤ 1 := by
  simp only [W] at *
  split at f <;> omega
theorem sub_parts (n m : Nat) (hn : n < R) (hm : m < R) (s0 c0 s1 c1 s2 c2 s3 c3 : Nat)
    (e0 : s0 = (lim n 0 + W - lim m 0 - 0) % W) (f0 : c0 = if lim n 0 < lim m 0 + 0 then 1 else 0)
    (e1 : s1 = (lim n 1 + W - lim m 1 - c0) % W) (f1 : c1 = if lim n 1 < lim m 1 + c0 then 1 else 0)
    (e2 : s2 = (lim n 2 + W - lim m 2 - c1) % W) (f2 : c2 = if lim n 2 < lim m 2 + c1 then 1 else 0)
    (e3 : s3 = (lim n 3 + W - lim m 3 - c2) % W) (f3 : c3 = if lim n 3 < lim m 3 + c2 then 1 else 0) :
    s0 = lim (dif n m) 0 ∧ s1 = lim (dif n m) 1 ∧ s2 = lim (dif n m) 2 ∧ s3 = lim (dif n m) 3 ∧ c3 = if n < m then 1 else 0 := by
  have hN := lim_sum4 hn; have hM := lim_sum4 hm
  obtain ⟨k0, g0⟩ := sub1 (lim_lt n 0) (lim_lt m 0) (Nat.zero_le _) e0 f0
  obtain ⟨k1, g1⟩ := sub1 (lim_lt n 1) (lim_lt m 1) g0 e1 f1
  obtain ⟨k2, g2⟩ := sub1 (lim_lt n 2) (lim_lt m 2) g1 e2 f2
  obtain ⟨k3, g3⟩ := sub1 (lim_lt n 3) (lim_lt m 3) g2 e3 f3
  generalize lim n 0 = n0 at *; generalize lim n 1 = n1 at *; generalize lim n 2 = n2 at *; generalize lim n 3 = n3 at *
  generalize lim m 0 = m0 at *; generalize lim m 1 = m1 at *; generalize lim m 2 = m2 at *; generalize lim m 3 = m3 at *
  have l0 : s0 < W := e0 ▸ Nat.mod_lt _ (by decide)
  have l1 : s1 < W := e1 ▸ Nat.mod_lt _ (by decide)
  have l2 : s2 < W := e2 ▸ Nat.mod_lt _ (by decide)
  have l3 : s3 < W := e3 ▸ Nat.mod_lt _ (by decide)
  clear e0 e1 e2 e3 f0 f1 f2 f3
  have key : n + R * c3 = m + (s0 + W * (s1 + W * (s2 + W * s3))) := by
    clear l0 l1 l2 l3 hn hm
    simp only [W, R] at *; omega
  have hS : s0 + W * (s1 + W * (s2 + W * s3)) < R := by
    clear key k0 k1 k2 k3 hN hM; simp only [W, R] at *; omega
  generalize hs : s0 + W * (s1 + W * (s2 + W * s3)) = s at *
  have hd : dif n m = s ∧ c3 = if n < m then 1 else 0 := by
    clear k0 k1 k2 k3 hN hM hs l0 l1 l2 l3
    unfold dif; simp only [R] at *
    have : c3 = 0 ∨ c3 = 1 := by omega
    rcases this with h | h <;> subst h <;> constructor <;> split <;> omega
  obtain ⟨h0, h1, h2, h3, h4⟩ := lim_of s0 s1 s2 s3 0 l0 l1 l2 l3
  simp only [Nat.mul_zero, Nat.add_zero, hs] at h0 h1 h2 h3
  rw [hd.1]
  exact ⟨h0.symm, h1.symm, h2.symm, h3.symm, hd.2⟩
end TollMont
