import Derived.Test.YtbnfanmolphliaaDoorRedc
/-! One round of the reduction, as the code makes it. -/
namespace TollMont
def macL (x y t c : Nat) : Nat := (x * y + t + c) % W
def macH (x y t c : Nat) : Nat := (x * y + t + c) / W
theorem macL_lt (x y t c : Nat) : macL x y t c < W := Nat.mod_lt _ (by decide)
theorem macH_lt {x y t c : Nat} (hx : x < W) (hy : y < W) (ht : t < W) (hc : c < W) : macH x y t c < W := by
  have hp : x * y ≤ (W - 1) * (W - 1) := Nat.mul_le_mul (by omega) (by omega)
  unfold macH
  generalize x * y = p at *
  simp only [W] at *
  omega
/-- what a round keeps: k parts of c are done. -/
structure RedAt (m a c k t0 t1 t2 t3 t4 : Nat) : Prop where
  b0 : t0 < W
  b1 : t1 < W
  b2 : t2 < W
  b3 : t3 < W
  b4 : t4 < W
  lt : v5 t0 t1 t2 t3 t4 < a + m
  eq : ∃ Q, Q < W ^ k ∧ v5 t0 t1 t2 t3 t4 * W ^ k = a * (c % W ^ k) + m * Q
theorem RedAt.start {m a c : Nat} (hm : 0 < m) : RedAt m a c 0 0 0 0 0 0 :=
  ⟨by decide, by decide, by decide, by decide, by decide, by simp only [v5]; omega, 0, by simp, by simp [v5, Nat.mod_one]⟩
theorem mod_next (c k : Nat) : c % W ^ (k + 1) = c % W ^ k + W ^ k * lim c k := by
  unfold lim; rw [Nat.pow_succ, Nat.mod_mul]
theorem RedAt.step {m a c k t0 t1 t2 t3 t4 ng x u0 u1 u2 u3 u4 u5 c1 c2 c3 c4 q d1 d2 d3 d4 v0 v1 v2 v3 e v4' : Nat} (ha : a < R) (hmR : m < R) (hneg : (ng * lim m 0 + 1) % W = 0)
    (h : RedAt m a c k t0 t1 t2 t3 t4) (hx : x = lim c k)
    (e0 : u0 = macL x (lim a 0) t0 0) (f0 : c1 = macH x (lim a 0) t0 0) (e1 : u1 = macL x (lim a 1) t1 c1) (f1 : c2 = macH x (lim a 1) t1 c1)
    (e2 : u2 = macL x (lim a 2) t2 c2) (f2 : c3 = macH x (lim a 2) t2 c2) (e3 : u3 = macL x (lim a 3) t3 c3) (f3 : c4 = macH x (lim a 3) t3 c3)
    (e4 : u4 = (t4 + c4) % W) (f4 : u5 = (t4 + c4) / W) (hq : q = u0 * ng % W)
    (g0 : d1 = macH q (lim m 0) u0 0) (g1 : v0 = macL q (lim m 1) u1 d1) (i1 : d2 = macH q (lim m 1) u1 d1) (g2 : v1 = macL q (lim m 2) u2 d2) (i2 : d3 = macH q (lim m 2) u2 d2)
    (g3 : v2 = macL q (lim m 3) u3 d3) (i3 : d4 = macH q (lim m 3) u3 d3) (g4 : v3 = (u4 + d4) % W) (i4 : e = (u4 + d4) / W) (hv : v4' = (u5 + e) % W) :
    RedAt m a c (k + 1) v0 v1 v2 v3 v4' := by
  have hxW : x < W := by rw [hx]; exact lim_lt _ _
  have hqW : q < W := by rw [hq]; exact Nat.mod_lt _ (by decide)
  have l1 : c1 < W := by rw [f0]; exact macH_lt hxW (lim_lt _ _) h.b0 (by decide)
  have l2 : c2 < W := by rw [f1]; exact macH_lt hxW (lim_lt _ _) h.b1 l1
  have l3 : c3 < W := by rw [f2]; exact macH_lt hxW (lim_lt _ _) h.b2 l2
  have l4 : c4 < W := by rw [f3]; exact macH_lt hxW (lim_lt _ _) h.b3 l3
  have r1 : d1 < W := by rw [g0]; exact macH_lt hqW (lim_lt _ _) (by rw [e0]; exact macL_lt _ _ _ _) (by decide)
  have r2 : d2 < W := by rw [i1]; exact macH_lt hqW (lim_lt _ _) (by rw [e1]; exact macL_lt _ _ _ _) r1
  have r3 : d3 < W := by rw [i2]; exact macH_lt hqW (lim_lt _ _) (by rw [e2]; exact macL_lt _ _ _ _) r2
  have r4 : d4 < W := by rw [i3]; exact macH_lt hqW (lim_lt _ _) (by rw [e3]; exact macL_lt _ _ _ _) r3
  have hu4 : u4 < W := by rw [e4]; exact Nat.mod_lt _ (by decide)
  have hu5 : u5 ≤ 1 := by have := h.b4; rw [f4]; simp only [W] at *; omega
  have he : e ≤ 1 := by rw [i4]; simp only [W] at *; omega
  have hv4 : v4' = u5 + e := by rw [hv]; exact Nat.mod_eq_of_lt (by simp only [W]; omega)
  have A := round_first (x := x) (a0 := lim a 0) (a1 := lim a 1) (a2 := lim a 2) (a3 := lim a 3) (t0 := t0) (t1 := t1) (t2 := t2) (t3 := t3) (t4 := t4) e0 f0 e1 f1 e2 f2 e3 f3 e4 f4
  have B := round_second (q := q) (m0 := lim m 0) (m1 := lim m 1) (m2 := lim m 2) (m3 := lim m 3) (u0 := u0) (u1 := u1) (u2 := u2) (u3 := u3) (u4 := u4) (u5 := u5) (by rw [hq]; exact q_zero hneg) g0 g1 i1 g2 i2 g3 i3 g4 i4 hv4
  rw [← A] at B
  have hA : v4 (lim a 0) (lim a 1) (lim a 2) (lim a 3) = a := (lim_sum4 ha).symm
  have hM : v4 (lim m 0) (lim m 1) (lim m 2) (lim m 3) = m := (lim_sum4 hmR).symm
  rw [hA, hM] at B
  obtain ⟨Q, hQ, hE⟩ := h.eq
  refine ⟨by rw [g1]; exact macL_lt _ _ _ _, by rw [g2]; exact macL_lt _ _ _ _, by rw [g3]; exact macL_lt _ _ _ _, by rw [g4]; exact Nat.mod_lt _ (by decide), by rw [hv]; exact Nat.mod_lt _ (by decide), round_lt hxW hqW h.lt B, Q + W ^ k * q, ?_, ?_⟩
  · have : W ^ k * q ≤ W ^ k * (W - 1) := Nat.mul_le_mul_left _ (by omega)
    have h2 : W ^ (k + 1) = W ^ k + W ^ k * (W - 1) := by
      rw [Nat.pow_succ]
      have : W ^ k * W = W ^ k * (1 + (W - 1)) := by congr 1
      rw [this, Nat.mul_add, Nat.mul_one]
    omega
  · rw [mod_next, ← hx, Nat.pow_succ, Nat.mul_comm (W ^ k) W, ← Nat.mul_assoc, Nat.mul_comm _ W, ← B]
    have : (v5 t0 t1 t2 t3 t4 + x * a + q * m) * W ^ k = v5 t0 t1 t2 t3 t4 * W ^ k + x * a * W ^ k + q * m * W ^ k := by rw [Nat.add_mul, Nat.add_mul]
    rw [this, hE]
    grind
end TollMont
