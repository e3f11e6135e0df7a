import Derived.Test.YtbnfanmolphliaaDoorMont
/-! Products over 2^256, by a modulus. -/
namespace TollMont
open TollNt

/-- one product with two numbers more, as the program makes it. -/
theorem mac_eq {x y t c : Nat} (hx : x < W) (hy : y < W) (ht : t < W) (hc : c < W) :
    ((x * y % W + t) % W + c) % W = (x * y + t + c) % W ∧ ((x * y / W + (x * y % W + t) / W) % W + ((x * y % W + t) % W + c) / W) % W = (x * y + t + c) / W := by
  have hp : x * y ≤ (W - 1) * (W - 1) := Nat.mul_le_mul (by omega) (by omega)
  generalize x * y = p at *
  simp only [W] at *
  constructor <;> omega

/-- five parts. -/
def v5 (a b c d e : Nat) : Nat := a + W * (b + W * (c + W * (d + W * e)))
def v4 (a b c d : Nat) : Nat := a + W * (b + W * (c + W * d))

theorem round_first {x a0 a1 a2 a3 t0 t1 t2 t3 t4 u0 u1 u2 u3 u4 u5 c1 c2 c3 c4 : Nat}
    (e0 : u0 = (x * a0 + t0 + 0) % W) (f0 : c1 = (x * a0 + t0 + 0) / W)
    (e1 : u1 = (x * a1 + t1 + c1) % W) (f1 : c2 = (x * a1 + t1 + c1) / W)
    (e2 : u2 = (x * a2 + t2 + c2) % W) (f2 : c3 = (x * a2 + t2 + c2) / W)
    (e3 : u3 = (x * a3 + t3 + c3) % W) (f3 : c4 = (x * a3 + t3 + c3) / W)
    (e4 : u4 = (t4 + c4) % W) (f4 : u5 = (t4 + c4) / W) :
    v5 t0 t1 t2 t3 t4 + x * v4 a0 a1 a2 a3 = u0 + W * (u1 + W * (u2 + W * (u3 + W * (u4 + W * u5)))) := by
  have k0 : x * a0 + t0 + 0 = u0 + W * c1 := by rw [e0, f0, Nat.mod_add_div]
  have k1 : x * a1 + t1 + c1 = u1 + W * c2 := by rw [e1, f1, Nat.mod_add_div]
  have k2 : x * a2 + t2 + c2 = u2 + W * c3 := by rw [e2, f2, Nat.mod_add_div]
  have k3 : x * a3 + t3 + c3 = u3 + W * c4 := by rw [e3, f3, Nat.mod_add_div]
  have k4 : t4 + c4 = u4 + W * u5 := by rw [e4, f4, Nat.mod_add_div]
  clear e0 e1 e2 e3 e4 f0 f1 f2 f3 f4
  unfold v5 v4
  have hd : x * (a0 + W * (a1 + W * (a2 + W * a3))) = x * a0 + W * (x * a1 + W * (x * a2 + W * (x * a3))) := by
    simp only [Nat.mul_add, Nat.mul_left_comm]
  rw [hd]
  generalize x * a0 = p0 at *; generalize x * a1 = p1 at *; generalize x * a2 = p2 at *; generalize x * a3 = p3 at *
  simp only [W] at *; omega

theorem round_second {q m0 m1 m2 m3 u0 u1 u2 u3 u4 u5 v0 v1 v2 v3 v4' c1 c2 c3 c4 k : Nat} (hq : (q * m0 + u0) % W = 0)
    (f0 : c1 = (q * m0 + u0) / W)
    (e1 : v0 = (q * m1 + u1 + c1) % W) (f1 : c2 = (q * m1 + u1 + c1) / W)
    (e2 : v1 = (q * m2 + u2 + c2) % W) (f2 : c3 = (q * m2 + u2 + c2) / W)
    (e3 : v2 = (q * m3 + u3 + c3) % W) (f3 : c4 = (q * m3 + u3 + c3) / W)
    (e4 : v3 = (u4 + c4) % W) (f4 : k = (u4 + c4) / W) (e5 : v4' = u5 + k) :
    u0 + W * (u1 + W * (u2 + W * (u3 + W * (u4 + W * u5)))) + q * v4 m0 m1 m2 m3 = W * v5 v0 v1 v2 v3 v4' := by
  have k0 : q * m0 + u0 = W * c1 := by have := Nat.mod_add_div (q * m0 + u0) W; rw [hq, ← f0] at this; omega
  have k1 : q * m1 + u1 + c1 = v0 + W * c2 := by rw [e1, f1, Nat.mod_add_div]
  have k2 : q * m2 + u2 + c2 = v1 + W * c3 := by rw [e2, f2, Nat.mod_add_div]
  have k3 : q * m3 + u3 + c3 = v2 + W * c4 := by rw [e3, f3, Nat.mod_add_div]
  have k4 : u4 + c4 = v3 + W * k := by rw [e4, f4, Nat.mod_add_div]
  clear hq e1 e2 e3 e4 f0 f1 f2 f3 f4
  unfold v5 v4
  have hd : q * (m0 + W * (m1 + W * (m2 + W * m3))) = q * m0 + W * (q * m1 + W * (q * m2 + W * (q * m3))) := by
    simp only [Nat.mul_add, Nat.mul_left_comm]
  rw [hd]
  generalize q * m0 = p0 at *; generalize q * m1 = p1 at *; generalize q * m2 = p2 at *; generalize q * m3 = p3 at *
  simp only [W] at *; omega

/-- q takes the lowest part away. -/
theorem q_zero {m0 neg u : Nat} (hneg : (neg * m0 + 1) % W = 0) : ((u * neg % W) * m0 + u) % W = 0 := by
  have h1 : ((u * neg % W) * m0 + u) % W = (u * (neg * m0 + 1)) % W := by
    rw [Nat.add_mod, Nat.mod_mul_mod, ← Nat.add_mod, Nat.mul_add, Nat.mul_one, Nat.mul_assoc]
  rw [h1, Nat.mul_mod, hneg, Nat.mul_zero, Nat.zero_mod]

theorem v5_lt {a b c d e : Nat} (h : v5 a b c d e < 2 * R) : e ≤ 1 := by
  unfold v5 at h; simp only [W, R] at h; omega

/-- what a round makes of T stays below a + m. -/
theorem round_lt {T T' a m x q : Nat} (hx : x < W) (hq : q < W) (hT : T < a + m) (h : T + x * a + q * m = W * T') : T' < a + m := by
  have h1 : x * a ≤ (W - 1) * a := Nat.mul_le_mul_right _ (by omega)
  have h2 : q * m ≤ (W - 1) * m := Nat.mul_le_mul_right _ (by omega)
  generalize x * a = p at *; generalize q * m = r at *
  simp only [W] at *; omega

/-- what the program makes of two numbers: their product over 2^256, by m. -/
def half (m : Nat) : Nat := (m + 1) / 2
def mred (m a b : Nat) : Nat := a * b * half m ^ 256 % m

theorem half_two {m : Nat} (hm : m % 2 = 1) (h1 : 1 < m) : half m * 2 % m = 1 := by
  have : half m * 2 = 1 + m * 1 := by unfold half; omega
  rw [this, Nat.add_mul_mod_self_left, Nat.mod_eq_of_lt h1]
theorem half_R {m : Nat} (hm : m % 2 = 1) (h1 : 1 < m) : R * half m ^ 256 % m = 1 := by
  rw [show R = 2 ^ 256 by decide, ← Nat.mul_pow, Nat.pow_mod, Nat.mul_comm 2, half_two hm h1, Nat.one_pow, Nat.mod_eq_of_lt h1]

theorem mul_R_cancel {m x y : Nat} (hm : m % 2 = 1) (h1 : 1 < m) (h : x * R % m = y % m) : x % m = y * half m ^ 256 % m := by
  have e : x * R * half m ^ 256 % m = x % m := by
    rw [Nat.mul_assoc, Nat.mul_mod, half_R hm h1, Nat.mul_one, Nat.mod_mod]
  rw [← e, Nat.mul_mod, h, ← Nat.mul_mod]

theorem mred_of {m a b r : Nat} (hm : m % 2 = 1) (h1 : 1 < m) (hr : r < m) (h : r * R % m = a * b % m) : r = mred m a b := by
  have := mul_R_cancel hm h1 h
  rwa [Nat.mod_eq_of_lt hr] at this

theorem mred_lt {m a b : Nat} (h1 : 1 < m) : mred m a b < m := Nat.mod_lt _ (by omega)
theorem mred_R {m a b : Nat} (hm : m % 2 = 1) (h1 : 1 < m) : mred m a b * R % m = a * b % m := by
  unfold mred
  rw [Nat.mod_mul_mod, Nat.mul_assoc, Nat.mul_comm (half m ^ 256), Nat.mul_mod, half_R hm h1, Nat.mul_one, Nat.mod_mod]

/-- all four rounds. -/
theorem redc_all {m a b T1 T2 T3 T4 q0 q1 q2 q3 b0 b1 b2 b3 : Nat} (hb : b = v4 b0 b1 b2 b3)
    (h1 : 0 + b0 * a + q0 * m = W * T1) (h2 : T1 + b1 * a + q1 * m = W * T2) (h3 : T2 + b2 * a + q2 * m = W * T3) (h4 : T3 + b3 * a + q3 * m = W * T4) :
    T4 * R = a * b + m * v4 q0 q1 q2 q3 := by
  subst hb; unfold v4
  have e1 : a * (b0 + W * (b1 + W * (b2 + W * b3))) = b0 * a + W * (b1 * a + W * (b2 * a + W * (b3 * a))) := by
    grind
  have e2 : m * (q0 + W * (q1 + W * (q2 + W * q3))) = q0 * m + W * (q1 * m + W * (q2 * m + W * (q3 * m))) := by
    grind
  rw [e1, e2]
  generalize b0 * a = p0 at *; generalize b1 * a = p1 at *; generalize b2 * a = p2 at *; generalize b3 * a = p3 at *
  generalize q0 * m = r0 at *; generalize q1 * m = r1 at *; generalize q2 * m = r2 at *; generalize q3 * m = r3 at *
  simp only [W, R] at *; omega

theorem v4_lt {a b c d : Nat} (ha : a < W) (hb : b < W) (hc : c < W) (hd : d < W) : v4 a b c d < R := by
  unfold v4; simp only [W, R] at *; omega

/-- the end: below twice the modulus. -/
theorem redc_end {m a b T Q : Nat} (hm : m % 2 = 1) (h1 : 1 < m) (ha : a < R) (hb : b < R) (hab : a < m ∨ b < m) (hQ : Q < R) (h : T * R = a * b + m * Q) :
    T < 2 * m ∧ T % m = mred m a b := by
  have hlt : a * b < m * R := by
    rcases hab with g | g
    · exact Nat.mul_lt_mul_of_lt_of_le g (Nat.le_of_lt hb) (by omega)
    · rw [Nat.mul_comm]; exact Nat.mul_lt_mul_of_lt_of_le g (Nat.le_of_lt ha) (by omega)
  have hmq : m * Q < m * R := Nat.mul_lt_mul_of_pos_left hQ (by omega)
  refine ⟨?_, ?_⟩
  · have : T * R < (2 * m) * R := by rw [h, Nat.mul_assoc, Nat.two_mul]; omega
    exact Nat.lt_of_mul_lt_mul_right this
  · refine mred_of hm h1 (Nat.mod_lt _ (by omega)) ?_
    rw [Nat.mod_mul_mod, h, Nat.add_mul_mod_self_left]

theorem r_form (a b r : Nat) : a * b * r * r = a * r * (b * r) := by grind

/-! ### the values: rests, products, powers -/
section
variable {m : Nat} (hm : m % 2 = 1) (h1 : 1 < m)
theorem mred_congr {a b a' b' : Nat} (ha : a % m = a' % m) (hb : b % m = b' % m) : mred m a b = mred m a' b' := by
  unfold mred
  rw [Nat.mul_mod, Nat.mul_mod a b, ha, hb, ← Nat.mul_mod a', ← Nat.mul_mod]
include hm h1
theorem mred_two (a : Nat) : mred m a (R * R % m) = a * R % m := by
  refine (mred_of hm h1 (Nat.mod_lt _ (by omega)) ?_).symm
  rw [Nat.mod_mul_mod, Nat.mul_mod_mod, Nat.mul_assoc]
theorem mred_one (a : Nat) : mred m (a * R % m) 1 = a % m := by
  refine (mred_of hm h1 (Nat.mod_lt _ (by omega)) ?_).symm
  rw [Nat.mod_mul_mod, Nat.mul_one, Nat.mod_mod]
theorem mred_mul (a b : Nat) : mred m (a * R % m) (b % m) = a * b % m := by
  refine (mred_of hm h1 (Nat.mod_lt _ (by omega)) ?_).symm
  rw [Nat.mod_mul_mod, Nat.mod_mul_mod, Nat.mul_mod_mod, Nat.mul_assoc, Nat.mul_assoc, Nat.mul_comm b]
theorem mred_form (a b : Nat) : mred m (a * R % m) (b * R % m) = a * b * R % m := by
  refine (mred_of hm h1 (Nat.mod_lt _ (by omega)) ?_).symm
  rw [Nat.mod_mul_mod, Nat.mod_mul_mod, Nat.mul_mod_mod, r_form]
end

/-! ### -1/m by 2^64 -/
theorem newton_int {a x y K w e j v : Int} (he : a * x - 1 = K * e) (hj : y = x * (2 - a * x) + w * j) (hw : w = K * K * v) :
    a * y - 1 = K * K * (-(e * e) + a * v * j) := by
  have hax : a * x = 1 + K * e := by grind
  have : a * y - 1 = (a * x) * (2 - (a * x)) - 1 + a * (w * j) := by grind
  rw [this, hax, hw]
  grind
theorem newton_y {x z y w g1 g2 g3 ax r : Int} (t1 : r + w * g1 = ax) (t2 : z + w * g2 = 2 + w - r) (t3 : y + w * g3 = x * z) :
    y = x * (2 - ax) + w * (x * (1 + g1 - g2) - g3) := by
  have z1 : z = 2 - ax + w * (1 + g1 - g2) := by grind
  rw [z1] at t3
  grind
theorem mod_dvd {a k : Nat} : (a % k = 1 % k) ↔ (k : Int) ∣ (a : Int) - 1 := by
  constructor
  · intro h
    have h' : ((a % k : Nat) : Int) = ((1 % k : Nat) : Int) := by rw [h]
    rw [Int.natCast_emod, Int.natCast_emod] at h'
    exact Int.dvd_of_emod_eq_zero (Int.emod_eq_emod_iff_emod_sub_eq_zero.1 h')
  · intro h
    have h' := Int.emod_eq_emod_iff_emod_sub_eq_zero.2 (Int.emod_eq_zero_of_dvd h)
    refine Int.natCast_inj.1 ?_
    rw [Int.natCast_emod, Int.natCast_emod]; exact h'
theorem newton {a K x w : Nat} (hw : 0 < w) (hk : K * K ∣ w) (h : a * x % K = 1 % K) :
    a * (x * ((2 + w - a * x % w) % w) % w) % (K * K) = 1 % (K * K) := by
  have he := mod_dvd.1 h
  obtain ⟨e, he⟩ := he
  obtain ⟨v, hv⟩ := hk
  have hlt : a * x % w < w := Nat.mod_lt _ hw
  have d1 := Nat.mod_add_div (a * x) w
  have d2 := Nat.mod_add_div (2 + w - a * x % w) w
  have d3 := Nat.mod_add_div (x * ((2 + w - a * x % w) % w)) w
  generalize a * x / w = g1 at *
  generalize (2 + w - a * x % w) / w = g2 at *
  generalize (2 + w - a * x % w) % w = z at *
  generalize x * z / w = g3 at *
  generalize x * z % w = y at *
  generalize a * x % w = r at *
  have t2' : z + w * g2 + r = 2 + w := by omega
  have hy := newton_y (x := x) (z := z) (y := y) (w := w) (g1 := g1) (g2 := g2) (g3 := g3) (ax := a * x) (r := r)
    (by exact_mod_cast d1) (by have : ((z + w * g2 + r : Nat) : Int) = ((2 + w : Nat) : Int) := by rw [t2']
                               push_cast at this; omega) (by exact_mod_cast d3)
  have := newton_int (a := a) (x := x) (y := y) (K := K) (w := w) (e := e) (v := v) (by push_cast at he; exact he) hy (by exact_mod_cast hv)
  refine mod_dvd.2 ⟨-(e * e) + ↑a * ↑v * (↑x * (1 + ↑g1 - ↑g2) - ↑g3), ?_⟩
  push_cast
  exact this

/-- six steps. -/
def inv64 (a : Nat) : Nat → Nat
  | 0 => 1
  | i + 1 => inv64 a i * ((2 + W - a * inv64 a i % W) % W) % W
theorem inv64_six {a : Nat} (ha : a % 2 = 1) : a * inv64 a 6 % W = 1 := by
  have s0 : a * inv64 a 0 % 2 = 1 % 2 := by simp only [inv64]; omega
  have s1 := newton (K := 2) (w := W) (by decide) (by decide) s0
  have s2 := newton (K := 4) (w := W) (by decide) (by decide) (show a * inv64 a 1 % 4 = 1 % 4 from s1)
  have s3 := newton (K := 16) (w := W) (by decide) (by decide) (show a * inv64 a 2 % 16 = 1 % 16 from s2)
  have s4 := newton (K := 256) (w := W) (by decide) (by decide) (show a * inv64 a 3 % 256 = 1 % 256 from s3)
  have s5 := newton (K := 65536) (w := W) (by decide) (by decide) (show a * inv64 a 4 % 65536 = 1 % 65536 from s4)
  have s6 := newton (K := 4294967296) (w := W) (by decide) (by decide) (show a * inv64 a 5 % 4294967296 = 1 % 4294967296 from s5)
  exact s6
def neg64 (a : Nat) : Nat := W - inv64 a 6
theorem inv64_lt (a i : Nat) : inv64 a i < W := by
  cases i with
  | zero => simp only [inv64]; decide
  | succ i => simp only [inv64]; exact Nat.mod_lt _ (by decide)
theorem inv64_pos {a : Nat} (ha : a % 2 = 1) : 0 < inv64 a 6 := by
  have h := inv64_six ha
  apply Nat.pos_of_ne_zero
  intro h0
  rw [h0, Nat.mul_zero, Nat.zero_mod] at h
  exact absurd h (by decide)
theorem neg_mod {a x w : Nat} (hx : x ≤ w) (h : a * x % w = 1 % w) : ((w - x) * a + 1) % w = 0 := by
  have h1 : (w - x) * a + a * x = w * a := by rw [Nat.mul_comm a x, ← Nat.add_mul, Nat.sub_add_cancel hx]
  have h2 : ((w - x) * a + 1) % w = ((w - x) * a + a * x) % w := by rw [Nat.add_mod, ← h, ← Nat.add_mod]
  rw [h2, h1, Nat.mul_mod_right]
theorem neg64_eq {a : Nat} (ha : a % 2 = 1) : (neg64 a * a + 1) % W = 0 :=
  neg_mod (Nat.le_of_lt (inv64_lt a 6)) (inv64_six ha)
theorem neg64_lt {a : Nat} (ha : a % 2 = 1) : neg64 a < W := by
  have := inv64_pos ha; unfold neg64; simp only [W] at *; omega
end TollMont
