import Derived.Test.YtbnfanmolphliaaDoorCu
/-! Rests, products, sums, differences, by contract. -/
namespace Go.Proofs.YtbnfanmolphliaaDoor
open Go.RowKit Go.Toll TollMont
/-- a modulus. -/
structure Md (m : Nat) : Prop where
  odd : m % 2 = 1
  gt : 1 < m
  lt : m < R
theorem modR {m : Nat} (h : Md m) (x : Nat) : x % m < R := Nat.lt_trans (Nat.mod_lt _ (by have := h.gt; omega)) h.lt
theorem N_one : N 1 = .agg #[.int .u64 1, .int .u64 0, .int .u64 0, .int .u64 0] := by
  unfold N; rw [show lim 1 0 = 1 by decide, show lim 1 1 = 0 by decide, show lim 1 2 = 0 by decide, show lim 1 3 = 0 by decide]; rfl
theorem N_zero : N 0 = .agg #[.int .u64 0, .int .u64 0, .int .u64 0, .int .u64 0] := by
  unfold N; rw [show lim 0 0 = 0 by decide, show lim 0 1 = 0 by decide, show lim 0 2 = 0 by decide, show lim 0 3 = 0 by decide]; rfl
variable {m b : Nat}
theorem rest_ok (h : Md m) {n : Nat} (hn : n < R) (w : World) (ha : At w b m) : Calls Tryd.prog 62 #[ptr b, N n] w fun e w' => e = .returned (N (n % m)) ∧ Gw w w' := by
  have h0 : 0 < m := by have := h.gt; omega
  have e1 : mred m n (R * R % m) = n * R % m := mred_two h.odd h.gt n
  have e2 : mred m (n * R % m) 1 = n % m := mred_one h.odd h.gt n
  have A : ∀ w', Gw w w' → Calls Tryd.prog 63 #[ptr b, N n, N (R * R % m)] w' fun e w'' => e = .returned (N (n * R % m)) ∧ Gw w' w'' := fun w' hw => by
    have := reduce_ok h.odd h.gt h.lt hn (modR h (R * R)) (.inr (Nat.mod_lt _ h0)) w' (ha.gw hw)
    rw [e1] at this; exact this
  have B : ∀ w', Gw w w' → Calls Tryd.prog 63 #[ptr b, N (n * R % m), .agg #[.int .u64 1, .int .u64 0, .int .u64 0, .int .u64 0]] w' fun e w'' => e = .returned (N (n % m)) ∧ Gw w' w'' := fun w' hw => by
    have := reduce_ok h.odd h.gt h.lt (modR h (n * R)) (by decide : 1 < R) (.inl (Nat.mod_lt _ h0)) w' (ha.gw hw)
    rw [e2, N_one] at this; exact this
  exact rest_core b _ _ _ _ _ _ _ _ _ _ _ _ _ _ _ _ w ha.two A B
theorem mul_ok (h : Md m) {x y : Nat} (hx : x < R) (hy : y < R) (w : World) (ha : At w b m) : Calls Tryd.prog 54 #[ptr b, N x, N y] w fun e w' => e = .returned (N (x * y % m)) ∧ Gw w w' := by
  have h0 : 0 < m := by have := h.gt; omega
  have e1 : mred m x (R * R % m) = x * R % m := mred_two h.odd h.gt x
  have e2 : mred m (x * R % m) (y % m) = x * y % m := mred_mul h.odd h.gt x y
  have A : ∀ w', Gw w w' → Calls Tryd.prog 63 #[ptr b, N x, N (R * R % m)] w' fun e w'' => e = .returned (N (x * R % m)) ∧ Gw w' w'' := fun w' hw => by
    have := reduce_ok h.odd h.gt h.lt hx (modR h (R * R)) (.inr (Nat.mod_lt _ h0)) w' (ha.gw hw)
    rw [e1] at this; exact this
  have B : ∀ w', Gw w w' → Calls Tryd.prog 63 #[ptr b, N (x * R % m), N (y % m)] w' fun e w'' => e = .returned (N (x * y % m)) ∧ Gw w' w'' := fun w' hw => by
    have := reduce_ok h.odd h.gt h.lt (modR h (x * R)) (modR h y) (.inl (Nat.mod_lt _ h0)) w' (ha.gw hw)
    rw [e2] at this; exact this
  exact mul_core b _ _ _ _ _ _ _ _ _ _ _ _ _ _ _ _ _ _ _ _ _ _ _ _ w ha.two A (fun w' hw => rest_ok h hy w' (ha.gw hw)) B
theorem lim_R (n : Nat) : N (n % R) = N n := by
  have hl := lim_sum n
  obtain ⟨q0, q1, q2, q3, _⟩ := lim_of (lim n 0) (lim n 1) (lim n 2) (lim n 3) 0 (lim_lt _ _) (lim_lt _ _) (lim_lt _ _) (lim_lt _ _)
  have e : n % R = lim n 0 + W * (lim n 1 + W * (lim n 2 + W * (lim n 3 + W * 0))) := by
    have h0 := lim_lt n 0
    have h1 := lim_lt n 1
    have h2 := lim_lt n 2
    have h3 := lim_lt n 3
    have hd := Nat.mod_add_div n R
    generalize n / R = d at *
    generalize lim n 0 = a0 at *; generalize lim n 1 = a1 at *; generalize lim n 2 = a2 at *; generalize lim n 3 = a3 at *
    simp only [W, R] at *
    omega
  unfold N
  rw [e, q0, q1, q2, q3]
theorem shrunk {m T o : Nat} (hm : m < R) (_hT : T < R) (ho : o = 0 ∨ o = 1) (hlt : T + R * o < 2 * m) : (if o = 0 ∧ T < m then T else dif T m) = (T + R * o) % m := by
  rcases ho with rfl | rfl
  · simp only [Nat.mul_zero, Nat.add_zero] at *
    by_cases hl : T < m
    · rw [if_pos ⟨trivial, hl⟩, Nat.mod_eq_of_lt hl]
    · rw [if_neg (fun c => hl c.2)]
      unfold dif
      rw [if_neg hl, Nat.mod_eq_sub_mod (by omega), Nat.mod_eq_of_lt (by omega)]
  · rw [if_neg (fun c => by cases c.1)]
    unfold dif
    rw [if_pos (by omega), Nat.mul_one, Nat.mod_eq_sub_mod (by omega), Nat.mod_eq_of_lt (by omega)]
theorem madd_ok (h : Md m) {x y : Nat} (hx : x < R) (hy : y < R) (w : World) (ha : At w b m) : Calls Tryd.prog 53 #[ptr b, N x, N y] w fun e w' => e = .returned (N ((x + y) % m)) ∧ Gw w w' := by
  have h0 : 0 < m := by have := h.gt; omega
  have lx : x % m < m := Nat.mod_lt _ h0
  have ly : y % m < m := Nat.mod_lt _ h0
  have hm := h.lt
  have e : (x + y) % m = ((x % m + y % m) % R + R * ((x % m + y % m) / R)) % m := by rw [Nat.mod_add_div, ← Nat.add_mod]
  have A : ∀ w', Gw w w' → Calls Tryd.prog 62 #[ptr b, N x] w' fun e w'' => e = .returned (N (x % m)) ∧ Gw w' w'' := fun w' hw => rest_ok h hx w' (ha.gw hw)
  have B : ∀ w', Gw w w' → Calls Tryd.prog 62 #[ptr b, N y] w' fun e w'' => e = .returned (N (y % m)) ∧ Gw w' w'' := fun w' hw => rest_ok h hy w' (ha.gw hw)
  have C : ∀ w', Gw w w' → Calls Tryd.prog 60 #[N (x % m), N (y % m)] w' fun e w'' => e = .returned (.tuple #[N (x % m + y % m), .int .u64 ((x % m + y % m) / R : Nat)]) ∧ Gw w' w'' := fun w' _ => add_ok _ _ (by omega) (by omega) w'
  have ho : (x % m + y % m) / R = 0 ∨ (x % m + y % m) / R = 1 := by simp only [R] at *; omega
  have hr := Nat.mod_lt (x % m + y % m) (show 0 < R by decide)
  have hlt : (x % m + y % m) % R + R * ((x % m + y % m) / R) < 2 * m := by rw [Nat.mod_add_div]; omega
  have D : ∀ w', Gw w w' → Calls Tryd.prog 59 #[ptr b, N (x % m + y % m), .int .u64 ((x % m + y % m) / R : Nat)] w' fun e w'' => e = .returned (N ((x + y) % m)) ∧ Gw w' w'' := fun w' hw => by
    have := shrink_ok b m ((x % m + y % m) % R) ((x % m + y % m) / R) hm hr ho w' (ha.gw hw).m
    rw [shrunk hm hr ho hlt, ← e, lim_R] at this
    exact this
  rcases ho with o | o
  · rw [o] at C D
    exact madd_0 b _ _ _ _ _ _ _ _ _ _ _ _ _ _ _ _ _ _ _ _ _ _ _ _ w A B C D
  · rw [o] at C D
    exact madd_1 b _ _ _ _ _ _ _ _ _ _ _ _ _ _ _ _ _ _ _ _ _ _ _ _ w A B C D
theorem msub_ok (h : Md m) {x y : Nat} (hx : x < R) (hy : y < R) (w : World) (ha : At w b m) : Calls Tryd.prog 55 #[ptr b, N x, N y] w fun e w' => e = .returned (N (subm m x y)) ∧ Gw w w' := by
  have h0 : 0 < m := by have := h.gt; omega
  have lx : x % m < m := Nat.mod_lt _ h0
  have ly : y % m < m := Nat.mod_lt _ h0
  have hm := h.lt
  have A : ∀ w', Gw w w' → Calls Tryd.prog 62 #[ptr b, N x] w' fun e w'' => e = .returned (N (x % m)) ∧ Gw w' w'' := fun w' hw => rest_ok h hx w' (ha.gw hw)
  have B : ∀ w', Gw w w' → Calls Tryd.prog 62 #[ptr b, N y] w' fun e w'' => e = .returned (N (y % m)) ∧ Gw w' w'' := fun w' hw => rest_ok h hy w' (ha.gw hw)
  have C : ∀ w', Gw w w' → Calls Tryd.prog 61 #[N (x % m), N (y % m)] w' fun e w'' => e = .returned (.tuple #[N (dif (x % m) (y % m)), .int .u64 (if x % m < y % m then 1 else 0 : Nat)]) ∧ Gw w' w'' := fun w' _ => sub_ok _ _ (by omega) (by omega) w'
  have D : ∀ w', Gw w w' → Calls Tryd.prog 60 #[N (dif (x % m) (y % m)), N m] w' fun e w'' => e = .returned (.tuple #[N (dif (x % m) (y % m) + m), .int .u64 ((dif (x % m) (y % m) + m) / R : Nat)]) ∧ Gw w' w'' := fun w' _ => add_ok _ _ (dif_lt (by omega) (by omega)) hm w'
  by_cases hlt : x % m < y % m
  · have e : N (dif (x % m) (y % m) + m) = N (subm m x y) := by
      rw [← lim_R, ← lim_R (subm m x y)]
      congr 1
      unfold dif subm
      rw [if_pos hlt, Nat.mod_eq_of_lt (a := x % m + m - y % m) (by omega)]
      generalize x % m = p at *; generalize y % m = q at *
      simp only [R] at *; omega
    rw [e] at D
    simp only [if_pos hlt] at C
    exact msub_1 b _ _ _ _ _ _ _ _ _ _ _ _ _ _ _ _ _ _ _ _ _ _ _ _ _ _ _ _ _ w ha.m A B C D
  · have e : dif (x % m) (y % m) = subm m x y := by
      unfold dif subm
      rw [if_neg hlt, show x % m + m - y % m = x % m - y % m + m by omega, Nat.add_mod_right]
      exact (Nat.mod_eq_of_lt (by omega)).symm
    simp only [if_neg hlt] at C
    rw [e] at C D
    exact msub_0 b _ _ _ _ _ _ _ _ _ _ _ _ _ _ _ _ _ _ _ _ _ _ _ _ _ _ _ _ _ w ha.m A B C D
end Go.Proofs.YtbnfanmolphliaaDoor
