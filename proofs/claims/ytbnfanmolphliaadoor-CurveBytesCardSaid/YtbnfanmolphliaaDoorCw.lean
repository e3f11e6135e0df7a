import Derived.Test.YtbnfanmolphliaaDoorCv
import Derived.Test.YtbnfanmolphliaaDoorTg
/-! Halves, by contract. -/
namespace Go.Proofs.YtbnfanmolphliaaDoor
open Go.RowKit Go.Toll TollMont
def or64 (x y : Nat) : Nat := x % 18446744073709551616 ||| y % 18446744073709551616
def up63 (x : Nat) : Nat := x * 9223372036854775808 % 18446744073709551616
theorem or_bit {a d : Nat} (ha : a < W) (hd : d = 0 ∨ d = 1) : or64 (a / 2) (up63 d) = a / 2 + 9223372036854775808 * d := by
  have h1 : a / 2 < 9223372036854775808 := by simp only [W] at ha; omega
  have h2 : a / 2 % 18446744073709551616 = a / 2 := Nat.mod_eq_of_lt (by omega)
  rcases hd with rfl | rfl
  · simp [or64, up63, h2]
  · have := Nat.two_pow_add_eq_or_of_lt (i := 63) (b := a / 2) (by simpa using h1) 1
    simp only [or64, up63, h2]
    rw [show 1 * 9223372036854775808 % 18446744073709551616 % 18446744073709551616 = 2 ^ 63 * 1 by decide, Nat.or_comm, ← this]
    omega
theorem half_parts {n c : Nat} (hn : n < R) (hc : c = 0 ∨ c = 1) :
    or64 (lim n 0 / 2) (up63 (lim n 1 % 2)) = lim ((n + R * c) / 2) 0 ∧ or64 (lim n 1 / 2) (up63 (lim n 2 % 2)) = lim ((n + R * c) / 2) 1 ∧
      or64 (lim n 2 / 2) (up63 (lim n 3 % 2)) = lim ((n + R * c) / 2) 2 ∧ or64 (lim n 3 / 2) (up63 c) = lim ((n + R * c) / 2) 3 := by
  have h0 := lim_lt n 0
  have h1 := lim_lt n 1
  have h2 := lim_lt n 2
  have h3 := lim_lt n 3
  have b01 : ∀ x : Nat, x % 2 = 0 ∨ x % 2 = 1 := fun x => by omega
  rw [or_bit h0 (b01 _), or_bit h1 (b01 _), or_bit h2 (b01 _), or_bit h3 hc]
  have hs := lim_sum4 hn
  have e : (n + R * c) / 2 = (lim n 0 / 2 + 9223372036854775808 * (lim n 1 % 2)) + W * ((lim n 1 / 2 + 9223372036854775808 * (lim n 2 % 2)) + W * ((lim n 2 / 2 + 9223372036854775808 * (lim n 3 % 2)) + W * ((lim n 3 / 2 + 9223372036854775808 * c) + W * 0))) := by
    generalize lim n 0 = a0 at *; generalize lim n 1 = a1 at *; generalize lim n 2 = a2 at *; generalize lim n 3 = a3 at *
    subst hs
    clear hn
    simp only [W, R] at *
    rcases hc with rfl | rfl <;> omega
  obtain ⟨q0, q1, q2, q3, _⟩ := lim_of (lim n 0 / 2 + 9223372036854775808 * (lim n 1 % 2)) (lim n 1 / 2 + 9223372036854775808 * (lim n 2 % 2)) (lim n 2 / 2 + 9223372036854775808 * (lim n 3 % 2)) (lim n 3 / 2 + 9223372036854775808 * c) 0
    (by simp only [W] at *; omega) (by simp only [W] at *; omega) (by simp only [W] at *; omega) (by simp only [W] at *; omega)
  rw [e]
  exact ⟨q0.symm, q1.symm, q2.symm, q3.symm⟩
theorem half_ok {n c : Nat} (hn : n < R) (hc : c = 0 ∨ c = 1) (w : World) : Calls Tryd.prog 64 #[N n, .int .u64 (c : Nat)] w fun e w' => e = .returned (N ((n + R * c) / 2)) ∧ Gw w w' := by
  obtain ⟨e0, e1, e2, e3⟩ := half_parts hn hc
  have h := half_core (fun x => x % 2) (fun x => x / 2) up63 or64 (lim n 0) (lim n 1) (lim n 2) (lim n 3) c w (fun x p q w => b_and x p q w) (fun x p q w => b_shr1 x p q w) (fun x p q w => b_shl63 x p q w) (fun x y p q w => b_or x y p q w)
  rw [e0, e1, e2, e3] at h
  exact h
theorem lim_par (x : Nat) : lim x 0 % 2 = x % 2 := by rw [lim_zero]; simp only [W]; omega
theorem halve_ok {m b x : Nat} (hm : m < R) (hx : x < R) (w : World) (ha : At w b m) : Calls Tryd.prog 65 #[ptr b, N x] w fun e w' => e = .returned (N (TollMont.halve m x)) ∧ Gw w w' := by
  unfold TollMont.halve
  by_cases hp : x % 2 = 0
  · rw [if_pos hp]
    have A : ∀ w', Gw w w' → Calls Tryd.prog 64 #[N x, .int .u64 0] w' fun e w'' => e = .returned (N (x / 2)) ∧ Gw w' w'' := fun w' _ => by
      have := half_ok hx (.inl rfl : (0 : Nat) = 0 ∨ (0 : Nat) = 1) w'
      rw [Nat.mul_zero, Nat.add_zero] at this
      exact this
    exact halve_0 b _ _ _ _ _ _ _ _ w (fun _ p q w => by have := b_and (lim x 0) p q w; rw [lim_par, hp] at this; exact this) A
  · rw [if_neg hp]
    have hp1 : x % 2 = 1 := by omega
    have ho : (x + m) / R = 0 ∨ (x + m) / R = 1 := by simp only [R] at *; omega
    have A : ∀ w', Gw w w' → Calls Tryd.prog 60 #[N x, N m] w' fun e w'' => e = .returned (.tuple #[N (x + m), .int .u64 ((x + m) / R : Nat)]) ∧ Gw w' w'' := fun w' _ => add_ok _ _ hx hm w'
    have B : ∀ w', Gw w w' → Calls Tryd.prog 64 #[N (x + m), .int .u64 ((x + m) / R : Nat)] w' fun e w'' => e = .returned (N ((x + m) / 2)) ∧ Gw w' w'' := fun w' _ => by
      have := half_ok (Nat.mod_lt (x + m) (show 0 < R by decide)) ho w'
      rw [Nat.mod_add_div, lim_R] at this
      exact this
    exact halve_1 b _ _ _ _ _ _ _ _ _ _ _ _ _ _ _ _ _ w ha.m (fun _ p q w => by have := b_and (lim x 0) p q w; rw [lim_par, hp1] at this; exact this) A B
end Go.Proofs.YtbnfanmolphliaaDoor
