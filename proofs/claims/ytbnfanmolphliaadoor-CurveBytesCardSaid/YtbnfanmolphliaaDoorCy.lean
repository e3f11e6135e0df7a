import Derived.Test.YtbnfanmolphliaaDoorCx
import Derived.Test.YtbnfanmolphliaaDoorTm
/-! New moduli, by contract. -/
namespace Go.Proofs.YtbnfanmolphliaaDoor
open Go.RowKit Go.Toll TollMont
def mu64 (a x : Nat) : Nat := a * x % 18446744073709551616
def s264 (x : Nat) : Nat := (((2 : Nat) : Int) - (x : Int)) % 18446744073709551616 |>.toNat
def mm64 (x y : Nat) : Nat := x * y % 18446744073709551616
theorem newton_step (a i : Nat) : mm64 (inv64 a i) (s264 (mu64 a (inv64 a i))) = inv64 a (i + 1) := by
  have hl : a * inv64 a i % 18446744073709551616 < 18446744073709551616 := Nat.mod_lt _ (by decide)
  have e : s264 (mu64 a (inv64 a i)) = (2 + W - a * inv64 a i % W) % W := by
    unfold s264 mu64
    simp only [W]
    generalize a * inv64 a i % 18446744073709551616 = y at *
    omega
  rw [e]; rfl
theorem right_ne {m : Nat} (hm : m < R) (h : m ≠ 1) : decide (lim m 0 = 1 ∧ lim m 1 = 0 ∧ lim m 2 = 0 ∧ lim m 3 = 0) = false := decide_eq_false fun c => h ((is_one hm).1 c)
def p2 (a k : Nat) : Nat := a ^ k
theorem p2_succ (a k : Nat) : p2 a (k + 1) = p2 a k * a := Nat.pow_succ a k
theorem p2_add (a j k : Nat) : p2 a (j + k) = p2 a j * p2 a k := Nat.pow_add a j k
variable {m : Nat}
theorem new_ok (h : Md m) (w : World) : Calls Tryd.prog 51 #[N m] w fun e w' => ∃ g, w.heap.size ≤ g ∧ e = .returned (.tuple #[ptr g, .int .i64 0]) ∧ w'.heap[g]? = some (.cells (modc m).toArray 83 (0, 0)) ∧ Gw w w' := by
  have h0 : 0 < m := by have := h.gt; omega
  have hm := h.lt
  have hodd : lim m 0 % 2 = 1 := (lim_par m).trans h.odd
  have pw : ∀ i, (p2 2 i % m + p2 2 i % m) % m = p2 2 (i + 1) % m := fun i => by rw [← Nat.add_mod, p2_succ, Nat.mul_two]
  have pR : p2 2 256 = R := by unfold p2; decide
  have ho : ∀ x, x < m → (x + x) / R = 0 ∨ (x + x) / R = 1 := fun x hx => by simp only [R] at *; omega
  have key := new_core lim m 1 0 (neg64 (lim m 0)) w (mu64 (lim m 0)) s264 mm64 (fun x => x + x) (fun x => (x + x) / R) (fun x => (x + x) % m)
    (fun i x o => x = p2 2 i % m ∧ (i ≤ 256 → o = 0) ∧ (256 < i → o = R % m)) lims0 (fun p q w => by have := b_and (lim m 0) p q w; rw [hodd] at this; exact this)
    (fun p q w => by have := eql_num 59 (.inl rfl) (lim m 0) (lim m 1) (lim m 2) (lim m 3) 1 0 0 0 p q w; rw [right_ne hm (by have := h.gt; omega)] at this; exact this)
    (fun x p q w => b_mul _ x p q w) (fun p q w => b_mul _ 1 p q w) (fun x p q w => b_sub 2 x p q w) (fun x y p q w => b_mul x y p q w) (fun y p q w => b_mul 1 y p q w) ?_ ?_ ?_ ?_ ?_ ?_ ?_
  · refine key.mono fun e w' ⟨x, o, g, hR, h1, h2, he, hg⟩ => ⟨g, h1, he, ?_, hg⟩
    obtain ⟨hx, _, hoo⟩ := hR
    rw [show p2 2 512 = p2 2 (256 + 256) from rfl, p2_add, pR] at hx
    rw [hx, hoo (by omega)] at h2
    exact h2
  · intro w
    have e1 : mm64 1 (s264 (mu64 (lim m 0) 1)) = inv64 (lim m 0) 1 := newton_step (lim m 0) 0
    have e2 := newton_step (lim m 0) 1
    have e3 := newton_step (lim m 0) 2
    have e4 := newton_step (lim m 0) 3
    have e5 := newton_step (lim m 0) 4
    have e6 := newton_step (lim m 0) 5
    simp only [e1, e2, e3, e4, e5, e6]
    have hb := b_neg (inv64 (lim m 0) 6) w
    have hl := inv64_lt (lim m 0) 6
    have hp := inv64_pos hodd
    have : (18446744073709551616 - inv64 (lim m 0) 6 % 18446744073709551616) % 18446744073709551616 = neg64 (lim m 0) := by
      unfold neg64; simp only [W] at *; omega
    rw [this] at hb
    exact hb
  · intro w' g hc
    have := shrink_ok g m 1 0 hm (by decide) (.inl rfl) w' hc
    rw [if_pos ⟨rfl, h.gt⟩, N_one] at this
    exact this
  · intro i x o _ hR w' _
    have hx : x < m := hR.1 ▸ Nat.mod_lt _ h0
    exact add_ok x x (by omega) (by omega) w'
  · intro i x o _ hR w' g hc
    have hx : x < m := hR.1 ▸ Nat.mod_lt _ h0
    have hr := Nat.mod_lt (x + x) (show 0 < R by decide)
    have hlt : (x + x) % R + R * ((x + x) / R) < 2 * m := by rw [Nat.mod_add_div]; omega
    have := shrink_ok g m ((x + x) % R) ((x + x) / R) hm hr (ho x hx) w' hc
    rw [shrunk hm hr (ho x hx) hlt, Nat.mod_add_div, lim_R] at this
    exact this
  · exact ⟨(Nat.mod_eq_of_lt h.gt).symm, fun _ => rfl, fun c => by omega⟩
  · rintro i x o _ hi ⟨hx, h1, h2⟩
    exact ⟨by show (x + x) % m = _; rw [hx, pw], fun c => h1 (by omega), fun c => h2 (by omega)⟩
  · rintro x o ⟨hx, _, _⟩
    exact ⟨by show (x + x) % m = _; rw [hx, pw], fun c => by omega, fun _ => by rw [hx, pR]⟩
theorem new_nil (hm : m < R) (h : m % 2 = 0 ∨ m = 1) (w : World) : Calls Tryd.prog 51 #[N m] w fun e w' => e = .returned (.tuple #[.pointer none, .int .i64 1]) ∧ Gw w w' := by
  by_cases he : m % 2 = 0
  · exact new_even lim m w (fun p q w => by have := b_and (lim m 0) p q w; rw [lim_par, he] at this; exact this)
  · obtain rfl : m = 1 := by rcases h with h | h <;> omega
    exact new_one lim 1 w (fun p q w => b_and (lim 1 0) p q w) (fun p q w => eql_num 59 (.inl rfl) _ _ _ _ 1 0 0 0 p q w)
end Go.Proofs.YtbnfanmolphliaaDoor
