import Derived.Test.YtbnfanmolphliaaDoorCw
import Derived.Test.YtbnfanmolphliaaDoorOq
import Derived.Test.YtbnfanmolphliaaDoorTn
import Derived.Test.YtbnfanmolphliaaDoorTh
import Derived.Test.YtbnfanmolphliaaDoorTl
/-! Bits, powers, inverses, new moduli, by contract. -/
namespace Go.Proofs.YtbnfanmolphliaaDoor
open Go.RowKit Go.Toll TollMont
theorem lim_bit (n k : Nat) : lim n (k / 64) / 2 ^ (k % 64) % 2 = n / 2 ^ k % 2 := by
  unfold lim
  have h1 : W = 2 ^ (k % 64) * 2 ^ (64 - k % 64) := by rw [← Nat.pow_add, show k % 64 + (64 - k % 64) = 64 by omega]
  have h2 : 2 ∣ 2 ^ (64 - k % 64) := ⟨2 ^ (64 - k % 64 - 1), by rw [← Nat.pow_succ']; congr 1; omega⟩
  have h3 : W ^ (k / 64) * 2 ^ (k % 64) = 2 ^ k := by
    rw [show W = 2 ^ 64 by decide, ← Nat.pow_mul, ← Nat.pow_add, Nat.div_add_mod]
  rw [← h3, ← Nat.div_div_eq_div_mul]
  generalize n / W ^ (k / 64) = x
  rw [h1, Nat.mod_mul_right_div_self, Nat.mod_mod_of_dvd _ h2]
theorem bit_ok (n k : Nat) (hk : k < 256) (w : World) : Calls Tryd.prog 43 #[N n, .int .i64 (k : Nat)] w fun e w' => e = .returned (.int .i64 (n / 2 ^ k % 2 : Nat)) ∧ Gw w w' := by
  have hq := b_quo k (by omega)
  have hr := b_rem k
  have hm : k % 64 < 64 := Nat.mod_lt _ (by decide)
  have h0 : decide ((k : Int) < 0) = false := decide_eq_false (by omega)
  have h1 : decide ((256 : Int) ≤ (k : Int)) = false := decide_eq_false (by omega)
  rw [← lim_bit n k]
  have hc := b_cvt (lim n (k / 64) / 2 ^ (k % 64) % 2) (by omega)
  have hs := b_shr (lim n (k / 64)) (k % 64) hm
  have ha := b_and (lim n (k / 64) / 2 ^ (k % 64))
  have hj : k / 64 = 0 ∨ k / 64 = 1 ∨ k / 64 = 2 ∨ k / 64 = 3 := by omega
  rcases hj with hj | hj | hj | hj <;> rw [hj] at hq hs ha hc ⊢
  · exact bit_0 _ _ _ _ _ _ _ _ w h0 h1 hq hr hs ha hc
  · exact bit_1 _ _ _ _ _ _ _ _ w h0 h1 hq hr hs ha hc
  · exact bit_2 _ _ _ _ _ _ _ _ w h0 h1 hq hr hs ha hc
  · exact bit_3 _ _ _ _ _ _ _ _ w h0 h1 hq hr hs ha hc
theorem bit_out (n : Nat) (i : Int) (hi : i < 0 ∨ 256 ≤ i) (w : World) : Calls Tryd.prog 43 #[N n, .int .i64 i] w fun e w' => e = .returned (.int .i64 0) ∧ Gw w w' := by
  by_cases h0 : i < 0
  · exact bit_lo _ _ _ _ _ w (decide_eq_true h0)
  · exact bit_hi _ _ _ _ _ w (decide_eq_false h0) (decide_eq_true (by omega))
variable {m b : Nat}
theorem lims0 : lim 0 0 = 0 ∧ lim 0 1 = 0 ∧ lim 0 2 = 0 ∧ lim 0 3 = 0 := by decide
theorem lims1 : lim 1 0 = 1 ∧ lim 1 1 = 0 ∧ lim 1 2 = 0 ∧ lim 1 3 = 0 := by decide
theorem is_zero {u : Nat} (hu : u < R) : (lim u 0 = 0 ∧ lim u 1 = 0 ∧ lim u 2 = 0 ∧ lim u 3 = 0) ↔ u = 0 := by
  constructor
  · rintro ⟨a, b, c, d⟩
    exact lim_inj hu (by decide) (a.trans lims0.1.symm) (b.trans lims0.2.1.symm) (c.trans lims0.2.2.1.symm) (d.trans lims0.2.2.2.symm)
  · rintro rfl; exact lims0
theorem is_one {u : Nat} (hu : u < R) : (lim u 0 = 1 ∧ lim u 1 = 0 ∧ lim u 2 = 0 ∧ lim u 3 = 0) ↔ u = 1 := by
  constructor
  · rintro ⟨a, b, c, d⟩
    exact lim_inj hu (by decide) (a.trans lims1.1.symm) (b.trans lims1.2.1.symm) (c.trans lims1.2.2.1.symm) (d.trans lims1.2.2.2.symm)
  · rintro rfl; exact lims1
open Classical in
theorem inv_ok (h : Md m) {x : Nat} (hx : x < R) (w : World) (ha : At w b m) : Calls Tryd.prog 58 #[ptr b, N x] w fun e w' =>
    e = .returned (if Nat.gcd x m = 1 then .tuple #[N (minv m x), .int .i64 0] else .tuple #[N 0, .int .i64 1]) ∧ Gw w w' := by
  have h0 : 0 < m := by have := h.gt; omega
  have hm := h.lt
  have h1 := h.gt
  have key := inv_core b lim x (x % m) m 1 0 w ha.m (fun u => !decide (lim u 0 = 0 ∧ lim u 1 = 0 ∧ lim u 2 = 0 ∧ lim u 3 = 0)) (fun u => !decide (lim u 0 = 1 ∧ lim u 1 = 0 ∧ lim u 2 = 0 ∧ lim u 3 = 0))
    (fun u => lim u 0 % 2) (fun u => u / 2) (halve m) (fun u v => decide (u < v)) dif (fun u v => if u < v then 1 else 0) (subm m) (InvAt m x) lims1 lims0
    (fun w' hw => rest_ok h hx w' (ha.gw hw)) (InvAt.start h.odd h1) (fun u p q w => neq_num _ _ _ _ _ _ _ _ p q w) (fun u p q w => neq_num _ _ _ _ _ _ _ _ p q w) (fun u p q w => b_and _ p q w) ?_ ?_ ?_ ?_ ?_ ?_ ?_ ?_ ?_ ?_
  · refine key.mono fun e w' ⟨⟨u, v, a, d, hI, hz, hr⟩, hg⟩ => ⟨?_, hg⟩
    have hu : u = 0 := by
      have := (Bool.not_eq_false' .. ▸ hz : decide (lim u 0 = 0 ∧ lim u 1 = 0 ∧ lim u 2 = 0 ∧ lim u 3 = 0) = true)
      exact (is_zero (by have := hI.ule; omega)).1 (of_decide_eq_true this)
    subst hu
    have hd := hI.done h1
    have hv1 := is_one (u := v) (by have := hI.vle; omega)
    rcases hr with ⟨hn, he⟩ | ⟨hn, he⟩
    · have hn' : ¬ v = 1 := fun hc => by
        have := hv1.2 hc
        rw [decide_eq_true this] at hn; cases hn
      rw [if_neg (fun hc => hn' (hd.1.2 hc)), N_zero]; exact he
    · have hv : v = 1 := by
        have := (Bool.not_eq_false' .. ▸ hn : decide (lim v 0 = 1 ∧ lim v 1 = 0 ∧ lim v 2 = 0 ∧ lim v 3 = 0) = true)
        exact hv1.1 (of_decide_eq_true this)
      rw [if_pos (hd.1.1 hv), ← (hd.2 hv).1]; exact he
  · intro u v a d hI _ hp w' hw
    have := half_ok (n := u) (by have := hI.ule; omega) (.inl rfl : (0 : Nat) = 0 ∨ (0 : Nat) = 1) w'
    rw [Nat.mul_zero, Nat.add_zero] at this
    exact this
  · intro u v a d hI _ hp w' hw
    exact halve_ok hm (by have := hI.xlt; omega) w' (ha.gw hw)
  · intro u v a d hI _ hp w' hw
    exact less_ok u v (by have := hI.ule; omega) (by have := hI.vle; omega) w'
  · intro u v a d hI _ hp _ w' hw
    exact sub_ok u v (by have := hI.ule; omega) (by have := hI.vle; omega) w'
  · intro u v a d hI _ hp _ w' hw
    exact sub_ok v u (by have := hI.vle; omega) (by have := hI.ule; omega) w'
  · intro u v a d hI _ hp _ w' hw
    exact msub_ok h (by have := hI.xlt; omega) (by have := hI.ylt; omega) w' (ha.gw hw)
  · intro u v a d hI _ hp _ w' hw
    exact msub_ok h (by have := hI.ylt; omega) (by have := hI.xlt; omega) w' (ha.gw hw)
  · intro u v a d hI hz hp
    have hp' : u % 2 = 0 := by have : lim u 0 % 2 = 0 := hp; rwa [lim_par] at this
    have hu : u ≠ 0 := by rintro rfl; exact absurd hz (by decide)
    refine ⟨hI.halved h.odd hp', ?_⟩
    show u / 2 + v < u + v
    omega
  · intro u v a d hI hz hp hl
    have hl' : ¬ u < v := of_decide_eq_false hl
    have hu : u ≠ 0 := by rintro rfl; exact absurd hz (by decide)
    have hv := hI.vodd
    have e : dif u v = u - v := by unfold dif; rw [if_neg hl']
    rw [e]
    exact ⟨hI.less h1 (by omega), by omega⟩
  · intro u v a d hI hz hp hl
    have hl' : u < v := of_decide_eq_true hl
    have hp' : u % 2 ≠ 0 := by have : lim u 0 % 2 ≠ 0 := hp; rwa [lim_par] at this
    have e : dif v u = v - u := by unfold dif; rw [if_neg (by omega)]
    rw [e]
    exact ⟨hI.swap h1 (by omega) hl', by omega⟩
end Go.Proofs.YtbnfanmolphliaaDoor
