import Derived.Test.YtcbddldodpdikaaCl
import Derived.Test.YtcbddldodpdikaaTq
/-! The laws, of numbers. -/
namespace Go.Proofs.Ytcbddldodpdikaa
open Go.RowKit Go.Toll TollMont
variable {m x y : Nat}
theorem muls_law (hm : m < R) (hx : x < R) (hy : y < R) (w : World) : Calls Try.prog 3 #[N m, N x, N y] w fun e w' => e = .returned (.bool true) ∧ Gw w w' := by
  by_cases hr : m % 2 = 1 ∧ m ≠ 1
  · have h := md_of hm hr
    have h0 : 0 < m := by have := h.gt; omega
    exact law_MontMuls_ok lim _ _ _ _ _ _ _ _ _ _ _ _ _ m x y (x * y % m) (x % m) w (fun w' _ => seven_ok w') (fun w' _ => right_t h w') (fun w' _ => new_ok h w')
      (fun w' g hA => mul_ok h hx hy w' hA) (fun w' _ => rmul_ok h hx hy w') (fun w' g hA => by have := mul_ok h hy hx w' hA; rw [Nat.mul_comm y x] at this; exact this)
      (fun w' g hA => by have := mul_ok h hx (by decide : 1 < R) w' hA; rw [Nat.mul_one, N_one] at this; exact this) (fun w' g hA => rest_ok h hx w' hA) (fun x p q w => eq_self (.inl rfl) x p q w) (fun x p q w => eq_self (.inr rfl) x p q w)
  · exact law_MontMuls_bad lim m x y w (fun w' _ => seven_ok w') (fun w' _ => right_f hm hr w') (fun w' _ => nil_of hm hr w') (fun x p q w => eq_self (.inl rfl) x p q w) (fun x p q w => eq_self (.inr rfl) x p q w)
theorem laws_law (hm : m < R) (hx : x < R) (hy : y < R) (w : World) : Calls Try.prog 6 #[N m, N x, N y] w fun e w' => e = .returned (.bool true) ∧ Gw w w' := by
  by_cases hr : m % 2 = 1 ∧ m ≠ 1
  · have h := md_of hm hr
    have h0 : 0 < m := by have := h.gt; omega
    have r : ∀ z, z % m < R := modR h
    have rs : ∀ a b, subm m a b < R := fun a b => modR h _
    exact law_MontLaws_ok lim _ _ _ _ _ _ _ _ _ _ _ _ _ m x y ((x + y) % m) (subm m x y) ((x + y) % m * subm m x y % m) (x * x % m) (y * y % m) ((y + 1) % m) (x * ((y + 1) % m) % m) (x * y % m) (x % m) w (fun w' _ => seven_ok w') (fun w' _ => right_t h w') (fun w' _ => new_ok h w')
      (fun w' g hA => madd_ok h hx hy w' hA) (fun w' g hA => msub_ok h hx hy w' hA) (fun w' g hA => mul_ok h (r _) (rs _ _) w' hA) (fun w' g hA => mul_ok h hx hx w' hA) (fun w' g hA => mul_ok h hy hy w' hA)
      (fun w' g hA => by rw [dif_squares h0]; exact msub_ok h (r _) (r _) w' hA) (fun w' g hA => by have := madd_ok h hy (by decide : 1 < R) w' hA; rw [N_one] at this; exact this)
      (fun w' g hA => mul_ok h hx (r _) w' hA) (fun w' g hA => mul_ok h hx hy w' hA) (fun w' g hA => by rw [spread]; exact madd_ok h (r _) hx w' hA)
      (fun w' g hA => by have := msub_ok h (r (x + y)) hy w' hA; rw [sub_back h0] at this; exact this) (fun w' g hA => rest_ok h hx w' hA)
      (fun w' g hA => by have := madd_ok h (rs x y) hy w' hA; rw [subm_eq h0] at this; exact this) (fun x p q w => eq_self (.inl rfl) x p q w) (fun x p q w => eq_self (.inr rfl) x p q w)
  · exact law_MontLaws_bad lim m x y w (fun w' _ => seven_ok w') (fun w' _ => right_f hm hr w') (fun w' _ => nil_of hm hr w') (fun x p q w => eq_self (.inl rfl) x p q w) (fun x p q w => eq_self (.inr rfl) x p q w)
theorem chains_law (hm : m < R) (hx : x < R) (hy : y < R) (w : World) : Calls Try.prog 4 #[N m, N x, N y] w fun e w' => e = .returned (.bool true) ∧ Gw w w' := by
  by_cases hr : m % 2 = 1 ∧ m ≠ 1
  · have h := md_of hm hr
    have h0 : 0 < m := by have := h.gt; omega
    by_cases hg : Nat.gcd x m = 1
    · obtain ⟨hi, hix⟩ := minv_mul h.gt h.odd hg
      have hiR : minv m x < R := by omega
      exact law_MontChains_ok lim _ _ _ _ _ _ _ _ _ _ _ _ _ m x y (minv m x) (x % m) (y * x % m) (y % m) w (fun w' _ => seven_ok w') (fun w' _ => right_t h w') (fun w' _ => new_ok h w')
        (fun w' g hA => by have := inv_ok h hx w' hA; rw [if_pos hg] at this; exact this) (fun w' g hA => by have := inv_ok h hiR w' hA; rw [if_pos (gcd_inv h.gt hix), inv_inv h.gt hix] at this; exact this)
        (fun w' g hA => rest_ok h hx w' hA) (fun w' g hA => mul_ok h hy hx w' hA) (fun w' g hA => by have := mul_ok h (modR h (y * x)) hiR w' hA; rw [mul_back hix] at this; exact this) (fun w' g hA => rest_ok h hy w' hA)
        (fun x p q w => eq_self (.inl rfl) x p q w) (fun x p q w => eq_self (.inr rfl) x p q w)
    · exact law_MontChains_none lim _ _ _ _ _ _ _ _ _ _ _ _ _ m x y w (fun w' _ => seven_ok w') (fun w' _ => right_t h w') (fun w' _ => new_ok h w')
        (fun w' g hA => by have := inv_ok h hx w' hA; rw [if_neg hg, N_zero] at this; exact this) (fun x p q w => eq_self (.inl rfl) x p q w) (fun x p q w => eq_self (.inr rfl) x p q w)
  · exact law_MontChains_bad lim m x y w (fun w' _ => seven_ok w') (fun w' _ => right_f hm hr w') (fun w' _ => nil_of hm hr w') (fun x p q w => eq_self (.inl rfl) x p q w) (fun x p q w => eq_self (.inr rfl) x p q w)
end Go.Proofs.Ytcbddldodpdikaa
