import Derived.Test.YtcbddldodpdikaaCl
import Derived.Test.YtcbddldodpdikaaTr
/-! The laws, of numbers. -/
namespace Go.Proofs.Ytcbddldodpdikaa
open Go.RowKit Go.Toll TollMont
variable {m x y : Nat}
theorem sums_law (hm : m < R) (hx : x < R) (hy : y < R) (w : World) : Calls Try.prog 5 #[N m, N x, N y] w fun e w' => e = .returned (.bool true) ∧ Gw w w' := by
  have hz := fun (p q : Operand) (w : World) => neq_num 0 0 0 0 0 0 0 0 p q w
  by_cases hr : m % 2 = 1 ∧ m ≠ 1
  · have h := md_of hm hr
    exact law_MontSums_ok lim _ _ _ _ _ _ _ _ _ _ _ _ _ m x y (x % m) ((x + y) % m) (subm m x y) hz w (fun w' _ => seven_ok w') (fun w' _ => right_t h w') (fun w' _ => new_ok h w') (fun w' _ => none_core w') (fun w' _ => madd_nil lim x y w') (fun w' _ => rest_nil lim x w')
      (fun w' g hA => rest_ok h hx w' hA) (fun w' _ => rrest_ok h hx w') (fun w' g hA => madd_ok h hx hy w' hA) (fun w' _ => rAdd_ok h hx hy w') (fun w' g hA => msub_ok h hx hy w' hA) (fun w' _ => rSub_ok h hx hy w') (fun x p q w => eq_self (.inl rfl) x p q w) (fun x p q w => eq_self (.inr rfl) x p q w)
  · exact law_MontSums_bad lim m x y hz w (fun w' _ => seven_ok w') (fun w' _ => right_f hm hr w') (fun w' _ => nil_of hm hr w') (fun w' _ => none_core w') (fun w' _ => madd_nil lim x y w') (fun w' _ => rest_nil lim x w') (fun x p q w => eq_self (.inl rfl) x p q w) (fun x p q w => eq_self (.inr rfl) x p q w)
theorem pows_law {e0 e1 : Nat} (hm : m < R) (hx : x < R) (h0 : e0 < 4294967296) (h1 : e1 < 4294967296) (w : World) : Calls Try.prog 8 #[N m, N x, .agg #[.int .u32 (e0 : Nat), .int .u32 (e1 : Nat)]] w fun e w' => e = .returned (.bool true) ∧ Gw w w' := by
  by_cases hr : m % 2 = 1 ∧ m ≠ 1
  · have h := md_of hm hr
    have w0 : e0 < W := by simp only [W]; omega
    have w1 : e1 < W := by simp only [W]; omega
    have ws : e0 + e1 < W := by simp only [W]; omega
    have ltR : ∀ {k : Nat}, k < W → k < R := fun hk => by simp only [W, R] at *; omega
    have n0 := N_small w0
    have n1 := N_small w1
    have ns := N_small ws
    refine law_MontPows_ok lim _ _ _ _ _ _ _ _ _ _ _ _ _ m x e0 e1 (x ^ e0 % m) (x ^ (e0 + e1) % m) (x ^ e1 % m) 1 (b_cv32 e0 w0) (b_cv32 e1 w1) ?_ (fun p q w => eql_num 24 (.inl rfl) (lim 1 0) (lim 1 1) (lim 1 2) (lim 1 3) 1 0 0 0 p q w) w (fun w' _ => seven_ok w') (fun w' _ => right_t h w') (fun w' _ => new_ok h w')
      (fun w' g hA => by have := pow_ok h hx (ltR w0) w' hA; rw [n0] at this; exact this) (fun w' _ => by have := rpow_ok h hx (ltR w0) w'; rw [n0] at this; exact this)
      (fun w' g hA => by have := pow_ok h hx (ltR ws) w' hA; rw [ns] at this; exact this) (fun w' g hA => by have := pow_ok h hx (ltR w1) w' hA; rw [n1] at this; exact this)
      (fun w' g hA => by have := mul_ok h (modR h (x ^ e0)) (modR h (x ^ e1)) w' hA; rw [← Nat.mul_mod, ← Nat.pow_add] at this; exact this)
      (fun w' g hA => by have := pow_ok h hx (by decide : 0 < R) w' hA; rw [N_zero, Nat.pow_zero, Nat.mod_eq_of_lt h.gt] at this; exact this) (fun x p q w => eq_self (.inl rfl) x p q w) (fun x p q w => eq_self (.inr rfl) x p q w)
    rw [IntKind.wrap_u64]; simp only [W] at ws; omega
  · exact law_MontPows_bad lim m x e0 e1 w (fun w' _ => seven_ok w') (fun w' _ => right_f hm hr w') (fun w' _ => nil_of hm hr w') (fun x p q w => eq_self (.inl rfl) x p q w) (fun x p q w => eq_self (.inr rfl) x p q w)
end Go.Proofs.Ytcbddldodpdikaa
