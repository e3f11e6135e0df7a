import Derived.Test.YtcbddldodpdikaaCz
import Derived.Test.YtcbddldodpdikaaLw
/-! What the laws share. -/
namespace Go.Proofs.Ytcbddldodpdikaa
open Go.RowKit Go.Toll TollMont
theorem N_small {k : Nat} (h : k < W) : N k = .agg #[.int .u64 (k : Nat), .int .u64 0, .int .u64 0, .int .u64 0] := by
  have h0 : lim k 0 = k := by rw [lim_zero, Nat.mod_eq_of_lt h]
  have h1 : lim k 1 = 0 := by rw [lim_succ, Nat.div_eq_of_lt h]; rfl
  have h2 : lim k 2 = 0 := by rw [lim_succ, Nat.div_eq_of_lt h]; rfl
  have h3 : lim k 3 = 0 := by rw [lim_succ, Nat.div_eq_of_lt h]; rfl
  unfold N; rw [h0, h1, h2, h3]; rfl
theorem md7 : Md 7 := ⟨rfl, by decide, by decide⟩
theorem seven_ok (w : World) : Calls Try.prog 10 #[] w fun e w' => e = .returned (.bool true) ∧ Gw w w' := by
  have n3 := N_small (k := 3) (by decide)
  have n5 := N_small (k := 5) (by decide)
  have n7 := N_small (k := 7) (by decide)
  have A : ∀ w', Gw w w' → Calls Try.prog 9 #[.agg #[.int .u64 (7 : Nat), .int .u64 0, .int .u64 0, .int .u64 0]] w' fun e w'' => ∃ g, w'.heap.size ≤ g ∧ e = .returned (.tuple #[ptr g, .int .i64 0]) ∧ w''.heap[g]? = some (.cells (modc 7).toArray 50 (0, 0)) ∧ Gw w' w'' := fun w' _ => by
    rw [← n7]; exact new_ok md7 w'
  have B : ∀ (w' : World) (g : Nat), At w' g 7 → Calls Try.prog 15 #[ptr g, .agg #[.int .u64 (3 : Nat), .int .u64 0, .int .u64 0, .int .u64 0]] w' fun e w'' => e = .returned (.tuple #[.agg #[.int .u64 (5 : Nat), .int .u64 0, .int .u64 0, .int .u64 0], .int .i64 0]) ∧ Gw w' w'' := fun w' g hA => by
    have := inv_ok md7 (x := 3) (by decide) w' hA
    rw [if_pos (by decide), minv_eq (y := 5) (by decide) (by decide), n3, n5] at this
    exact this
  have C : ∀ (w' : World) (g : Nat), At w' g 7 → Calls Try.prog 20 #[ptr g, .agg #[.int .u64 (3 : Nat), .int .u64 0, .int .u64 0, .int .u64 0], .agg #[.int .u64 (5 : Nat), .int .u64 0, .int .u64 0, .int .u64 0]] w' fun e w'' => e = .returned (.agg #[.int .u64 (5 : Nat), .int .u64 0, .int .u64 0, .int .u64 0]) ∧ Gw w' w'' := fun w' g hA => by
    have := msub_ok md7 (x := 3) (y := 5) (by decide) (by decide) w' hA
    rw [show subm 7 3 5 = 5 by decide, n3, n5] at this
    exact this
  exact seven_core _ _ _ _ _ _ _ _ _ _ _ _ _ w A B C (fun p q w => eql_num 24 (.inl rfl) 5 0 0 0 5 0 0 0 p q w) (fun g p q w => b_nil g p q w)
theorem eq_self {t : TypeId} (ht : t = 24 ∨ t = 23) (x : Nat) (p q : Operand) (w : World) : (do eqGuard .eql t p q (N x) (N x); binOp .eql t (N x) (N x) : Sem Value).run Try.prog w = .ok (.bool true) w := by
  have := eql_num t ht (lim x 0) (lim x 1) (lim x 2) (lim x 3) (lim x 0) (lim x 1) (lim x 2) (lim x 3) p q w
  rw [decide_eq_true ⟨rfl, rfl, rfl, rfl⟩] at this
  exact this
theorem md_of {m : Nat} (hm : m < R) (h : m % 2 = 1 ∧ m ≠ 1) : Md m := ⟨h.1, by omega, hm⟩
theorem right_t {m : Nat} (h : Md m) (w : World) : Calls Try.prog 11 #[N m] w fun e w' => e = .returned (.bool true) ∧ Gw w w' := by
  have := right_ok h.lt w
  rw [decide_eq_true ⟨h.odd, by have := h.gt; omega⟩] at this; exact this
theorem right_f {m : Nat} (hm : m < R) (h : ¬ (m % 2 = 1 ∧ m ≠ 1)) (w : World) : Calls Try.prog 11 #[N m] w fun e w' => e = .returned (.bool false) ∧ Gw w w' := by
  have := right_ok hm w
  rw [decide_eq_false h] at this; exact this
theorem nil_of {m : Nat} (hm : m < R) (h : ¬ (m % 2 = 1 ∧ m ≠ 1)) (w : World) : Calls Try.prog 9 #[N m] w fun e w' => e = .returned (.tuple #[.pointer none, .int .i64 1]) ∧ Gw w w' :=
  new_nil hm (by omega) w
end Go.Proofs.Ytcbddldodpdikaa
