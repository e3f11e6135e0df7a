import Derived.Test.YtbnfanmolphliaaDoorCz
import Derived.Test.YtbnfanmolphliaaDoorLw
/-! What the laws share. -/
namespace Go.Proofs.YtbnfanmolphliaaDoor
open Go.RowKit Go.Toll TollMont
theorem N_small {k : Nat} (h : k < W) : N k = .agg #[.int .u64 (k : Nat), .int .u64 0, .int .u64 0, .int .u64 0] := by
  have h0 : lim k 0 = k := by rw [lim_zero, Nat.mod_eq_of_lt h]
  have h1 : lim k 1 = 0 := by rw [lim_succ, Nat.div_eq_of_lt h]; rfl
  have h2 : lim k 2 = 0 := by rw [lim_succ, Nat.div_eq_of_lt h]; rfl
  have h3 : lim k 3 = 0 := by rw [lim_succ, Nat.div_eq_of_lt h]; rfl
  unfold N; rw [h0, h1, h2, h3]; rfl
theorem md7 : Md 7 := ⟨rfl, by decide, by decide⟩
theorem eq_self {t : TypeId} (ht : t = 59 ∨ t = 29) (x : Nat) (p q : Operand) (w : World) : (do eqGuard .eql t p q (N x) (N x); binOp .eql t (N x) (N x) : Sem Value).run Tryd.prog w = .ok (.bool true) w := by
  have := eql_num t ht (lim x 0) (lim x 1) (lim x 2) (lim x 3) (lim x 0) (lim x 1) (lim x 2) (lim x 3) p q w
  rw [decide_eq_true ⟨rfl, rfl, rfl, rfl⟩] at this
  exact this
theorem md_of {m : Nat} (hm : m < R) (h : m % 2 = 1 ∧ m ≠ 1) : Md m := ⟨h.1, by omega, hm⟩
theorem nil_of {m : Nat} (hm : m < R) (h : ¬ (m % 2 = 1 ∧ m ≠ 1)) (w : World) : Calls Tryd.prog 51 #[N m] w fun e w' => e = .returned (.tuple #[.pointer none, .int .i64 1]) ∧ Gw w w' :=
  new_nil hm (by omega) w
end Go.Proofs.YtbnfanmolphliaaDoor
