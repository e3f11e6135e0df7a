import Derived.Test.YtbnfanmolphliaaDoorOp
/-! More single operations of this program. -/
namespace Go.Proofs.YtbnfanmolphliaaDoor
open Go.RowKit Go.Toll
theorem b_quo (x : Nat) (hx : x < 9223372036854775808) (p q : Operand) (w : World) : (do eqGuard .quo 3 p q (.int .i64 (x : Nat)) (.int .i64 64); binOp .quo 3 (.int .i64 (x : Nat)) (.int .i64 64) : Sem Value).run Tryd.prog w = .ok (.int .i64 (x / 64 : Nat)) w := by
  go_simp
  exact i64w (by omega) (by omega)
theorem b_rem (x : Nat) (p q : Operand) (w : World) : (do eqGuard .rem 3 p q (.int .i64 (x : Nat)) (.int .i64 64); binOp .rem 3 (.int .i64 (x : Nat)) (.int .i64 64) : Sem Value).run Tryd.prog w = .ok (.int .i64 (x % 64 : Nat)) w := by
  go_simp
  exact Int.tmod_eq_emod_of_nonneg (by omega)
theorem b_quo8 (x : Nat) (hx : x < 9223372036854775808) (p q : Operand) (w : World) : (do eqGuard .quo 3 p q (.int .i64 (x : Nat)) (.int .i64 8); binOp .quo 3 (.int .i64 (x : Nat)) (.int .i64 8) : Sem Value).run Tryd.prog w = .ok (.int .i64 (x / 8 : Nat)) w := by
  go_simp
  exact i64w (by omega) (by omega)
theorem b_rem8 (x : Nat) (p q : Operand) (w : World) : (do eqGuard .rem 3 p q (.int .i64 (x : Nat)) (.int .i64 8); binOp .rem 3 (.int .i64 (x : Nat)) (.int .i64 8) : Sem Value).run Tryd.prog w = .ok (.int .i64 (x % 8 : Nat)) w := by
  go_simp
  exact Int.tmod_eq_emod_of_nonneg (by omega)
theorem b_sub31 (x : Nat) (hx : x < 32) (p q : Operand) (w : World) : (do eqGuard .sub 3 p q (.int .i64 31) (.int .i64 (x : Nat)); binOp .sub 3 (.int .i64 31) (.int .i64 (x : Nat)) : Sem Value).run Tryd.prog w = .ok (.int .i64 (31 - x : Nat)) w := by
  go_simp
  rw [i64w (by omega) (by omega)]; omega
theorem b_shr (x r : Nat) (hr : r < 64) (p q : Operand) (w : World) : (do eqGuard .shr 28 p q (.int .u64 (x : Nat)) (.int .i64 (r : Nat)); binOp .shr 28 (.int .u64 (x : Nat)) (.int .i64 (r : Nat)) : Sem Value).run Tryd.prog w = .ok (.int .u64 (x / 2 ^ r : Nat)) w := by
  go_simp
theorem b_shr8 (x r : Nat) (hr : r < 8) (p q : Operand) (w : World) : (do eqGuard .shr 5 p q (.int .u8 (x : Nat)) (.int .i64 (r : Nat)); binOp .shr 5 (.int .u8 (x : Nat)) (.int .i64 (r : Nat)) : Sem Value).run Tryd.prog w = .ok (.int .u8 (x / 2 ^ r : Nat)) w := by
  go_simp
theorem b_rem2 (x : Nat) (p q : Operand) (w : World) : (do eqGuard .rem 28 p q (.int .u64 (x : Nat)) (.int .u64 2); binOp .rem 28 (.int .u64 (x : Nat)) (.int .u64 2) : Sem Value).run Tryd.prog w = .ok (.int .u64 (x % 2 : Nat)) w := by
  go_simp
  exact Int.tmod_eq_emod_of_nonneg (by omega)
theorem b_rem2b (x : Nat) (p q : Operand) (w : World) : (do eqGuard .rem 5 p q (.int .u8 (x : Nat)) (.int .u8 2); binOp .rem 5 (.int .u8 (x : Nat)) (.int .u8 2) : Sem Value).run Tryd.prog w = .ok (.int .u8 (x % 2 : Nat)) w := by
  go_simp
  exact Int.tmod_eq_emod_of_nonneg (by omega)
theorem b_cvt (x : Nat) (h : x < 9223372036854775808) (w : World) : (convert 28 3 (.int .u64 (x : Nat))).run Tryd.prog w = .ok (.int .i64 (x : Nat)) w := by
  go_simp
  exact i64w (by omega) (by omega)
theorem b_cvti (x : Nat) (h : x < 256) (w : World) : (convert 5 3 (.int .u8 (x : Nat))).run Tryd.prog w = .ok (.int .i64 (x : Nat)) w := by
  go_simp
  exact i64w (by omega) (by omega)
theorem b_shl8 (x : Nat) (p q : Operand) (w : World) : (do eqGuard .shl 28 p q (.int .u64 (x : Nat)) (.int .u64 8); binOp .shl 28 (.int .u64 (x : Nat)) (.int .u64 8) : Sem Value).run Tryd.prog w = .ok (.int .u64 (x * 256 % 18446744073709551616 : Nat)) w := by
  go_simp
  exact wrap_nat (x * 256)
theorem b_shlk (x : Nat) (s : Int) (h0 : 0 ≤ s) (h1 : s < 64) (p q : Operand) (w : World) : (do eqGuard .shl 28 p q (.int .u64 (x : Nat)) (.int .i64 s); binOp .shl 28 (.int .u64 (x : Nat)) (.int .i64 s) : Sem Value).run Tryd.prog w = .ok (.int .u64 (x * 2 ^ s.toNat % 18446744073709551616 : Nat)) w := by
  obtain ⟨n, rfl⟩ := Int.eq_ofNat_of_zero_le h0
  go_simp
  rw [IntKind.wrap_u64]
theorem b_shrk (x : Nat) (s : Int) (h0 : 0 ≤ s) (h1 : s < 64) (p q : Operand) (w : World) : (do eqGuard .shr 28 p q (.int .u64 (x : Nat)) (.int .i64 s); binOp .shr 28 (.int .u64 (x : Nat)) (.int .i64 s) : Sem Value).run Tryd.prog w = .ok (.int .u64 (x / 2 ^ s.toNat : Nat)) w := by
  obtain ⟨n, rfl⟩ := Int.eq_ofNat_of_zero_le h0
  go_simp
theorem b_cv8 (x : Nat) (w : World) : (convert 5 28 (.int .u8 (x : Nat))).run Tryd.prog w = .ok (.int .u64 (x % 18446744073709551616 : Nat)) w := by
  go_simp
  exact wrap_nat x
theorem b_cv32 (x : Nat) (h : x < 18446744073709551616) (w : World) : (convert 100 28 (.int .u32 (x : Nat))).run Tryd.prog w = .ok (.int .u64 (x : Nat)) w := by
  go_simp
  rw [wrap_nat, Nat.mod_eq_of_lt h]
theorem b_cvb (x : Nat) (w : World) : (convert 28 5 (.int .u64 (x : Nat))).run Tryd.prog w = .ok (.int .u8 (x % 256 : Nat)) w := by
  go_simp
  rw [IntKind.wrap_u8]
theorem b_lss (x y : Nat) (p q : Operand) (w : World) : (do eqGuard .lss 28 p q (.int .u64 (x : Nat)) (.int .u64 (y : Nat)); binOp .lss 28 (.int .u64 (x : Nat)) (.int .u64 (y : Nat)) : Sem Value).run Tryd.prog w = .ok (.bool (decide (x < y))) w := by
  go_simp
theorem b_neq (x y : Nat) (p q : Operand) (w : World) : (do eqGuard .neq 28 p q (.int .u64 (x : Nat)) (.int .u64 (y : Nat)); binOp .neq 28 (.int .u64 (x : Nat)) (.int .u64 (y : Nat)) : Sem Value).run Tryd.prog w = .ok (.bool (!decide (x = y))) w := by
  go_simp
  rw [bne, beq_nat]
theorem b_eq1 (x : Nat) (p q : Operand) (w : World) : (do eqGuard .eql 28 p q (.int .u64 (x : Nat)) (.int .u64 1); binOp .eql 28 (.int .u64 (x : Nat)) (.int .u64 1) : Sem Value).run Tryd.prog w = .ok (.bool (decide (x = 1))) w := by
  go_simp
  exact beq_nat x 1
theorem b_neg (x : Nat) (w : World) : (Op.unary .neg (.int .u64 (x : Nat))).run Tryd.prog w = .ok (.int .u64 ((18446744073709551616 - x % 18446744073709551616) % 18446744073709551616 : Nat)) w := by
  go_simp
  rw [IntKind.wrap_u64]; omega
theorem b_nil (g : Nat) (p q : Operand) (w : World) : (do eqGuard .eql 60 p q (.pointer (some ⟨g, 0, none⟩)) (.pointer none); binOp .eql 60 (.pointer (some ⟨g, 0, none⟩)) (.pointer none) : Sem Value).run Tryd.prog w = .ok (.bool false) w := by
  go_simp
theorem b_eqb (x y : Bool) (p q : Operand) (w : World) : (do eqGuard .eql 4 p q (.bool x) (.bool y); binOp .eql 4 (.bool x) (.bool y) : Sem Value).run Tryd.prog w = .ok (.bool (x == y)) w := by
  go_simp
end Go.Proofs.YtbnfanmolphliaaDoor
