import Derived.Test.YtbnfanmolphliaaDoorProg
import Derived.Test.YtbnfanmolphliaaDoorVo
import Derived.Laws.BitsLemmas
/-! What single operations of this program make of numbers. -/
namespace Go.Proofs.YtbnfanmolphliaaDoor
open Go.RowKit Go.Toll
theorem wrap_nat (n : Nat) : IntKind.u64.wrap (n : Int) = ((n % 18446744073709551616 : Nat) : Int) := by rw [IntKind.wrap_u64]; omega
theorem b_add (x y : Nat) (p q : Operand) (w : World) : (do eqGuard .add 28 p q (.int .u64 (x : Nat)) (.int .u64 (y : Nat)); binOp .add 28 (.int .u64 (x : Nat)) (.int .u64 (y : Nat)) : Sem Value).run Tryd.prog w = .ok (.int .u64 ((x + y) % 18446744073709551616 : Nat)) w := by
  go_simp
  exact wrap_nat (x + y)
theorem b_mul (x y : Nat) (p q : Operand) (w : World) : (do eqGuard .mul 28 p q (.int .u64 (x : Nat)) (.int .u64 (y : Nat)); binOp .mul 28 (.int .u64 (x : Nat)) (.int .u64 (y : Nat)) : Sem Value).run Tryd.prog w = .ok (.int .u64 ((x * y) % 18446744073709551616 : Nat)) w := by
  go_simp
  exact wrap_nat (x * y)
theorem b_sub (x y : Nat) (p q : Operand) (w : World) : (do eqGuard .sub 28 p q (.int .u64 (x : Nat)) (.int .u64 (y : Nat)); binOp .sub 28 (.int .u64 (x : Nat)) (.int .u64 (y : Nat)) : Sem Value).run Tryd.prog w = .ok (.int .u64 (((x : Int) - (y : Int)) % 18446744073709551616).toNat) w := by
  go_simp
  rw [IntKind.wrap_u64]
  omega
theorem bits_or64 (x y : Nat) : bits .or .u64 (x : Int) (y : Int) = ((x % 18446744073709551616 ||| y % 18446744073709551616 : Nat) : Int) := by
  simp only [bits, BitVec.ofInt_natCast, BitVec.toNat_or, BitVec.toNat_ofNat]
  rw [show IntKind.u64.bits = 64 from rfl, show (2 : Nat) ^ 64 = 18446744073709551616 by decide, wrap_nat, Nat.mod_eq_of_lt]
  exact Nat.or_lt_two_pow (n := 64) (Nat.mod_lt _ (by decide)) (Nat.mod_lt _ (by decide))
theorem bits_and1 (x : Nat) : bits .and .u64 (x : Int) 1 = ((x % 2 : Nat) : Int) := by
  rw [show (1 : Int) = ((1 : Nat) : Int) from rfl]
  simp only [bits, BitVec.ofInt_natCast, BitVec.toNat_and, BitVec.toNat_ofNat]
  rw [show IntKind.u64.bits = 64 from rfl, show (1 : Nat) % 2 ^ 64 = 1 by decide, Nat.and_one_is_mod, wrap_nat]
  omega
theorem b_and (x : Nat) (p q : Operand) (w : World) : (do eqGuard .and 28 p q (.int .u64 (x : Nat)) (.int .u64 1); binOp .and 28 (.int .u64 (x : Nat)) (.int .u64 1) : Sem Value).run Tryd.prog w = .ok (.int .u64 (x % 2 : Nat)) w := by
  go_simp
  exact bits_and1 x
theorem b_or (x y : Nat) (p q : Operand) (w : World) : (do eqGuard .or 28 p q (.int .u64 (x : Nat)) (.int .u64 (y : Nat)); binOp .or 28 (.int .u64 (x : Nat)) (.int .u64 (y : Nat)) : Sem Value).run Tryd.prog w = .ok (.int .u64 (x % 18446744073709551616 ||| y % 18446744073709551616 : Nat)) w := by
  go_simp
  exact bits_or64 x y
theorem b_shr1 (x : Nat) (p q : Operand) (w : World) : (do eqGuard .shr 28 p q (.int .u64 (x : Nat)) (.int .u64 1); binOp .shr 28 (.int .u64 (x : Nat)) (.int .u64 1) : Sem Value).run Tryd.prog w = .ok (.int .u64 (x / 2 : Nat)) w := by
  go_simp
theorem b_shl63 (x : Nat) (p q : Operand) (w : World) : (do eqGuard .shl 28 p q (.int .u64 (x : Nat)) (.int .u64 63); binOp .shl 28 (.int .u64 (x : Nat)) (.int .u64 63) : Sem Value).run Tryd.prog w = .ok (.int .u64 (x * 9223372036854775808 % 18446744073709551616 : Nat)) w := by
  go_simp
  exact wrap_nat (x * 9223372036854775808)
theorem eq_arr {P : Program} {d t el : Nat} {k k' : IntKind} (ht : P.underlying t = some (.array 4 el)) (he : P.underlying el = some (.int k')) (hs : ∀ w, (Go.sizeOf el).run P w = .ok 1 w) (a0 a1 a2 a3 b0 b1 b2 b3 : Int) (w : World) :
    (Op.equalIn (d + 2) t (.agg #[.int k a0, .int k a1, .int k a2, .int k a3]) (.agg #[.int k b0, .int k b1, .int k b2, .int k b3])).run P w = .ok (a0 == b0 && a1 == b1 && a2 == b2 && a3 == b3) w := by
  have hi : ∀ a b : Int, (Op.equalIn (d + 1) el (.int k a) (.int k b)).run P w = .ok (a == b) w := fun a b => run_equalIn_int w d el k k' a b he
  have hp : ∀ (xs : Array Value) (i : Nat) (v : Value), xs[i]? = some v → (part el xs i).run P w = .ok v w := fun xs i v h => by
    simp [part, run_isAgg he, isAggD, h]
  rw [Op.equalIn]
  simp only [Sem.run_bind, run_underlying ht, Result.andThen_ok, hs]
  simp [List.range', hp, hi]
  by_cases h0 : a0 = b0 <;> by_cases h1 : a1 = b1 <;> by_cases h2 : a2 = b2 <;> by_cases h3 : a3 = b3 <;> simp [h0, h1, h2, h3]
theorem beq_nat (x y : Nat) : ((x : Int) == (y : Int)) = decide (x = y) := by
  by_cases h : x = y
  · simp [h]
  · simp [h]; omega
theorem eql_num (t : TypeId) (ht : t = 59 ∨ t = 29) (a0 a1 a2 a3 b0 b1 b2 b3 : Nat) (p q : Operand) (w : World) :
    (do eqGuard .eql t p q (.agg #[.int .u64 a0, .int .u64 a1, .int .u64 a2, .int .u64 a3]) (.agg #[.int .u64 b0, .int .u64 b1, .int .u64 b2, .int .u64 b3]); binOp .eql t (.agg #[.int .u64 a0, .int .u64 a1, .int .u64 a2, .int .u64 a3]) (.agg #[.int .u64 b0, .int .u64 b1, .int .u64 b2, .int .u64 b3]) : Sem Value).run Tryd.prog w =
      .ok (.bool (decide (a0 = b0 ∧ a1 = b1 ∧ a2 = b2 ∧ a3 = b3))) w := by
  rcases ht with rfl | rfl
  · go_simp
    rw [eq_arr Tryd.underlying59 Tryd.underlying28 Tryd.sizeOf28]
    simp only [Result.andThen, beq_nat]
    simp [Bool.and_assoc]
  · go_simp
    rw [eq_arr Tryd.underlying29 Tryd.underlying28 Tryd.sizeOf28]
    simp only [Result.andThen, beq_nat]
    simp [Bool.and_assoc]
theorem neq_num (a0 a1 a2 a3 b0 b1 b2 b3 : Nat) (p q : Operand) (w : World) :
    (do eqGuard .neq 59 p q (.agg #[.int .u64 a0, .int .u64 a1, .int .u64 a2, .int .u64 a3]) (.agg #[.int .u64 b0, .int .u64 b1, .int .u64 b2, .int .u64 b3]); binOp .neq 59 (.agg #[.int .u64 a0, .int .u64 a1, .int .u64 a2, .int .u64 a3]) (.agg #[.int .u64 b0, .int .u64 b1, .int .u64 b2, .int .u64 b3]) : Sem Value).run Tryd.prog w =
      .ok (.bool (!decide (a0 = b0 ∧ a1 = b1 ∧ a2 = b2 ∧ a3 = b3))) w := by
  go_simp
  rw [eq_arr Tryd.underlying59 Tryd.underlying28 Tryd.sizeOf28]
  simp only [Result.andThen, beq_nat]
  simp [Bool.and_assoc]
end Go.Proofs.YtbnfanmolphliaaDoor
