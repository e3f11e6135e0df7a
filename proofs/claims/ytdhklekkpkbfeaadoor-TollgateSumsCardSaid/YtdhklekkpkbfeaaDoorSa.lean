import Derived.Test.YtdhklekkpkbfeaaDoorProg
import Derived.Test.YtdhklekkpkbfeaaDoorVj
import Derived.Test.YtdhklekkpkbfeaaDoorShb
namespace Go.Proofs.YtdhklekkpkbfeaaDoor
open Go.RowKit Go.Vx
open Go.Toll (Gw)
open TollSha
set_option maxHeartbeats 4000000
set_option maxRecDepth 100000
def b8 (b : Nat) : Value := .int .u8 (b : Int)
/-- a word. -/
def uv (x : W) : Value := .int .u32 (x.toNat : Int)
theorem w32 (x : W) : IntKind.u32.wrap (x.toNat : Int) = (x.toNat : Int) := by
  have := x.isLt
  rw [IntKind.wrap_u32]; omega
theorem of32 (x : W) : BitVec.ofInt 32 (x.toNat : Int) = x := by
  apply BitVec.eq_of_toNat_eq
  rw [BitVec.toNat_ofInt]
  have := x.isLt
  omega
theorem bx (x y : W) : bits .xor .u32 (x.toNat : Int) (y.toNat : Int) = ((x ^^^ y).toNat : Int) := by
  show IntKind.u32.wrap ((BitVec.ofInt 32 (x.toNat : Int) ^^^ BitVec.ofInt 32 (y.toNat : Int)).toNat : Int) = _
  rw [of32, of32, w32]
theorem ba (x y : W) : bits .and .u32 (x.toNat : Int) (y.toNat : Int) = ((x &&& y).toNat : Int) := by
  show IntKind.u32.wrap ((BitVec.ofInt 32 (x.toNat : Int) &&& BitVec.ofInt 32 (y.toNat : Int)).toNat : Int) = _
  rw [of32, of32, w32]
theorem bo (x y : W) : bits .or .u32 (x.toNat : Int) (y.toNat : Int) = ((x ||| y).toNat : Int) := by
  show IntKind.u32.wrap ((BitVec.ofInt 32 (x.toNat : Int) ||| BitVec.ofInt 32 (y.toNat : Int)).toNat : Int) = _
  rw [of32, of32, w32]
theorem xor32 (x y : W) (p q : Operand) (w : World) : (do eqGuard .xor 39 p q (uv x) (uv y); binOp .xor 39 (uv x) (uv y) : Sem Value).run Tryd.prog w = .ok (uv (x ^^^ y)) w := by
  have h := bx x y
  unfold uv
  go_simp
  try exact h
theorem and32 (x y : W) (p q : Operand) (w : World) : (do eqGuard .and 39 p q (uv x) (uv y); binOp .and 39 (uv x) (uv y) : Sem Value).run Tryd.prog w = .ok (uv (x &&& y)) w := by
  have h := ba x y
  unfold uv
  go_simp
  try exact h
theorem or32 (x y : W) (p q : Operand) (w : World) : (do eqGuard .or 39 p q (uv x) (uv y); binOp .or 39 (uv x) (uv y) : Sem Value).run Tryd.prog w = .ok (uv (x ||| y)) w := by
  have h := bo x y
  unfold uv
  go_simp
  try exact h
theorem add32 (x y : W) (p q : Operand) (w : World) : (do eqGuard .add 39 p q (uv x) (uv y); binOp .add 39 (uv x) (uv y) : Sem Value).run Tryd.prog w = .ok (uv (x + y)) w := by
  have h : IntKind.u32.wrap ((x.toNat : Int) + (y.toNat : Int)) = ((x + y).toNat : Int) := by rw [IntKind.wrap_u32, BitVec.toNat_add]; omega
  unfold uv
  go_simp
  try exact h
theorem shl32 (x : W) (k : Nat) (hk : k < 32) (p q : Operand) (w : World) : (do eqGuard .shl 39 p q (uv x) (.int .u64 (k : Nat)); binOp .shl 39 (uv x) (.int .u64 (k : Nat)) : Sem Value).run Tryd.prog w = .ok (uv (x <<< k)) w := by
  have h2 : (x <<< k).toNat = (x.toNat * 2 ^ k) % 4294967296 := by rw [BitVec.toNat_shiftLeft, Nat.shiftLeft_eq]
  have h : IntKind.u32.wrap ((x.toNat : Int) * 2 ^ k) = ((x.toNat * 2 ^ k % 4294967296 : Nat) : Int) := by
    rw [IntKind.wrap_u32]
    have : ((x.toNat : Int) * 2 ^ k) = ((x.toNat * 2 ^ k : Nat) : Int) := by rw [Int.natCast_mul, Int.natCast_pow]; rfl
    rw [this]; omega
  unfold uv
  rw [h2]
  generalize x.toNat = y at h
  obtain ⟨z, hz⟩ : ∃ z, y * 2 ^ k % 4294967296 = z := ⟨_, rfl⟩
  rw [hz] at h ⊢
  go_simp
  try rw [Nat.min_eq_left (by omega)]
  try exact h
theorem shr32 (x : W) (k : Nat) (hk : k < 32) (p q : Operand) (w : World) : (do eqGuard .shr 39 p q (uv x) (.int .u64 (k : Nat)); binOp .shr 39 (uv x) (.int .u64 (k : Nat)) : Sem Value).run Tryd.prog w = .ok (uv (x >>> k)) w := by
  have h : (x >>> k).toNat = x.toNat / 2 ^ k := by rw [BitVec.toNat_ushiftRight, Nat.shiftRight_eq_div_pow]
  unfold uv
  rw [h]
  go_simp
  try rw [Nat.min_eq_left (by omega)]
theorem cv32 {b : Nat} (h : b < 256) (w : World) : (convert 5 39 (b8 b)).run Tryd.prog w = .ok (uv (BitVec.ofNat 32 b)) w := by
  have e : (BitVec.ofNat 32 b).toNat = b := by rw [BitVec.toNat_ofNat]; omega
  have e2 : IntKind.u32.wrap (b : Int) = (b : Int) := by rw [IntKind.wrap_u32]; omega
  unfold uv b8 convert
  rw [e]
  go_simp
  try exact e2
theorem negn {n : Nat} (h : n < 32) (w : World) : (Op.unary .neg (.int .i64 (n : Nat))).run Tryd.prog w = .ok (.int .i64 (-(n : Int))) w := by
  have e : IntKind.i64.wrap (-(n : Int)) = -(n : Int) := i64w (by omega) (by omega)
  unfold Op.unary
  go_simp
theorem cvn {n : Nat} (h0 : 0 < n) (h : n < 32) (w : World) : (convert 3 48 (.int .i64 (-(n : Int)))).run Tryd.prog w = .ok (.int .u64 ((18446744073709551616 - n : Nat) : Int)) w := by
  unfold convert
  go_simp
  rw [IntKind.wrap_u64]; omega
theorem an31 {n : Nat} (h0 : 0 < n) (h : n < 32) (p q : Operand) (w : World) : (do eqGuard .and 48 p q (.int .u64 ((18446744073709551616 - n : Nat) : Int)) (.int .u64 31); binOp .and 48 (.int .u64 ((18446744073709551616 - n : Nat) : Int)) (.int .u64 31) : Sem Value).run Tryd.prog w = .ok (.int .u64 ((32 - n : Nat) : Int)) w := by
  have h3 : bits .and .u64 ((18446744073709551616 - n : Nat) : Int) 31 = ((32 - n : Nat) : Int) := by
    show IntKind.u64.wrap ((BitVec.ofInt 64 ((18446744073709551616 - n : Nat) : Int) &&& BitVec.ofInt 64 31).toNat : Int) = _
    rw [BitVec.toNat_and, BitVec.toNat_ofInt, BitVec.toNat_ofInt]
    have h1 : (((18446744073709551616 - n : Nat) : Int) % ((2 ^ 64 : Nat) : Int)).toNat = 18446744073709551616 - n := by omega
    have h2 : ((31 : Int) % ((2 ^ 64 : Nat) : Int)).toNat = 2 ^ 5 - 1 := by decide
    rw [h1, h2, Nat.and_two_pow_sub_one_eq_mod, IntKind.wrap_u64]
    omega
  generalize 18446744073709551616 - n = m at h3
  go_simp
  try exact h3
theorem sb32 {n : Nat} (h : n < 32) (p q : Operand) (w : World) : (do eqGuard .sub 48 p q (.int .u64 32) (.int .u64 ((32 - n : Nat) : Int)); binOp .sub 48 (.int .u64 32) (.int .u64 ((32 - n : Nat) : Int)) : Sem Value).run Tryd.prog w = .ok (.int .u64 ((n : Nat) : Int)) w := by
  have e : IntKind.u64.wrap (32 - ((32 - n : Nat) : Int)) = (n : Int) := by rw [IntKind.wrap_u64]; omega
  generalize 32 - n = m at e
  go_simp
  try exact e
theorem rot_ok {n : Nat} (x : W) (h0 : 0 < n) (h : n < 32) (w : World) : Calls Tryd.prog 24 #[uv x, .int .i64 (-(n : Int))] w fun e w' => e = .returned (uv ((x <<< (32 - n)) ||| (x >>> n))) ∧ Bw w w' := by
  go_enter Tryd.func24, Tryd.ntmps24
  refine ve_go ?_
  simp only [List.map_cons, List.map_nil]
  refine vseq ?_
  apply vrp
  · apply VE.cons
    · exact ev_assign rfl (gn rfl)
    simp only [nm, seval]
    exact VE.nil _
  · kernel_rfl
  change VOk _ _ _ _ _
  refine vseq ?_
  apply vrp
  · apply VE.cons
    · exact ev_move rfl (gn rfl)
    simp only [nm, seval]
    apply VE.cons
    · exact ev_conv rfl (gn rfl) rfl (fun w => cvn h0 h w)
    simp only [nm, seval]
    apply VE.cons
    · exact ev_bin rfl (gn rfl) rfl rfl (fun w => an31 h0 h _ _ w)
    simp only [nm, seval]
    apply VE.cons
    · exact ev_assign rfl (gn rfl)
    simp only [nm, seval]
    exact VE.nil _
  · kernel_rfl
  change VOk _ _ _ _ _
  refine vseq ?_
  apply vrp
  · apply VE.cons
    · exact ev_move rfl (gn rfl)
    simp only [nm, seval]
    apply VE.cons
    · exact ev_move rfl (gn rfl)
    simp only [nm, seval]
    apply VE.cons
    · exact ev_bin rfl (gn rfl) rfl rfl (fun w => shl32 x (32 - n) (by omega) _ _ w)
    simp only [nm, seval]
    apply VE.cons
    · exact ev_move rfl (gn rfl)
    simp only [nm, seval]
    apply VE.cons
    · exact ev_move rfl (gn rfl)
    simp only [nm, seval]
    apply VE.cons
    · exact ev_bin rfl (gn rfl) rfl rfl (fun w => sb32 h _ _ w)
    simp only [nm, seval]
    apply VE.cons
    · exact ev_bin rfl (gn rfl) rfl rfl (fun w => shr32 x n (by omega) _ _ w)
    simp only [nm, seval]
    apply VE.cons
    · exact ev_bin rfl (gn rfl) rfl rfl (fun w => or32 _ _ _ _ w)
    simp only [nm, seval]
    apply VE.cons
    · exact ev_assign rfl (gn rfl)
    simp only [nm, seval]
    exact VE.nil _
  · kernel_rfl
  change VOk _ _ _ _ _
  refine vret ?_
  refine post_ret (res1 Tryd.results24 (rv_tmp rfl)) ?_
  intro ρ w' hr
  exact ⟨rfl, hr.1⟩
theorem right_ok {n : Nat} (x : W) (h0 : 0 < n) (h : n < 32) (w : World) : Calls Tryd.prog 21 #[uv x, .int .i64 (n : Nat)] w fun e w' => e = .returned (uv (rr x n)) ∧ Bw w w' := by
  go_enter Tryd.func21, Tryd.ntmps21
  refine ve_go ?_
  simp only [List.map_cons, List.map_nil]
  refine vseq ?_
  apply vrp
  · apply VE.cons
    · exact ev_assign rfl (gn rfl)
    simp only [nm, seval]
    exact VE.nil _
  · kernel_rfl
  change VOk _ _ _ _ _
  refine vseq ?_
  apply vrp
  · apply VE.cons
    · exact ev_move rfl (gn rfl)
    simp only [nm, seval]
    apply VE.cons
    · exact ev_move rfl (gn rfl)
    simp only [nm, seval]
    apply VE.cons
    · exact ev_un rfl (gn rfl) rfl (fun w => negn h w)
    simp only [nm, seval]
    apply VE.cons
    · exact ev_callb (v := uv (rr x n)) rfl (gn rfl) rfl (en_of Tryd.func24 (by kernel_rfl) rfl) (fun w' hb => by have := rot_ok x h0 h w'; rw [BitVec.or_comm] at this; exact this)
    simp only [nm, seval]
    apply VE.cons
    · exact ev_assign rfl (gn rfl)
    simp only [nm, seval]
    exact VE.nil _
  · kernel_rfl
  change VOk _ _ _ _ _
  refine vret ?_
  refine post_ret (res1 Tryd.results21 (rv_tmp rfl)) ?_
  intro ρ w' hr
  exact ⟨rfl, hr.1⟩
end Go.Proofs.YtdhklekkpkbfeaaDoor
