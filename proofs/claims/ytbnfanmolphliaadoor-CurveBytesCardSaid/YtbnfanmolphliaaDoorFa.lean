import Derived.Test.YtbnfanmolphliaaDoorCl
import Derived.Test.YtbnfanmolphliaaDoorLc
import Derived.Test.YtbnfanmolphliaaDoorMult
import Derived.Laws.Tables
/-! The field's numbers, points by three numbers, bytes: how they lie in memory; the operations by contract. -/
namespace Go.Proofs.YtbnfanmolphliaaDoor
open Go.RowKit Go.Toll TollMont
open TollEc (F pp cb Jp Pt)
/-- a part of a number of the field. -/
def lv (x : F) (i : Nat) : Nat := lim x.val i
def NF (x : F) : Value := .agg #[.int .u64 (lv x 0 : Nat), .int .u64 (lv x 1 : Nat), .int .u64 (lv x 2 : Nat), .int .u64 (lv x 3 : Nat)]
theorem NF_eq (x : F) : NF x = N x.val := rfl
def TF (j : Jp) : Value := .agg #[.int .u64 (lv j.x 0 : Nat), .int .u64 (lv j.x 1 : Nat), .int .u64 (lv j.x 2 : Nat), .int .u64 (lv j.x 3 : Nat), .int .u64 (lv j.y 0 : Nat), .int .u64 (lv j.y 1 : Nat), .int .u64 (lv j.y 2 : Nat), .int .u64 (lv j.y 3 : Nat), .int .u64 (lv j.z 0 : Nat), .int .u64 (lv j.z 1 : Nat), .int .u64 (lv j.z 2 : Nat), .int .u64 (lv j.z 3 : Nat)]
/-- byte i of a number, the highest first. -/
def byt (n i : Nat) : Nat := lim n (3 - i / 8) / 2 ^ (56 - 8 * (i % 8)) % 256
def B32 (n : Nat) : Value := .agg #[.int .u8 (byt n 0 : Nat), .int .u8 (byt n 1 : Nat), .int .u8 (byt n 2 : Nat), .int .u8 (byt n 3 : Nat), .int .u8 (byt n 4 : Nat), .int .u8 (byt n 5 : Nat), .int .u8 (byt n 6 : Nat), .int .u8 (byt n 7 : Nat), .int .u8 (byt n 8 : Nat), .int .u8 (byt n 9 : Nat), .int .u8 (byt n 10 : Nat), .int .u8 (byt n 11 : Nat), .int .u8 (byt n 12 : Nat), .int .u8 (byt n 13 : Nat), .int .u8 (byt n 14 : Nat), .int .u8 (byt n 15 : Nat), .int .u8 (byt n 16 : Nat), .int .u8 (byt n 17 : Nat), .int .u8 (byt n 18 : Nat), .int .u8 (byt n 19 : Nat), .int .u8 (byt n 20 : Nat), .int .u8 (byt n 21 : Nat), .int .u8 (byt n 22 : Nat), .int .u8 (byt n 23 : Nat), .int .u8 (byt n 24 : Nat), .int .u8 (byt n 25 : Nat), .int .u8 (byt n 26 : Nat), .int .u8 (byt n 27 : Nat), .int .u8 (byt n 28 : Nat), .int .u8 (byt n 29 : Nat), .int .u8 (byt n 30 : Nat), .int .u8 (byt n 31 : Nat)]
def PT (x y : Nat) : Value := .agg #[.int .u8 (byt x 0 : Nat), .int .u8 (byt x 1 : Nat), .int .u8 (byt x 2 : Nat), .int .u8 (byt x 3 : Nat), .int .u8 (byt x 4 : Nat), .int .u8 (byt x 5 : Nat), .int .u8 (byt x 6 : Nat), .int .u8 (byt x 7 : Nat), .int .u8 (byt x 8 : Nat), .int .u8 (byt x 9 : Nat), .int .u8 (byt x 10 : Nat), .int .u8 (byt x 11 : Nat), .int .u8 (byt x 12 : Nat), .int .u8 (byt x 13 : Nat), .int .u8 (byt x 14 : Nat), .int .u8 (byt x 15 : Nat), .int .u8 (byt x 16 : Nat), .int .u8 (byt x 17 : Nat), .int .u8 (byt x 18 : Nat), .int .u8 (byt x 19 : Nat), .int .u8 (byt x 20 : Nat), .int .u8 (byt x 21 : Nat), .int .u8 (byt x 22 : Nat), .int .u8 (byt x 23 : Nat), .int .u8 (byt x 24 : Nat), .int .u8 (byt x 25 : Nat), .int .u8 (byt x 26 : Nat), .int .u8 (byt x 27 : Nat), .int .u8 (byt x 28 : Nat), .int .u8 (byt x 29 : Nat), .int .u8 (byt x 30 : Nat), .int .u8 (byt x 31 : Nat), .int .u8 (byt y 0 : Nat), .int .u8 (byt y 1 : Nat), .int .u8 (byt y 2 : Nat), .int .u8 (byt y 3 : Nat), .int .u8 (byt y 4 : Nat), .int .u8 (byt y 5 : Nat), .int .u8 (byt y 6 : Nat), .int .u8 (byt y 7 : Nat), .int .u8 (byt y 8 : Nat), .int .u8 (byt y 9 : Nat), .int .u8 (byt y 10 : Nat), .int .u8 (byt y 11 : Nat), .int .u8 (byt y 12 : Nat), .int .u8 (byt y 13 : Nat), .int .u8 (byt y 14 : Nat), .int .u8 (byt y 15 : Nat), .int .u8 (byt y 16 : Nat), .int .u8 (byt y 17 : Nat), .int .u8 (byt y 18 : Nat), .int .u8 (byt y 19 : Nat), .int .u8 (byt y 20 : Nat), .int .u8 (byt y 21 : Nat), .int .u8 (byt y 22 : Nat), .int .u8 (byt y 23 : Nat), .int .u8 (byt y 24 : Nat), .int .u8 (byt y 25 : Nat), .int .u8 (byt y 26 : Nat), .int .u8 (byt y 27 : Nat), .int .u8 (byt y 28 : Nat), .int .u8 (byt y 29 : Nat), .int .u8 (byt y 30 : Nat), .int .u8 (byt y 31 : Nat)]
def FV (b : Nat) : Value := .agg #[.pointer (some ⟨b, 0, none⟩)]
theorem nNF (x : F) : Value.cells (NF x) = #[.int .u64 (lv x 0 : Nat), .int .u64 (lv x 1 : Nat), .int .u64 (lv x 2 : Nat), .int .u64 (lv x 3 : Nat)] := rfl
theorem nTF (j : Jp) : Value.cells (TF j) = #[.int .u64 (lv j.x 0 : Nat), .int .u64 (lv j.x 1 : Nat), .int .u64 (lv j.x 2 : Nat), .int .u64 (lv j.x 3 : Nat), .int .u64 (lv j.y 0 : Nat), .int .u64 (lv j.y 1 : Nat), .int .u64 (lv j.y 2 : Nat), .int .u64 (lv j.y 3 : Nat), .int .u64 (lv j.z 0 : Nat), .int .u64 (lv j.z 1 : Nat), .int .u64 (lv j.z 2 : Nat), .int .u64 (lv j.z 3 : Nat)] := rfl
theorem nB32 (n : Nat) : Value.cells (B32 n) = #[.int .u8 (byt n 0 : Nat), .int .u8 (byt n 1 : Nat), .int .u8 (byt n 2 : Nat), .int .u8 (byt n 3 : Nat), .int .u8 (byt n 4 : Nat), .int .u8 (byt n 5 : Nat), .int .u8 (byt n 6 : Nat), .int .u8 (byt n 7 : Nat), .int .u8 (byt n 8 : Nat), .int .u8 (byt n 9 : Nat), .int .u8 (byt n 10 : Nat), .int .u8 (byt n 11 : Nat), .int .u8 (byt n 12 : Nat), .int .u8 (byt n 13 : Nat), .int .u8 (byt n 14 : Nat), .int .u8 (byt n 15 : Nat), .int .u8 (byt n 16 : Nat), .int .u8 (byt n 17 : Nat), .int .u8 (byt n 18 : Nat), .int .u8 (byt n 19 : Nat), .int .u8 (byt n 20 : Nat), .int .u8 (byt n 21 : Nat), .int .u8 (byt n 22 : Nat), .int .u8 (byt n 23 : Nat), .int .u8 (byt n 24 : Nat), .int .u8 (byt n 25 : Nat), .int .u8 (byt n 26 : Nat), .int .u8 (byt n 27 : Nat), .int .u8 (byt n 28 : Nat), .int .u8 (byt n 29 : Nat), .int .u8 (byt n 30 : Nat), .int .u8 (byt n 31 : Nat)] := rfl
theorem nPT (x y : Nat) : Value.cells (PT x y) = #[.int .u8 (byt x 0 : Nat), .int .u8 (byt x 1 : Nat), .int .u8 (byt x 2 : Nat), .int .u8 (byt x 3 : Nat), .int .u8 (byt x 4 : Nat), .int .u8 (byt x 5 : Nat), .int .u8 (byt x 6 : Nat), .int .u8 (byt x 7 : Nat), .int .u8 (byt x 8 : Nat), .int .u8 (byt x 9 : Nat), .int .u8 (byt x 10 : Nat), .int .u8 (byt x 11 : Nat), .int .u8 (byt x 12 : Nat), .int .u8 (byt x 13 : Nat), .int .u8 (byt x 14 : Nat), .int .u8 (byt x 15 : Nat), .int .u8 (byt x 16 : Nat), .int .u8 (byt x 17 : Nat), .int .u8 (byt x 18 : Nat), .int .u8 (byt x 19 : Nat), .int .u8 (byt x 20 : Nat), .int .u8 (byt x 21 : Nat), .int .u8 (byt x 22 : Nat), .int .u8 (byt x 23 : Nat), .int .u8 (byt x 24 : Nat), .int .u8 (byt x 25 : Nat), .int .u8 (byt x 26 : Nat), .int .u8 (byt x 27 : Nat), .int .u8 (byt x 28 : Nat), .int .u8 (byt x 29 : Nat), .int .u8 (byt x 30 : Nat), .int .u8 (byt x 31 : Nat), .int .u8 (byt y 0 : Nat), .int .u8 (byt y 1 : Nat), .int .u8 (byt y 2 : Nat), .int .u8 (byt y 3 : Nat), .int .u8 (byt y 4 : Nat), .int .u8 (byt y 5 : Nat), .int .u8 (byt y 6 : Nat), .int .u8 (byt y 7 : Nat), .int .u8 (byt y 8 : Nat), .int .u8 (byt y 9 : Nat), .int .u8 (byt y 10 : Nat), .int .u8 (byt y 11 : Nat), .int .u8 (byt y 12 : Nat), .int .u8 (byt y 13 : Nat), .int .u8 (byt y 14 : Nat), .int .u8 (byt y 15 : Nat), .int .u8 (byt y 16 : Nat), .int .u8 (byt y 17 : Nat), .int .u8 (byt y 18 : Nat), .int .u8 (byt y 19 : Nat), .int .u8 (byt y 20 : Nat), .int .u8 (byt y 21 : Nat), .int .u8 (byt y 22 : Nat), .int .u8 (byt y 23 : Nat), .int .u8 (byt y 24 : Nat), .int .u8 (byt y 25 : Nat), .int .u8 (byt y 26 : Nat), .int .u8 (byt y 27 : Nat), .int .u8 (byt y 28 : Nat), .int .u8 (byt y 29 : Nat), .int .u8 (byt y 30 : Nat), .int .u8 (byt y 31 : Nat)] := rfl
theorem nFV (b : Nat) : Value.cells (FV b) = #[.pointer (some ⟨b, 0, none⟩)] := rfl
theorem nN (n : Nat) : Value.cells (N n) = #[.int .u64 (lim n 0 : Nat), .int .u64 (lim n 1 : Nat), .int .u64 (lim n 2 : Nat), .int .u64 (lim n 3 : Nat)] := rfl
theorem nm2 : type_of% nm ∧ type_of% nNF ∧ type_of% nTF ∧ type_of% nB32 ∧ type_of% nPT ∧ type_of% nFV ∧ type_of% nN := ⟨nm, nNF, nTF, nB32, nPT, nFV, nN⟩
theorem mdp : Md pp := ⟨by decide, by decide, by decide⟩
theorem val_lt (x : F) : x.val < R := Nat.lt_trans x.isLt (by decide)
variable {b : Nat}
theorem mulF (x y : F) (w : World) (ha : At w b pp) : Calls Tryd.prog 54 #[ptr b, NF x, NF y] w fun e w' => e = .returned (NF (x * y)) ∧ Gw w w' :=
  mul_ok mdp (val_lt x) (val_lt y) w ha
theorem addF (x y : F) (w : World) (ha : At w b pp) : Calls Tryd.prog 53 #[ptr b, NF x, NF y] w fun e w' => e = .returned (NF (x + y)) ∧ Gw w w' :=
  madd_ok mdp (val_lt x) (val_lt y) w ha
theorem sub_val (x y : F) : (x - y).val = subm pp x.val y.val := by
  have hx := x.isLt; have hy := y.isLt
  rw [Fin.sub_def]
  unfold subm
  rw [Nat.mod_eq_of_lt hx, Nat.mod_eq_of_lt hy]
  show (pp - y.val + x.val) % pp = _
  congr 1; omega
theorem subF (x y : F) (w : World) (ha : At w b pp) : Calls Tryd.prog 55 #[ptr b, NF x, NF y] w fun e w' => e = .returned (NF (x - y)) ∧ Gw w w' := by
  have := msub_ok mdp (val_lt x) (val_lt y) w ha
  rw [← sub_val] at this
  exact this
theorem lessP (n : Nat) (hn : n < R) (w : World) : Calls Tryd.prog 52 #[N n, N pp] w fun e w' => e = .returned (.bool (decide (n < pp))) ∧ Gw w w' :=
  less_ok n pp hn (by decide) w
theorem zeq (x : F) (p q : Operand) (w : World) : (do eqGuard .eql 59 p q (NF x) (.agg #[.int .u64 0, .int .u64 0, .int .u64 0, .int .u64 0]); binOp .eql 59 (NF x) (.agg #[.int .u64 0, .int .u64 0, .int .u64 0, .int .u64 0]) : Sem Value).run Tryd.prog w = .ok (.bool (decide (x = 0))) w := by
  have := eql_num 59 (.inl rfl) (lv x 0) (lv x 1) (lv x 2) (lv x 3) 0 0 0 0 p q w
  have e : decide (lv x 0 = 0 ∧ lv x 1 = 0 ∧ lv x 2 = 0 ∧ lv x 3 = 0) = decide (x = 0) := decide_eq_decide.2 ((is_zero (val_lt x)).trans ⟨fun h => Fin.ext h, fun h => by rw [h]; rfl⟩)
  rw [e] at this
  exact this
theorem zeq_t {x : F} (h : x = 0) (p q : Operand) (w : World) : (do eqGuard .eql 59 p q (NF x) (.agg #[.int .u64 0, .int .u64 0, .int .u64 0, .int .u64 0]); binOp .eql 59 (NF x) (.agg #[.int .u64 0, .int .u64 0, .int .u64 0, .int .u64 0]) : Sem Value).run Tryd.prog w = .ok (.bool true) w := by
  have := zeq x p q w; rw [decide_eq_true h] at this; exact this
theorem zeq_f {x : F} (h : x ≠ 0) (p q : Operand) (w : World) : (do eqGuard .eql 59 p q (NF x) (.agg #[.int .u64 0, .int .u64 0, .int .u64 0, .int .u64 0]); binOp .eql 59 (NF x) (.agg #[.int .u64 0, .int .u64 0, .int .u64 0, .int .u64 0]) : Sem Value).run Tryd.prog w = .ok (.bool false) w := by
  have := zeq x p q w; rw [decide_eq_false h] at this; exact this
theorem eqF (x y : F) (p q : Operand) (w : World) : (do eqGuard .eql 59 p q (NF x) (NF y); binOp .eql 59 (NF x) (NF y) : Sem Value).run Tryd.prog w = .ok (.bool (decide (x = y))) w := by
  have := eql_num 59 (.inl rfl) (lv x 0) (lv x 1) (lv x 2) (lv x 3) (lv y 0) (lv y 1) (lv y 2) (lv y 3) p q w
  have e : decide (lv x 0 = lv y 0 ∧ lv x 1 = lv y 1 ∧ lv x 2 = lv y 2 ∧ lv x 3 = lv y 3) = decide (x = y) := decide_eq_decide.2 ⟨fun ⟨a, b, c, d⟩ => Fin.ext (lim_inj (val_lt x) (val_lt y) a b c d), fun h => by rw [h]; exact ⟨rfl, rfl, rfl, rfl⟩⟩
  rw [e] at this
  exact this
/-- the inverse; nought has none. -/
theorem invF_ok {x i : F} (h : x * i = 1) (w : World) (ha : At w b pp) : Calls Tryd.prog 58 #[ptr b, NF x] w fun e w' => e = .returned (.tuple #[NF i, .int .i64 0]) ∧ Gw w w' := by
  have hv : i.val * x.val % pp = 1 := by rw [Nat.mul_comm]; exact congrArg Fin.val h
  have := inv_ok mdp (val_lt x) w ha
  rw [if_pos (by
    have h1 : Nat.gcd x.val pp ∣ i.val * x.val % pp := (Nat.dvd_mod_iff (Nat.gcd_dvd_right _ _)).2 (Nat.dvd_trans (Nat.gcd_dvd_left _ _) ⟨i.val, Nat.mul_comm _ _⟩)
    rw [hv] at h1; exact Nat.dvd_one.1 h1), minv_eq i.isLt hv] at this
  exact this
theorem invF_no (w : World) (ha : At w b pp) : Calls Tryd.prog 58 #[ptr b, NF 0] w fun e w' => e = .returned (.tuple #[N 0, .int .i64 1]) ∧ Gw w w' := by
  have := inv_ok mdp (x := 0) (by decide) w ha
  rw [if_neg (by decide)] at this
  exact this
theorem dn_B32 (n : Nat) : (.agg #[.int .u8 ((lwF (shrF (lim n 3) 56)) : Nat), .int .u8 ((lwF (shrF (lim n 3) 48)) : Nat), .int .u8 ((lwF (shrF (lim n 3) 40)) : Nat), .int .u8 ((lwF (shrF (lim n 3) 32)) : Nat), .int .u8 ((lwF (shrF (lim n 3) 24)) : Nat), .int .u8 ((lwF (shrF (lim n 3) 16)) : Nat), .int .u8 ((lwF (shrF (lim n 3) 8)) : Nat), .int .u8 ((lwF (shrF (lim n 3) 0)) : Nat), .int .u8 ((lwF (shrF (lim n 2) 56)) : Nat), .int .u8 ((lwF (shrF (lim n 2) 48)) : Nat), .int .u8 ((lwF (shrF (lim n 2) 40)) : Nat), .int .u8 ((lwF (shrF (lim n 2) 32)) : Nat), .int .u8 ((lwF (shrF (lim n 2) 24)) : Nat), .int .u8 ((lwF (shrF (lim n 2) 16)) : Nat), .int .u8 ((lwF (shrF (lim n 2) 8)) : Nat), .int .u8 ((lwF (shrF (lim n 2) 0)) : Nat), .int .u8 ((lwF (shrF (lim n 1) 56)) : Nat), .int .u8 ((lwF (shrF (lim n 1) 48)) : Nat), .int .u8 ((lwF (shrF (lim n 1) 40)) : Nat), .int .u8 ((lwF (shrF (lim n 1) 32)) : Nat), .int .u8 ((lwF (shrF (lim n 1) 24)) : Nat), .int .u8 ((lwF (shrF (lim n 1) 16)) : Nat), .int .u8 ((lwF (shrF (lim n 1) 8)) : Nat), .int .u8 ((lwF (shrF (lim n 1) 0)) : Nat), .int .u8 ((lwF (shrF (lim n 0) 56)) : Nat), .int .u8 ((lwF (shrF (lim n 0) 48)) : Nat), .int .u8 ((lwF (shrF (lim n 0) 40)) : Nat), .int .u8 ((lwF (shrF (lim n 0) 32)) : Nat), .int .u8 ((lwF (shrF (lim n 0) 24)) : Nat), .int .u8 ((lwF (shrF (lim n 0) 16)) : Nat), .int .u8 ((lwF (shrF (lim n 0) 8)) : Nat), .int .u8 ((lwF (shrF (lim n 0) 0)) : Nat)] : Value) = B32 n := rfl
theorem bytesN (n : Nat) (w : World) : Calls Tryd.prog 34 #[N n] w fun e w' => e = .returned (B32 n) ∧ Gw w w' := bytes_of n w
theorem ofN (n : Nat) (hn : n < R) (w : World) : Calls Tryd.prog 40 #[B32 n] w fun e w' => e = .returned (N n) ∧ Gw w w' := of_bytes n hn w
theorem bytesF (x : F) (w : World) : Calls Tryd.prog 34 #[NF x] w fun e w' => e = .returned (B32 x.val) ∧ Gw w w' := bytes_of x.val w
theorem ofF (x : F) (w : World) : Calls Tryd.prog 40 #[B32 x.val] w fun e w' => e = .returned (NF x) ∧ Gw w w' := of_bytes x.val (val_lt x) w
theorem built59_0 : Tryd.prog.built 59 [] = some #[.int .u64 0, .int .u64 0, .int .u64 0, .int .u64 0] := by kernel_rfl
theorem built67_0 : Tryd.prog.built 67 [] = some #[.int .u64 0, .int .u64 0, .int .u64 0, .int .u64 0, .int .u64 0, .int .u64 0, .int .u64 0, .int .u64 0, .int .u64 0, .int .u64 0, .int .u64 0, .int .u64 0] := by kernel_rfl
theorem built24_0 : Tryd.prog.built 24 [] = some #[.int .u8 0, .int .u8 0, .int .u8 0, .int .u8 0, .int .u8 0, .int .u8 0, .int .u8 0, .int .u8 0, .int .u8 0, .int .u8 0, .int .u8 0, .int .u8 0, .int .u8 0, .int .u8 0, .int .u8 0, .int .u8 0, .int .u8 0, .int .u8 0, .int .u8 0, .int .u8 0, .int .u8 0, .int .u8 0, .int .u8 0, .int .u8 0, .int .u8 0, .int .u8 0, .int .u8 0, .int .u8 0, .int .u8 0, .int .u8 0, .int .u8 0, .int .u8 0, .int .u8 0, .int .u8 0, .int .u8 0, .int .u8 0, .int .u8 0, .int .u8 0, .int .u8 0, .int .u8 0, .int .u8 0, .int .u8 0, .int .u8 0, .int .u8 0, .int .u8 0, .int .u8 0, .int .u8 0, .int .u8 0, .int .u8 0, .int .u8 0, .int .u8 0, .int .u8 0, .int .u8 0, .int .u8 0, .int .u8 0, .int .u8 0, .int .u8 0, .int .u8 0, .int .u8 0, .int .u8 0, .int .u8 0, .int .u8 0, .int .u8 0, .int .u8 0] := by kernel_rfl
theorem built67_3 (x y z : F) : Tryd.prog.built 67 [(0, NF x), (1, NF y), (2, NF z)] = some #[.int .u64 (lv x 0 : Nat), .int .u64 (lv x 1 : Nat), .int .u64 (lv x 2 : Nat), .int .u64 (lv x 3 : Nat), .int .u64 (lv y 0 : Nat), .int .u64 (lv y 1 : Nat), .int .u64 (lv y 2 : Nat), .int .u64 (lv y 3 : Nat), .int .u64 (lv z 0 : Nat), .int .u64 (lv z 1 : Nat), .int .u64 (lv z 2 : Nat), .int .u64 (lv z 3 : Nat)] := by kernel_rfl
/-- the program's numbers, as its text lays them. -/
structure Laid (w : World) : Prop where
  bx : ∀ (j : Nat) (v : Value), (lims TollEc.bx.val)[j]? = some v → w.cell? ⟨0, 0 + j, none⟩ = some v
  bY : ∀ (j : Nat) (v : Value), (lims TollEc.bY.val)[j]? = some v → w.cell? ⟨1, 0 + j, none⟩ = some v
  nn : ∀ (j : Nat) (v : Value), (lims TollEc.nn)[j]? = some v → w.cell? ⟨2, 0 + j, none⟩ = some v
  pp : ∀ (j : Nat) (v : Value), (lims pp)[j]? = some v → w.cell? ⟨3, 0 + j, none⟩ = some v
  cb : ∀ (j : Nat) (v : Value), (lims cb.val)[j]? = some v → w.cell? ⟨4, 0 + j, none⟩ = some v
theorem Laid.gw {w w' : World} (h : Laid w) (g : Gw w w') : Laid w' :=
  ⟨fun j v hj => g.cell (h.bx j v hj), fun j v hj => g.cell (h.bY j v hj), fun j v hj => g.cell (h.nn j v hj), fun j v hj => g.cell (h.pp j v hj), fun j v hj => g.cell (h.cb j v hj)⟩
end Go.Proofs.YtbnfanmolphliaaDoor
