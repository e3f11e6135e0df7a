import Derived.Test.YtbnfanmolphliaaDoorCy
import Derived.Test.YtbnfanmolphliaaDoorTj
import Derived.Test.YtbnfanmolphliaaDoorTk
/-! The document's own numbers, by contract. -/
namespace Go.Proofs.YtbnfanmolphliaaDoor
open Go.RowKit Go.Toll TollMont
def pl (x y : Nat) : Nat := (x + y) % 18446744073709551616
def mi (x y : Nat) : Nat := (((x : Int) - (y : Int)) % 18446744073709551616).toNat
def ltB (x y : Nat) : Bool := decide (x < y)
def eqB (x : Nat) : Bool := decide (x = 1)
theorem carry_up {a b c : Nat} (ha : a < W) (hb : b < W) (hc : c ≤ 1) : pl (pl a b) c = (a + b + c) % W ∧ bn ((false || ltB (pl a b) a) || ltB (pl (pl a b) c) (pl a b)) = (a + b + c) / W := by
  unfold pl ltB bn
  simp only [W] at *
  refine ⟨by omega, ?_⟩
  by_cases h1 : (a + b) % 18446744073709551616 < a <;> by_cases h2 : ((a + b) % 18446744073709551616 + c) % 18446744073709551616 < (a + b) % 18446744073709551616 <;>
    simp only [h1, h2, decide_true, decide_false, Bool.or_false, Bool.or_true, if_true, Bool.false_eq_true, if_false] <;> omega
theorem carry_dn {a b c : Nat} (ha : a < W) (hb : b < W) (hc : c ≤ 1) : mi (mi a b) c = (a + W - b - c) % W ∧ bn ((false || ltB a b) || ltB (mi a b) c) = if a < b + c then 1 else 0 := by
  have e : mi a b = if a < b then a + W - b else a - b := by unfold mi; simp only [W] at *; split <;> omega
  unfold ltB bn
  rw [e]
  unfold mi
  simp only [W] at *
  refine ⟨by split <;> omega, ?_⟩
  by_cases h1 : a < b
  · simp only [h1, decide_true, Bool.false_or, Bool.true_or, if_true]; rw [if_pos (by omega)]
  · simp only [h1, decide_false, Bool.false_or, if_false]
    by_cases h2 : a - b < c
    · simp only [h2, decide_true, if_true]; rw [if_pos (by omega)]
    · simp only [h2, decide_false, Bool.false_eq_true, if_false]; rw [if_neg (by omega)]
theorem plus_ok (n m : Nat) (hn : n < R) (hm : m < R) (w : World) : Calls Tryd.prog 46 #[N n, N m] w fun e w' => e = .returned (.tuple #[N (n + m), .bool (decide ((n + m) / R = 1))]) ∧ Gw w w' := by
  obtain ⟨p0, q0⟩ := carry_up (lim_lt n 0) (lim_lt m 0) (Nat.zero_le 1)
  have l0 : (lim n 0 + lim m 0 + 0) / W ≤ 1 := by have := lim_lt n 0; have := lim_lt m 0; simp only [W] at *; omega
  obtain ⟨p1, q1⟩ := carry_up (lim_lt n 1) (lim_lt m 1) l0
  have l1 : (lim n 1 + lim m 1 + (lim n 0 + lim m 0 + 0) / W) / W ≤ 1 := by have := lim_lt n 1; have := lim_lt m 1; simp only [W] at *; omega
  obtain ⟨p2, q2⟩ := carry_up (lim_lt n 2) (lim_lt m 2) l1
  have l2 : (lim n 2 + lim m 2 + (lim n 1 + lim m 1 + (lim n 0 + lim m 0 + 0) / W) / W) / W ≤ 1 := by have := lim_lt n 2; have := lim_lt m 2; simp only [W] at *; omega
  obtain ⟨p3, q3⟩ := carry_up (lim_lt n 3) (lim_lt m 3) l2
  have h := plus_core pl ltB eqB (lim n 0) (lim n 1) (lim n 2) (lim n 3) (lim m 0) (lim m 1) (lim m 2) (lim m 3) w (fun x y p q w => b_add x y p q w) (fun x p q w => b_add x 0 p q w) (fun x y p q w => b_lss x y p q w) (fun x p q w => b_lss x 0 p q w) (fun x p q w => b_eq1 x p q w)
  rw [q0, p0, q1, p1, q2, p2, q3, p3] at h
  obtain ⟨e0, e1, e2, e3, e4⟩ := add_parts n m hn hm _ _ _ _ _ _ _ _ (rfl : (lim n 0 + lim m 0 + 0) % W = _) (rfl : (lim n 0 + lim m 0 + 0) / W = _) rfl rfl rfl rfl rfl rfl
  rw [e0, e1, e2, e3, e4] at h
  exact h
theorem minus_ok (n m : Nat) (hn : n < R) (hm : m < R) (w : World) : Calls Tryd.prog 47 #[N n, N m] w fun e w' => e = .returned (N (dif n m)) ∧ Gw w w' := by
  have b1 : ∀ a b : Nat, (if a < b then 1 else 0 : Nat) ≤ 1 := fun a b => by split <;> omega
  obtain ⟨p0, q0⟩ := carry_dn (lim_lt n 0) (lim_lt m 0) (Nat.zero_le 1)
  obtain ⟨p1, q1⟩ := carry_dn (lim_lt n 1) (lim_lt m 1) (b1 (lim n 0) (lim m 0 + 0))
  obtain ⟨p2, q2⟩ := carry_dn (lim_lt n 2) (lim_lt m 2) (b1 (lim n 1) (lim m 1 + (if lim n 0 < lim m 0 + 0 then 1 else 0)))
  obtain ⟨p3, q3⟩ := carry_dn (lim_lt n 3) (lim_lt m 3) (b1 (lim n 2) (lim m 2 + (if lim n 1 < lim m 1 + (if lim n 0 < lim m 0 + 0 then 1 else 0) then 1 else 0)))
  have h := minus_core mi ltB (lim n 0) (lim n 1) (lim n 2) (lim n 3) (lim m 0) (lim m 1) (lim m 2) (lim m 3) w (fun x y p q w => b_sub x y p q w) (fun x p q w => b_sub x 0 p q w) (fun x y p q w => b_lss x y p q w) (fun x p q w => b_lss x 0 p q w)
  rw [q0, p0, q1, p1, q2, p2, p3] at h
  obtain ⟨e0, e1, e2, e3, e4⟩ := sub_parts n m hn hm _ _ _ _ _ _ _ _ rfl rfl rfl rfl rfl rfl rfl rfl
  rw [e0, e1, e2, e3] at h
  exact h
theorem neq_f {x y : Nat} (h : x = y) (p q : Operand) (w : World) : (do eqGuard .neq 28 p q (.int .u64 (x : Nat)) (.int .u64 (y : Nat)); binOp .neq 28 (.int .u64 (x : Nat)) (.int .u64 (y : Nat)) : Sem Value).run Tryd.prog w = .ok (.bool false) w := by
  have := b_neq x y p q w; rw [decide_eq_true h] at this; exact this
theorem neq_t {x y : Nat} (h : x ≠ y) (p q : Operand) (w : World) : (do eqGuard .neq 28 p q (.int .u64 (x : Nat)) (.int .u64 (y : Nat)); binOp .neq 28 (.int .u64 (x : Nat)) (.int .u64 (y : Nat)) : Sem Value).run Tryd.prog w = .ok (.bool true) w := by
  have := b_neq x y p q w; rw [decide_eq_false h] at this; exact this
theorem rless_ok (n m : Nat) (hn : n < R) (hm : m < R) (w : World) : Calls Tryd.prog 37 #[N n, N m] w fun e w' => e = .returned (.bool (decide (n < m))) ∧ Gw w w' := by
  have hN := lim_sum4 hn
  have hM := lim_sum4 hm
  have n0 := lim_lt n 0; have n1 := lim_lt n 1; have n2 := lim_lt n 2; have n3 := lim_lt n 3
  have m0 := lim_lt m 0; have m1 := lim_lt m 1; have m2 := lim_lt m 2; have m3 := lim_lt m 3
  by_cases h3 : lim n 3 = lim m 3
  · by_cases h2 : lim n 2 = lim m 2
    · by_cases h1 : lim n 1 = lim m 1
      · by_cases h0 : lim n 0 = lim m 0
        · rw [decide_eq_false (show ¬ n < m by rw [hN, hM, h0, h1, h2, h3]; omega)]
          exact rless_eq _ _ _ _ _ _ _ _ w (neq_f h3) (neq_f h2) (neq_f h1) (neq_f h0)
        · rw [show decide (n < m) = decide (lim n 0 < lim m 0) from decide_eq_decide.2 (by
          generalize lim n 0 = a0 at *; generalize lim n 1 = a1 at *; generalize lim n 2 = a2 at *; generalize lim n 3 = a3 at *
          generalize lim m 0 = c0 at *; generalize lim m 1 = c1 at *; generalize lim m 2 = c2 at *; generalize lim m 3 = c3 at *
          subst h1 h2 h3 hN hM; clear hn hm; simp only [W] at *; omega)]
          exact rless_0 _ _ _ _ _ _ _ _ _ w (neq_f h3) (neq_f h2) (neq_f h1) (neq_t h0) (fun p q w => b_lss _ _ p q w)
      · rw [show decide (n < m) = decide (lim n 1 < lim m 1) from decide_eq_decide.2 (by
          generalize lim n 0 = a0 at *; generalize lim n 1 = a1 at *; generalize lim n 2 = a2 at *; generalize lim n 3 = a3 at *
          generalize lim m 0 = c0 at *; generalize lim m 1 = c1 at *; generalize lim m 2 = c2 at *; generalize lim m 3 = c3 at *
          subst h3 h2 hN hM; clear hn hm; simp only [W] at *; omega)]
        exact rless_1 _ _ _ _ _ _ _ _ _ w (neq_f h3) (neq_f h2) (neq_t h1) (fun p q w => b_lss _ _ p q w)
    · rw [show decide (n < m) = decide (lim n 2 < lim m 2) from decide_eq_decide.2 (by
          generalize lim n 0 = a0 at *; generalize lim n 1 = a1 at *; generalize lim n 2 = a2 at *; generalize lim n 3 = a3 at *
          generalize lim m 0 = c0 at *; generalize lim m 1 = c1 at *; generalize lim m 2 = c2 at *; generalize lim m 3 = c3 at *
          subst h3 hN hM; clear hn hm; simp only [W] at *; omega)]
      exact rless_2 _ _ _ _ _ _ _ _ _ w (neq_f h3) (neq_t h2) (fun p q w => b_lss _ _ p q w)
  · rw [show decide (n < m) = decide (lim n 3 < lim m 3) from decide_eq_decide.2 (by
          generalize lim n 0 = a0 at *; generalize lim n 1 = a1 at *; generalize lim n 2 = a2 at *; generalize lim n 3 = a3 at *
          generalize lim m 0 = c0 at *; generalize lim m 1 = c1 at *; generalize lim m 2 = c2 at *; generalize lim m 3 = c3 at *
          subst hN hM; clear hn hm; simp only [W] at *; omega)]
    exact rless_3 _ _ _ _ _ _ _ _ _ w (neq_t h3) (fun p q w => b_lss _ _ p q w)
variable {m : Nat}
theorem radd_ok (h : Md m) {a b : Nat} (ha : a < m) (hb : b < m) (w : World) : Calls Tryd.prog 49 #[N a, N b, N m] w fun e w' => e = .returned (N ((a + b) % m)) ∧ Gw w w' := by
  have hm := h.lt
  have hr := Nat.mod_lt (a + b) (show 0 < R by decide)
  have A : ∀ w', Gw w w' → Calls Tryd.prog 46 #[N a, N b] w' fun e w'' => e = .returned (.tuple #[N (a + b), .bool (decide ((a + b) / R = 1))]) ∧ Gw w' w'' := fun w' _ => plus_ok a b (by omega) (by omega) w'
  have L : ∀ w', Gw w w' → Calls Tryd.prog 37 #[N (a + b), N m] w' fun e w'' => e = .returned (.bool (decide ((a + b) % R < m))) ∧ Gw w' w'' := fun w' _ => by
    have := rless_ok _ _ hr hm w'; rw [lim_R] at this; exact this
  have M : ∀ w', Gw w w' → Calls Tryd.prog 47 #[N (a + b), N m] w' fun e w'' => e = .returned (N (dif ((a + b) % R) m)) ∧ Gw w' w'' := fun w' _ => by
    have := minus_ok _ _ hr hm w'; rw [lim_R] at this; exact this
  by_cases ho : (a + b) / R = 1
  · rw [decide_eq_true ho] at A
    have e : dif ((a + b) % R) m = (a + b) % m := by
      have := shrunk hm hr (.inr ho) (by rw [Nat.mod_add_div]; omega)
      rw [if_neg (fun c => by omega), Nat.mod_add_div] at this; exact this
    rw [e] at M
    exact radd_over _ _ _ _ _ _ _ _ _ _ _ _ _ _ _ _ _ _ _ _ w A M
  · rw [decide_eq_false ho] at A
    have hlt : a + b < R := by simp only [R] at *; omega
    have em : (a + b) % R = a + b := Nat.mod_eq_of_lt hlt
    rw [em] at L M
    by_cases hl : a + b < m
    · rw [decide_eq_true hl] at L
      rw [Nat.mod_eq_of_lt hl]
      exact radd_less _ _ _ _ _ _ _ _ _ _ _ _ _ _ _ _ w A L
    · rw [decide_eq_false hl] at L
      have e : dif (a + b) m = (a + b) % m := by unfold dif; rw [if_neg hl, Nat.mod_eq_sub_mod (by omega), Nat.mod_eq_of_lt (by omega)]
      rw [e] at M
      exact radd_more _ _ _ _ _ _ _ _ _ _ _ _ _ _ _ _ _ _ _ _ w A L M
theorem lim_at (x k : Nat) (hk : k < 256) : ([.v (.int .u64 (lim x 0 : Nat)), .v (.int .u64 (lim x 1 : Nat)), .v (.int .u64 (lim x 2 : Nat)), .v (.int .u64 (lim x 3 : Nat))] : List SV)[k / 64]? = some (.v (.int .u64 (lim x (k / 64) : Nat))) := by
  have hj : k / 64 = 0 ∨ k / 64 = 1 ∨ k / 64 = 2 ∨ k / 64 = 3 := by omega
  rcases hj with hj | hj | hj | hj <;> rw [hj] <;> rfl
theorem down_k (k : Nat) : ((k + 1 : Nat) : Int) - 1 = (k : Int) := by omega
theorem hq_k (k : Nat) (hk : k < 256) (p q : Operand) (w : World) : (do eqGuard .quo 3 p q (.int .i64 (((k + 1 : Nat) : Int) - 1)) (.int .i64 64); binOp .quo 3 (.int .i64 (((k + 1 : Nat) : Int) - 1)) (.int .i64 64) : Sem Value).run Tryd.prog w = .ok (.int .i64 (k / 64 : Nat)) w := by
  rw [down_k]; exact b_quo k (by omega) p q w
theorem hr_k (k : Nat) (p q : Operand) (w : World) : (do eqGuard .rem 3 p q (.int .i64 (((k + 1 : Nat) : Int) - 1)) (.int .i64 64); binOp .rem 3 (.int .i64 (((k + 1 : Nat) : Int) - 1)) (.int .i64 64) : Sem Value).run Tryd.prog w = .ok (.int .i64 (k % 64 : Nat)) w := by
  rw [down_k]; exact b_rem k p q w
theorem rrest_ok (h : Md m) {x : Nat} (hx : x < R) (w : World) : Calls Tryd.prog 27 #[N x, N m] w fun e w' => e = .returned (N (x % m)) ∧ Gw w w' := by
  have h0 : 0 < m := by have := h.gt; omega
  refine rrest_core lim x m (x % m) 0 w (fun k => lim x (k / 64) / 2 ^ (k % 64) % 2) (fun k => k / 64) (fun k => lim x (k / 64)) (fun k => k % 64) (fun k => lim x (k / 64) / 2 ^ (k % 64)) (fun y => (y + y) % m) (fun y => ((y + y) % m + 1) % m) id
    (fun k y => y = x / 2 ^ k % m) lims0 (fun k hk p q w => hq_k k hk p q w) (fun k hk => by omega) (fun k hk => lim_at x k hk) (fun k p q w => hr_k k p q w) (fun k p q w => b_shr _ _ (Nat.mod_lt _ (by decide)) p q w) (fun k p q w => b_rem2 _ p q w) ?_ ?_ ?_ ?_ ?_ ?_
  · show 0 = x / 2 ^ 256 % m
    rw [top_all hx, Nat.zero_mod]
  · intro k y _ hy w' _
    have hl : y < m := hy ▸ Nat.mod_lt _ h0
    exact radd_ok h hl hl w'
  · intro k y _ hy _ w' _
    have := radd_ok h (Nat.mod_lt (y + y) h0) h.gt w'
    rw [N_one] at this
    exact this
  · intro k y _ hy hb
    have hb' : x / 2 ^ k % 2 = 1 := (lim_bit x k).symm.trans hb
    have := rest_step x m k
    rw [hb', ← show y = x / 2 ^ (k + 1) % m from hy] at this
    exact this
  · intro k y _ hy hb
    have hb' : x / 2 ^ k % 2 = 0 := by have h1 : x / 2 ^ k % 2 ≠ 1 := fun c => hb ((lim_bit x k).trans c); omega
    have := rest_step x m k
    rw [hb', ← show y = x / 2 ^ (k + 1) % m from hy, Nat.add_zero, Nat.mod_mod] at this
    exact this
  · intro y hy
    have : y = x % m := by rw [show y = x / 2 ^ 0 % m from hy, Nat.pow_zero, Nat.div_one]
    rw [this]
theorem rmul_ok (h : Md m) {a e : Nat} (ha : a < R) (he : e < R) (w : World) : Calls Tryd.prog 38 #[N a, N e, N m] w fun en w' => en = .returned (N (a * e % m)) ∧ Gw w w' := by
  have h0 : 0 < m := by have := h.gt; omega
  refine rmul_core lim a e m (a % m) (a * e % m) 0 w (fun k => lim e (k / 64) / 2 ^ (k % 64) % 2) (fun k => k / 64) (fun k => lim e (k / 64)) (fun k => k % 64) (fun k => lim e (k / 64) / 2 ^ (k % 64)) (fun y => (y + y) % m) (fun y => ((y + y) % m + a % m) % m) id
    (fun k y => y = a * (e / 2 ^ k) % m) lims0 (fun w' _ => rrest_ok h ha w') (fun k hk p q w => hq_k k hk p q w) (fun k hk => by omega) (fun k hk => lim_at e k hk) (fun k p q w => hr_k k p q w) (fun k p q w => b_shr _ _ (Nat.mod_lt _ (by decide)) p q w) (fun k p q w => b_rem2 _ p q w) ?_ ?_ ?_ ?_ ?_ ?_
  · show 0 = a * (e / 2 ^ 256) % m
    rw [top_all he, Nat.mul_zero, Nat.zero_mod]
  · intro k y _ hy w' _
    have hl : y < m := hy ▸ Nat.mod_lt _ h0
    exact radd_ok h hl hl w'
  · intro k y _ hy _ w' _
    exact radd_ok h (Nat.mod_lt (y + y) h0) (Nat.mod_lt _ h0) w'
  · intro k y _ hy hb
    have hb' : e / 2 ^ k % 2 = 1 := (lim_bit e k).symm.trans hb
    have := mul_step a e m k
    rw [hb', ← show y = a * (e / 2 ^ (k + 1)) % m from hy, Nat.mul_one] at this
    exact this
  · intro k y _ hy hb
    have hb' : e / 2 ^ k % 2 = 0 := by have h1 : e / 2 ^ k % 2 ≠ 1 := fun c => hb ((lim_bit e k).trans c); omega
    have := mul_step a e m k
    rw [hb', ← show y = a * (e / 2 ^ (k + 1)) % m from hy, Nat.mul_zero, Nat.zero_mod, Nat.add_zero, Nat.mod_mod] at this
    exact this
  · intro y hy
    have : y = a * e % m := by rw [show y = a * (e / 2 ^ 0) % m from hy, Nat.pow_zero, Nat.div_one]
    rw [this]
theorem rpow_ok (h : Md m) {x e : Nat} (hx : x < R) (he : e < R) (w : World) : Calls Tryd.prog 48 #[N x, N e, N m] w fun en w' => en = .returned (N (x ^ e % m)) ∧ Gw w w' := by
  have h0 : 0 < m := by have := h.gt; omega
  have hm := h.lt
  refine rpow_core lim x e m (x ^ e % m) 1 w (fun k => lim e (k / 64) / 2 ^ (k % 64) % 2) (fun k => k / 64) (fun k => lim e (k / 64)) (fun k => k % 64) (fun k => lim e (k / 64) / 2 ^ (k % 64)) (fun y => y * y % m) (fun y => (y * y % m) * x % m) id
    (fun k y => y = x ^ (e / 2 ^ k) % m) lims1 (fun k hk p q w => hq_k k hk p q w) (fun k hk => by omega) (fun k hk => lim_at e k hk) (fun k p q w => hr_k k p q w) (fun k p q w => b_shr _ _ (Nat.mod_lt _ (by decide)) p q w) (fun k p q w => b_rem2 _ p q w) ?_ ?_ ?_ ?_ ?_ ?_
  · show 1 = x ^ (e / 2 ^ 256) % m
    rw [top_all he, Nat.pow_zero, Nat.mod_eq_of_lt h.gt]
  · intro k y _ hy w' _
    have hl : y < m := hy ▸ Nat.mod_lt _ h0
    exact rmul_ok h (by omega) (by omega) w'
  · intro k y _ hy _ w' _
    exact rmul_ok h (modR h (y * y)) hx w'
  · intro k y _ hy hb
    have hb' : e / 2 ^ k % 2 = 1 := (lim_bit e k).symm.trans hb
    have := pow_step x e m k
    rw [hb', ← show y = x ^ (e / 2 ^ (k + 1)) % m from hy, Nat.pow_one] at this
    exact this
  · intro k y _ hy hb
    have hb' : e / 2 ^ k % 2 = 0 := by have h1 : e / 2 ^ k % 2 ≠ 1 := fun c => hb ((lim_bit e k).trans c); omega
    have := pow_step x e m k
    rw [hb', ← show y = x ^ (e / 2 ^ (k + 1)) % m from hy, Nat.pow_zero, Nat.mul_one, Nat.mod_mod] at this
    exact this
  · intro y hy
    have : y = x ^ e % m := by rw [show y = x ^ (e / 2 ^ 0) % m from hy, Nat.pow_zero, Nat.div_one]
    rw [this]
theorem rAdd_ok (h : Md m) {x y : Nat} (hx : x < R) (hy : y < R) (w : World) : Calls Tryd.prog 26 #[N x, N y, N m] w fun e w' => e = .returned (N ((x + y) % m)) ∧ Gw w w' := by
  have h0 : 0 < m := by have := h.gt; omega
  refine rAdd_core _ _ _ _ _ _ _ _ _ _ _ _ _ _ _ _ _ _ _ _ _ _ _ _ w (fun w' _ => rrest_ok h hx w') (fun w' _ => rrest_ok h hy w') (fun w' _ => ?_)
  have := radd_ok h (Nat.mod_lt x h0) (Nat.mod_lt y h0) w'
  rw [← Nat.add_mod] at this
  exact this
theorem rSub_ok (h : Md m) {x y : Nat} (hx : x < R) (hy : y < R) (w : World) : Calls Tryd.prog 23 #[N x, N y, N m] w fun e w' => e = .returned (N (subm m x y)) ∧ Gw w w' := by
  have h0 : 0 < m := by have := h.gt; omega
  have lx : x % m < m := Nat.mod_lt _ h0
  have ly : y % m < m := Nat.mod_lt _ h0
  have hm := h.lt
  have A : ∀ w', Gw w w' → Calls Tryd.prog 27 #[N x, N m] w' fun e w'' => e = .returned (N (x % m)) ∧ Gw w' w'' := fun w' _ => rrest_ok h hx w'
  have B : ∀ w', Gw w w' → Calls Tryd.prog 27 #[N y, N m] w' fun e w'' => e = .returned (N (y % m)) ∧ Gw w' w'' := fun w' _ => rrest_ok h hy w'
  have L : ∀ w', Gw w w' → Calls Tryd.prog 37 #[N (x % m), N (y % m)] w' fun e w'' => e = .returned (.bool (decide (x % m < y % m))) ∧ Gw w' w'' := fun w' _ => rless_ok _ _ (by omega) (by omega) w'
  by_cases hl : x % m < y % m
  · rw [decide_eq_true hl] at L
    have e1 : dif m (y % m) = m - y % m := by unfold dif; rw [if_neg (by omega)]
    have e2 : x % m + (m - y % m) = subm m x y := by unfold subm; rw [Nat.mod_eq_of_lt (a := x % m + m - y % m) (by omega)]; omega
    have C : ∀ w', Gw w w' → Calls Tryd.prog 47 #[N m, N (y % m)] w' fun e w'' => e = .returned (N (m - y % m)) ∧ Gw w' w'' := fun w' _ => by
      have := minus_ok m (y % m) hm (by omega) w'; rw [e1] at this; exact this
    have D : ∀ w', Gw w w' → Calls Tryd.prog 46 #[N (x % m), N (m - y % m)] w' fun e w'' => e = .returned (.tuple #[N (subm m x y), .bool (decide ((x % m + (m - y % m)) / R = 1))]) ∧ Gw w' w'' := fun w' _ => by
      have := plus_ok (x % m) (m - y % m) (by omega) (by omega) w'
      rw [← e2]; exact this
    exact rSub_1 _ _ _ _ _ _ _ _ _ _ _ _ _ _ _ _ _ _ _ _ _ _ _ _ _ _ _ _ _ w A B L C D
  · rw [decide_eq_false hl] at L
    have e : dif (x % m) (y % m) = subm m x y := by
      unfold dif subm
      rw [if_neg hl, show x % m + m - y % m = x % m - y % m + m by omega, Nat.add_mod_right]
      exact (Nat.mod_eq_of_lt (by omega)).symm
    refine rSub_0 _ _ _ _ _ _ _ _ _ _ _ _ _ _ _ _ _ _ _ _ _ _ _ _ w A B L (fun w' _ => ?_)
    have := minus_ok (x % m) (y % m) (by omega) (by omega) w'
    rw [e] at this
    exact this
end Go.Proofs.YtbnfanmolphliaaDoor
