import Derived.Test.YtbnfanmolphliaaDoorJac
/-! Multiples of points; the ladder; the order of the base. -/
namespace TollEc
open TollNt

noncomputable def smul : Nat → Pt → Pt
  | 0, _ => .inf
  | k + 1, p => add (smul k p) p

theorem smul_on {p : Pt} (hp : p.on) : ∀ k, (smul k p).on
  | 0 => True.intro
  | k + 1 => on_add (smul_on hp k) hp

theorem smul_inf : ∀ k, smul k .inf = .inf
  | 0 => rfl
  | k + 1 => by rw [smul, smul_inf k]; rfl

theorem smul_one (p : Pt) : smul 1 p = p := by simp only [smul, inf_add]

theorem smul_add {p : Pt} (hp : p.on) (a : Nat) : ∀ b, smul (a + b) p = add (smul a p) (smul b p)
  | 0 => by rw [Nat.add_zero]; exact (add_inf _).symm
  | b + 1 => by
    rw [← Nat.add_assoc, smul, smul_add hp a b, smul, add_assoc (smul_on hp a) (smul_on hp b) hp]

theorem smul_mul {p : Pt} (hp : p.on) (a : Nat) : ∀ b, smul (a * b) p = smul b (smul a p)
  | 0 => rfl
  | b + 1 => by rw [Nat.mul_succ, smul_add hp, smul_mul hp a b, smul]

theorem smul_comm {p : Pt} (hp : p.on) (a b : Nat) : smul a (smul b p) = smul b (smul a p) := by
  rw [← smul_mul hp, ← smul_mul hp, Nat.mul_comm]

theorem smul_dist {p q : Pt} (hp : p.on) (hq : q.on) : ∀ k, smul k (add p q) = add (smul k p) (smul k q)
  | 0 => rfl
  | k + 1 => by
    have h1 := smul_on hp k
    have h2 := smul_on hq k
    rw [smul, smul_dist hp hq k, smul, smul, add_assoc h1 h2 (on_add hp hq), ← add_assoc h2 hp hq, add_comm _ _ h2 hp, add_assoc hp h2 hq, add_assoc h1 hp (on_add h2 hq)]

/-- from the highest bit down: what has been made of the bits from i on. -/
def ladder (n : Nat) (t : Jp) : Nat → Jp
  | 0 => .inf
  | i + 1 => let r := jdouble (ladder n t i); if n / 2 ^ (255 - i) % 2 = 1 then jadd r t else r

theorem ladder_rep (n : Nat) (t : Jp) (ht : t.rep.on) : ∀ i, i ≤ 256 → (ladder n t i).rep = smul (n / 2 ^ (256 - i) % 2 ^ i) t.rep := by
  intro i
  induction i with
  | zero => intro _; simp only [ladder, Nat.pow_zero, Nat.mod_one, smul]; exact rep_inf rfl
  | succ i ih =>
    intro hi
    have h1 := ih (by omega)
    have hd : (jdouble (ladder n t i)).rep = smul (2 * (n / 2 ^ (256 - i) % 2 ^ i)) t.rep := by
      rw [jdouble_rep, h1, Nat.two_mul, smul_add ht]
    have e1 : n / 2 ^ (256 - i) = n / 2 ^ (255 - i) / 2 := by
      rw [show 256 - i = (255 - i) + 1 by omega, Nat.pow_succ, Nat.div_div_eq_div_mul]
    have e2 : 256 - (i + 1) = 255 - i := by omega
    have e3 : ∀ m : Nat, m % 2 ^ (i + 1) = 2 * (m / 2 % 2 ^ i) + m % 2 := by
      intro m
      rw [Nat.pow_succ, Nat.mul_comm, Nat.mod_mul]; omega
    have hdon : (jdouble (ladder n t i)).rep.on := by rw [hd]; exact smul_on ht _
    rw [e2, e3, ← e1]
    simp only [ladder]
    split
    · rename_i hb
      rw [jadd_rep _ _ hdon ht, hd, hb]
      rfl
    · rename_i hb
      rw [hd]
      have : n / 2 ^ (255 - i) % 2 = 0 := by omega
      rw [this, Nat.add_zero]

theorem ladder_all (n : Nat) (hn : n < 2 ^ 256) (t : Jp) (ht : t.rep.on) : (ladder n t 256).rep = smul n t.rep := by
  rw [ladder_rep n t ht 256 (by omega)]
  congr 1
  rw [Nat.sub_self, Nat.pow_zero, Nat.div_one]; exact Nat.mod_eq_of_lt hn

def bx : F := 48439561293906451759052585252797914202762949526041747995844080717082404635286
def bY : F := 36134250956749795798585127919587881956611106672985015071877198253568414405109
def bj : Jp := ⟨bx, bY, 1⟩
def base : Pt := .aff bx bY
abbrev nn : Nat := 115792089210356248762697446949407573529996955224135760342422259061068512044369

theorem base_on : base.on := by
  show bY * bY = bx * bx * bx - 3 * bx + cb
  decide +kernel
theorem rep_one (x y : F) : (⟨x, y, 1⟩ : Jp).rep = .aff x y := by
  rw [rep_of (i := 1) (show (1 : F) * 1 = 1 by decide +kernel)]
  congr 1
  · show x * (1 * 1) = x; grind -lia
  · show y * (1 * (1 * 1)) = y; grind -lia
theorem bj_rep : bj.rep = base := rep_one _ _

theorem order_z : (ladder nn bj 256).z = 0 := by decide +kernel
theorem order_base : smul nn base = .inf := by
  have := ladder_all nn (by decide) bj (by rw [bj_rep]; exact base_on)
  rw [bj_rep, rep_inf order_z] at this
  exact this.symm

theorem smul_mod (k : Nat) : smul (k % nn) base = smul k base := by
  have e := Nat.div_add_mod k nn
  conv => rhs; rw [← e]
  rw [smul_add base_on, smul_mul base_on, order_base, smul_inf, inf_add]

/-- nought just at the multiples of the order. -/
theorem smul_eq_inf {k : Nat} (h : smul k base = .inf) : nn ∣ k := by
  have hp : Prm nn := prm_115792089210356248762697446949407573529996955224135760342422259061068512044369
  apply Classical.byContradiction
  intro hc
  have hcop := hp.coprime hc
  -- the gcd of k and the order takes the base to infinity
  have key : ∀ a b : Nat, smul a base = .inf → smul b base = .inf → smul (Nat.gcd a b) base = .inf := by
    intro a b
    induction a, b using Nat.gcd.induction with
    | H0 b => intro _ h; simpa using h
    | H1 a b ha ih =>
      intro h1 h2
      rw [Nat.gcd_rec]
      refine ih ?_ h1
      have e := Nat.div_add_mod b a
      rw [← e, smul_add base_on, smul_mul base_on, h1, smul_inf, inf_add] at h2
      exact h2
  have := key k nn h order_base
  rw [hcop, smul_one] at this
  exact absurd this (by simp [base])
#print axioms smul_eq_inf
end TollEc
