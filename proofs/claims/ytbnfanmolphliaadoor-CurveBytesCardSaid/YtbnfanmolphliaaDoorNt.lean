/-! Plain number theory: primes, Fermat, Pocklington. -/
namespace TollNt

def Prm (p : Nat) : Prop := 2 ≤ p ∧ ∀ d, d ∣ p → d = 1 ∨ d = p

theorem exists_prm (n : Nat) : 2 ≤ n → ∃ q, Prm q ∧ q ∣ n := by
  induction n using Nat.strongRecOn with
  | _ n ih =>
    intro hn
    by_cases h : ∀ d, d ∣ n → d = 1 ∨ d = n
    · exact ⟨n, ⟨hn, h⟩, Nat.dvd_refl _⟩
    · have : ∃ d, d ∣ n ∧ d ≠ 1 ∧ d ≠ n := by
        apply Classical.byContradiction; intro hc; apply h; intro d hd
        apply Classical.byContradiction; intro hx
        exact hc ⟨d, hd, fun e => hx (.inl e), fun e => hx (.inr e)⟩
      obtain ⟨d, hd, h1, h2⟩ := this
      have hle : d ≤ n := Nat.le_of_dvd (by omega) hd
      have h0 : d ≠ 0 := by rintro rfl; have := Nat.eq_zero_of_zero_dvd hd; omega
      obtain ⟨q, hq, hqd⟩ := ih d (by omega) (by omega)
      exact ⟨q, hq, Nat.dvd_trans hqd hd⟩

theorem Prm.coprime {p a : Nat} (hp : Prm p) (h : ¬ p ∣ a) : Nat.Coprime a p := by
  rcases hp.2 _ (Nat.gcd_dvd_right a p) with h1 | h1
  · exact h1
  · exact absurd (h1 ▸ Nat.gcd_dvd_left a p) h

theorem Prm.dvd_mul {p a b : Nat} (hp : Prm p) (h : p ∣ a * b) : p ∣ a ∨ p ∣ b := by
  by_cases ha : p ∣ a
  · exact .inl ha
  · exact .inr (Nat.Coprime.dvd_of_dvd_mul_left (hp.coprime ha).symm h)

/-! ### a list without doubles inside another of no greater length is that list in another order -/
theorem perm_of {α : Type} [DecidableEq α] (l : List α) : ∀ m : List α, l.Nodup → l ⊆ m → m.length ≤ l.length → l.Perm m := by
  induction l with
  | nil => intro m _ _ hl; have : m = [] := List.eq_nil_of_length_eq_zero (by simpa using hl); rw [this]
  | cons a l ih =>
    intro m hn hs hl
    have ha : a ∈ m := hs (by simp)
    have hp := List.perm_cons_erase ha
    rw [List.nodup_cons] at hn
    refine (List.Perm.cons a (ih (m.erase a) hn.2 ?_ ?_)).trans hp.symm
    · intro x hx
      have hxm : x ∈ m := hs (by simp [hx])
      have hne : x ≠ a := by rintro rfl; exact hn.1 hx
      exact (List.mem_erase_of_ne hne).2 hxm
    · have := List.length_erase_of_mem ha
      simp at hl; omega

def prod (l : List Nat) : Nat := l.foldr (· * ·) 1
theorem prod_perm {l m : List Nat} (h : l.Perm m) : prod l = prod m := by
  induction h with
  | nil => rfl
  | cons a _ ih => simp only [prod, List.foldr] at *; rw [ih]
  | swap a b l => simp only [prod, List.foldr]; rw [← Nat.mul_assoc, ← Nat.mul_assoc, Nat.mul_comm a b]
  | trans _ _ h1 h2 => exact h1.trans h2

theorem prod_map_mod (a p : Nat) (l : List Nat) : prod (l.map fun i => a * i % p) % p = a ^ l.length * prod l % p := by
  induction l with
  | nil => simp [prod]
  | cons x l ih =>
    have e1 : prod (List.map (fun i => a * i % p) (x :: l)) = (a * x % p) * prod (l.map fun i => a * i % p) := rfl
    have e2 : prod (x :: l) = x * prod l := rfl
    rw [e1, e2, List.length_cons, Nat.mul_mod, ih, ← Nat.mul_mod, Nat.mod_mul_mod]
    congr 1
    rw [Nat.pow_succ]; simp only [Nat.mul_assoc, Nat.mul_comm, Nat.mul_left_comm]

theorem coprime_prod {p : Nat} (hp : Prm p) : ∀ l : List Nat, (∀ x ∈ l, ¬ p ∣ x) → ¬ p ∣ prod l := by
  intro l
  induction l with
  | nil => intro _ h; have h1 : p ∣ 1 := h; have := Nat.le_of_dvd (by omega) h1; have := hp.1; omega
  | cons x l ih =>
    intro h hd
    rcases hp.dvd_mul (show p ∣ x * prod l from hd) with h1 | h1
    · exact h x (by simp) h1
    · exact ih (fun y hy => h y (by simp [hy])) h1

theorem nodup_map {α β : Type} (f : α → β) : ∀ l : List α, l.Nodup → (∀ x ∈ l, ∀ y ∈ l, f x = f y → x = y) → (l.map f).Nodup := by
  intro l
  induction l with
  | nil => intro _ _; simp
  | cons a l ih =>
    intro hn hi
    rw [List.nodup_cons] at hn
    rw [List.map_cons, List.nodup_cons]
    refine ⟨?_, ih hn.2 fun x hx y hy => hi x (by simp [hx]) y (by simp [hy])⟩
    intro hm
    obtain ⟨y, hy, he⟩ := List.mem_map.1 hm
    have := hi y (by simp [hy]) a (by simp) he
    exact hn.1 (this ▸ hy)

/-- p divides a - b, told by rests. -/
theorem dvd_sub_of_mod {a b p : Nat} (h : a % p = b % p) (hb : b ≤ a) : p ∣ a - b := by
  have h1 := Nat.div_add_mod a p
  have h2 := Nat.div_add_mod b p
  refine ⟨a / p - b / p, ?_⟩
  rw [Nat.mul_sub]; omega

theorem mul_cancel_mod {p a x y : Nat} (hp : Prm p) (ha : ¬ p ∣ a) (h : a * x % p = a * y % p) : x % p = y % p := by
  have key : ∀ x y, y ≤ x → a * x % p = a * y % p → x % p = y % p := by
    intro x y hle h
    have h1 : p ∣ a * x - a * y := dvd_sub_of_mod h (Nat.mul_le_mul_left _ hle)
    rw [← Nat.mul_sub] at h1
    rcases hp.dvd_mul h1 with h2 | h2
    · exact absurd h2 ha
    · obtain ⟨c, hc⟩ := h2
      have : x = y + p * c := by omega
      rw [this, Nat.add_mul_mod_self_left]
  rcases Nat.le_total y x with hle | hle
  · exact key x y hle h
  · exact (key y x hle h.symm).symm

/-- Fermat. -/
theorem fermat {p a : Nat} (hp : Prm p) (ha : ¬ p ∣ a) : a ^ (p - 1) % p = 1 := by
  have hp2 := hp.1
  let l := List.range' 1 (p - 1)
  have hl : l.length = p - 1 := by simp [l]
  have hmem : ∀ x, x ∈ l ↔ 1 ≤ x ∧ x < p := by intro x; simp [l, List.mem_range'_1]; omega
  have hnd : l.Nodup := List.nodup_range'
  have hnotdvd : ∀ x ∈ l, ¬ p ∣ x := by
    intro x hx hd
    have := (hmem x).1 hx
    have := Nat.le_of_dvd (by omega) hd
    omega
  have hperm : (l.map fun i => a * i % p).Perm l := by
    refine perm_of _ _ ?_ ?_ (by simp)
    · refine nodup_map _ _ hnd ?_
      intro x hx y hy h
      have := mul_cancel_mod hp ha h
      rw [Nat.mod_eq_of_lt ((hmem x).1 hx).2, Nat.mod_eq_of_lt ((hmem y).1 hy).2] at this
      exact this
    · intro y hy
      obtain ⟨x, hx, rfl⟩ := List.mem_map.1 hy
      rw [hmem]
      refine ⟨?_, Nat.mod_lt _ (by omega)⟩
      apply Classical.byContradiction
      intro hc
      have : a * x % p = 0 := by omega
      rcases hp.dvd_mul (Nat.dvd_of_mod_eq_zero this) with h | h
      · exact ha h
      · exact hnotdvd x hx h
  have h1 : prod l % p = a ^ (p - 1) * prod l % p := by
    have := prod_map_mod a p l
    rw [prod_perm hperm, hl] at this
    exact this
  have h2 : prod l * a ^ (p - 1) % p = prod l * 1 % p := by rw [Nat.mul_comm, ← h1, Nat.mul_one]
  have := mul_cancel_mod hp (coprime_prod hp l hnotdvd) h2
  rw [this, Nat.mod_eq_of_lt (by omega)]

theorem pow_mod_one {a n m : Nat} (h : a ^ m % n = 1 % n) (k : Nat) : a ^ (m * k) % n = 1 % n := by
  rw [Nat.pow_mul, Nat.pow_mod, h, ← Nat.pow_mod, Nat.one_pow]

theorem pow_gcd {a n : Nat} (m k : Nat) : a ^ m % n = 1 % n → a ^ k % n = 1 % n → a ^ (Nat.gcd m k) % n = 1 % n := by
  induction m, k using Nat.gcd.induction with
  | H0 k => intro _ h; simpa using h
  | H1 m k hm ih =>
    intro h1 h2
    rw [Nat.gcd_rec]
    refine ih ?_ h1
    have e : a ^ k = a ^ (m * (k / m)) * a ^ (k % m) := by rw [← Nat.pow_add, Nat.div_add_mod]
    rw [e, Nat.mul_mod, pow_mod_one h1, ← Nat.mul_mod, Nat.one_mul] at h2
    exact h2

/-- powers, by squaring; f: how many bits are looked at. -/
def pw (m : Nat) : Nat → Nat → Nat → Nat
  | 0, _, _ => 1 % m
  | f + 1, a, e => let r := pw m f (a * a % m) (e / 2); if e % 2 = 1 then r * a % m else r

theorem pw_eq (m : Nat) : ∀ f a e, e < 2 ^ f → pw m f a e = a ^ e % m := by
  intro f
  induction f with
  | zero => intro a e h; have : e = 0 := by simpa using h
            subst this; simp [pw]
  | succ f ih =>
    intro a e h
    have he : e / 2 < 2 ^ f := by rw [Nat.pow_succ] at h; omega
    have h2 : (a * a % m) ^ (e / 2) % m = a ^ (2 * (e / 2)) % m := by
      rw [← Nat.pow_mod, Nat.pow_mul, Nat.pow_two]
    simp only [pw, ih _ _ he, h2]
    split
    · rename_i h1
      have : e = 2 * (e / 2) + 1 := by omega
      conv => rhs; rw [this, Nat.pow_succ, Nat.mul_mod]
      rw [Nat.mod_mul_mod, ← Nat.mul_mod]
    · rename_i h1
      have : e = 2 * (e / 2) := by omega
      conv => rhs; rw [this]

/-- one prime of N - 1: q, with a base. -/
def cert1 (N f q a : Nat) : Bool :=
  decide ((N - 1) % q = 0) && decide (pw N f a (N - 1) = 1) && decide (Nat.gcd (pw N f a ((N - 1) / q) + (N - 1)) N = 1)

/-- each prime divisor of N is one more than a multiple of q. -/
theorem cert1_dvd {N f q a : Nat} (hN : 2 ≤ N) (hf : N < 2 ^ f) (hq : Prm q) (h : cert1 N f q a = true) {d : Nat} (hd : Prm d) (hdN : d ∣ N) : q ∣ d - 1 := by
  simp only [cert1, Bool.and_eq_true, decide_eq_true_eq] at h
  obtain ⟨⟨h1, h2⟩, h3⟩ := h
  rw [pw_eq _ _ _ _ (by omega)] at h2
  rw [pw_eq _ _ _ _ (Nat.lt_of_le_of_lt (Nat.div_le_self _ _) (by omega))] at h3
  have hd2 := hd.1
  have hmodd : ∀ x y : Nat, x % N = y % N → x % d = y % d := by
    intro x y hxy
    rw [← Nat.mod_mod_of_dvd x hdN, hxy, Nat.mod_mod_of_dvd y hdN]
  have ha : ¬ d ∣ a := by
    intro hda
    have h4 : d ∣ a ^ (N - 1) := by
      rw [show N - 1 = (N - 2) + 1 by omega, Nat.pow_succ]; exact Nat.dvd_trans hda (Nat.dvd_mul_left _ _)
    have h5 : a ^ (N - 1) % d = 1 % d := hmodd _ _ (by rw [h2, Nat.mod_eq_of_lt (by omega)])
    rw [Nat.mod_eq_zero_of_dvd h4, Nat.mod_eq_of_lt (by omega)] at h5
    omega
  have hfer := fermat hd ha
  have e1 : a ^ (N - 1) % d = 1 % d := hmodd _ _ (by rw [h2, Nat.mod_eq_of_lt (by omega)])
  have e2 : a ^ (d - 1) % d = 1 % d := by rw [hfer, Nat.mod_eq_of_lt (by omega)]
  have hg := pow_gcd _ _ e2 e1
  apply Classical.byContradiction
  intro hc
  -- then gcd (d - 1) (N - 1) divides (N - 1) / q
  obtain ⟨r, hr⟩ := Nat.dvd_of_mod_eq_zero h1
  have hq0 : 0 < q := by have := hq.1; omega
  have hdiv : (N - 1) / q = r := by rw [hr, Nat.mul_div_cancel_left _ hq0]
  have hcop : Nat.Coprime (Nat.gcd (d - 1) (N - 1)) q := by
    have : Nat.Coprime (d - 1) q := hq.coprime hc
    exact Nat.Coprime.coprime_dvd_left (Nat.gcd_dvd_left _ _) this
  have hdr : Nat.gcd (d - 1) (N - 1) ∣ r := by
    have : Nat.gcd (d - 1) (N - 1) ∣ q * r := by rw [← hr]; exact Nat.gcd_dvd_right _ _
    exact Nat.Coprime.dvd_of_dvd_mul_left hcop this
  obtain ⟨s, hs⟩ := hdr
  have e3 : a ^ r % d = 1 % d := by rw [hs]; exact pow_mod_one hg s
  -- so d divides what the gcd asks
  rw [hdiv] at h3
  have e4 : (a ^ r % N + (N - 1)) % d = 0 := by
    have : (a ^ r % N) % d = 1 % d := by rw [Nat.mod_mod_of_dvd _ hdN, e3]
    have hN1 : d ∣ 1 + (N - 1) := by rw [show 1 + (N - 1) = N by omega]; exact hdN
    rw [Nat.add_mod, this, ← Nat.add_mod]
    exact Nat.mod_eq_zero_of_dvd hN1
  have e5 : d ∣ 1 := by rw [← h3]; exact Nat.dvd_gcd (Nat.dvd_of_mod_eq_zero e4) hdN
  have := Nat.le_of_dvd (by omega) e5
  omega

/-- Pocklington, by two primes (they may be 1 and one of them). -/
theorem prm_of {N F : Nat} (hN : 2 ≤ N) (hF : N < (F + 1) * (F + 1)) (h : ∀ d, Prm d → d ∣ N → F ∣ d - 1) : Prm N := by
  refine ⟨hN, ?_⟩
  intro d hd
  apply Classical.byContradiction
  intro hc
  have h1 : d ≠ 1 := fun e => hc (.inl e)
  have h2 : d ≠ N := fun e => hc (.inr e)
  obtain ⟨e, he⟩ := hd
  have hd0 : d ≠ 0 := by rintro rfl; omega
  have he0 : e ≠ 0 := by rintro rfl; omega
  have he1 : e ≠ 1 := by rintro rfl; omega
  obtain ⟨p1, hp1, hpd⟩ := exists_prm d (by omega)
  obtain ⟨p2, hp2, hpe⟩ := exists_prm e (by omega)
  have k1 := h p1 hp1 (Nat.dvd_trans hpd ⟨e, he⟩)
  have k2 := h p2 hp2 (Nat.dvd_trans hpe ⟨d, by rw [he, Nat.mul_comm]⟩)
  have := hp1.1; have := hp2.1
  have l1 := Nat.le_of_dvd (by omega) k1
  have l2 := Nat.le_of_dvd (by omega) k2
  have l3 := Nat.le_of_dvd (by omega) hpd
  have l4 := Nat.le_of_dvd (by omega) hpe
  have : (F + 1) * (F + 1) ≤ d * e := Nat.mul_le_mul (by omega) (by omega)
  omega

theorem prm_of1 {N q a : Nat} (f : Nat) (hq : Prm q) (h : (decide (2 ≤ N) && decide (N < 2 ^ f) && decide (N < (q + 1) * (q + 1)) && cert1 N f q a) = true) : Prm N := by
  simp only [Bool.and_eq_true, decide_eq_true_eq] at h
  obtain ⟨⟨⟨h1, h2⟩, h3⟩, h4⟩ := h
  exact prm_of h1 h3 fun d hd hdN => cert1_dvd h1 h2 hq h4 hd hdN

theorem prm_of2 {N q r a b : Nat} (f : Nat) (hq : Prm q) (hr : Prm r) (h : (decide (2 ≤ N) && decide (N < 2 ^ f) && decide (N < (q * r + 1) * (q * r + 1)) && decide (Nat.gcd q r = 1) && cert1 N f q a && cert1 N f r b) = true) : Prm N := by
  simp only [Bool.and_eq_true, decide_eq_true_eq] at h
  obtain ⟨⟨⟨⟨⟨h1, h2⟩, h3⟩, h5⟩, h4⟩, h6⟩ := h
  exact prm_of h1 h3 fun d hd hdN => Nat.Coprime.mul_dvd_of_dvd_of_dvd h5 (cert1_dvd h1 h2 hq h4 hd hdN) (cert1_dvd h1 h2 hr h6 hd hdN)

/-- small primes, by trial. -/
def trial (n : Nat) : Nat → Nat → Bool
  | 0, _ => true
  | f + 1, d => decide (n % d ≠ 0) && trial n f (d + 1)
theorem trial_dvd (n : Nat) : ∀ f d, trial n f d = true → ∀ k, d ≤ k → k < d + f → ¬ k ∣ n := by
  intro f
  induction f with
  | zero => intro d _ k h1 h2; omega
  | succ f ih =>
    intro d h k h1 h2 hk
    simp only [trial, Bool.and_eq_true, decide_eq_true_eq] at h
    by_cases e : k = d
    · subst e; exact h.1 (Nat.mod_eq_zero_of_dvd hk)
    · exact ih (d + 1) h.2 k (by omega) (by omega) hk
theorem prm_of_trial {n : Nat} (f : Nat) (h : (decide (2 ≤ n) && decide (n < (f + 2) * (f + 2)) && trial n f 2) = true) : Prm n := by
  simp only [Bool.and_eq_true, decide_eq_true_eq] at h
  obtain ⟨⟨h1, h2⟩, h3⟩ := h
  have hno : ∀ q, Prm q → q ∣ n → f + 2 ≤ q := by
    intro q hq hqn
    apply Classical.byContradiction; intro hc
    exact trial_dvd n f 2 h3 q hq.1 (by omega) hqn
  refine ⟨h1, ?_⟩
  intro d hd
  apply Classical.byContradiction
  intro hc
  have hd1 : d ≠ 1 := fun e => hc (.inl e)
  have hd2 : d ≠ n := fun e => hc (.inr e)
  obtain ⟨e, he⟩ := hd
  have hd0 : d ≠ 0 := by rintro rfl; omega
  have he0 : e ≠ 0 := by rintro rfl; omega
  have he1 : e ≠ 1 := by rintro rfl; omega
  obtain ⟨p1, hp1, hpd⟩ := exists_prm d (by omega)
  obtain ⟨p2, hp2, hpe⟩ := exists_prm e (by omega)
  have l1 := hno p1 hp1 (Nat.dvd_trans hpd ⟨e, he⟩)
  have l2 := hno p2 hp2 (Nat.dvd_trans hpe ⟨d, by rw [he, Nat.mul_comm]⟩)
  have l3 := Nat.le_of_dvd (by omega) hpd
  have l4 := Nat.le_of_dvd (by omega) hpe
  have : (f + 2) * (f + 2) ≤ d * e := Nat.mul_le_mul (by omega) (by omega)
  omega
end TollNt
