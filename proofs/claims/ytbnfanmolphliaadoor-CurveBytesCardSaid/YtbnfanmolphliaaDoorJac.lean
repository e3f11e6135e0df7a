import Derived.Test.YtbnfanmolphliaaDoorEc
/-! Points by three numbers: x / z^2, y / z^3; and multiples. -/
namespace TollEc
open TollNt

structure Jp where
  x : F
  y : F
  z : F
deriving DecidableEq

def Jp.inf : Jp := ⟨0, 0, 0⟩

noncomputable def Jp.rep (j : Jp) : Pt :=
  if j.z = 0 then .inf else .aff (j.x * (finv j.z * finv j.z)) (j.y * (finv j.z * (finv j.z * finv j.z)))

theorem rep_inf {j : Jp} (h : j.z = 0) : j.rep = .inf := if_pos h
theorem rep_of {j : Jp} {i : F} (h : j.z * i = 1) : j.rep = .aff (j.x * (i * i)) (j.y * (i * (i * i))) := by
  have h0 : j.z ≠ 0 := by intro h0; rw [h0, Fin.zero_mul] at h; exact absurd h (by decide +kernel)
  unfold Jp.rep
  rw [if_neg h0, finv_eq h]

def jdouble (p : Jp) : Jp :=
  if p.z = 0 ∨ p.y = 0 then .inf
  else
    let zz := p.z * p.z
    let yy := p.y * p.y
    let b := p.x * yy
    let m := (p.x - zz) * (p.x + zz)
    let a := m + m + m
    let b2 := b + b
    let four := b2 + b2
    let x := a * a - (four + four)
    let y2 := yy * yy + yy * yy
    let y4 := y2 + y2
    ⟨x, a * (four - x) - (y4 + y4), (p.y + p.y) * p.z⟩

def jadd (p q : Jp) : Jp :=
  if p.z = 0 then q
  else if q.z = 0 then p
  else
    let pp := p.z * p.z
    let qq := q.z * q.z
    let u := p.x * qq
    let v := q.x * pp
    let s := p.y * (q.z * qq)
    let t := q.y * (p.z * pp)
    let h := v - u
    let r := t - s
    if h = 0 then (if r = 0 then jdouble p else .inf)
    else
      let hh := h * h
      let hhh := h * hh
      let w := u * hh
      let x := r * r - hhh - (w + w)
      ⟨x, r * (w - x) - s * hhh, (p.z * q.z) * h⟩

theorem mul_ne_zero {a b : F} (ha : a ≠ 0) (hb : b ≠ 0) : a * b ≠ 0 := fun h => (mul_eq_zero h).elim ha hb
theorem one_ne : (1 : F) ≠ 0 := by decide +kernel
theorem ne_of_inv {a b : F} (h : a * b = 1) : b ≠ 0 := by rintro rfl; rw [Fin.mul_zero] at h; exact one_ne h.symm

theorem jdouble_rep (p : Jp) : (jdouble p).rep = add p.rep p.rep := by
  obtain ⟨x, y, z⟩ := p
  by_cases hz : z = 0
  · subst hz
    simp only [jdouble, true_or, if_true]
    rw [rep_inf (rfl : (Jp.inf).z = 0), rep_inf (rfl : (⟨x, y, 0⟩ : Jp).z = 0)]; rfl
  obtain ⟨i, hi⟩ := inv_ex z hz
  rw [rep_of (j := ⟨x, y, z⟩) hi]
  simp only
  by_cases hy : y = 0
  · subst hy
    have e : (0 : F) * (i * (i * i)) + 0 * (i * (i * i)) = 0 := by grind -lia
    simp only [jdouble, or_true, if_true, add, e, and_self]
    rw [rep_inf (rfl : (Jp.inf).z = 0)]
  · have h2y : y + y ≠ 0 := by
      intro h
      have : 2 * y = 0 := by grind -lia
      exact (mul_eq_zero this).elim two_ne hy
    obtain ⟨k, hk⟩ := inv_ex _ h2y
    have hi0 := ne_of_inv hi
    have hY : y * (i * (i * i)) + y * (i * (i * i)) ≠ 0 := by
      have e : y * (i * (i * i)) + y * (i * (i * i)) = (y + y) * (i * (i * i)) := by grind -lia
      rw [e]; exact mul_ne_zero h2y (mul_ne_zero hi0 (mul_ne_zero hi0 hi0))
    have hz' : ((y + y) * z) * (i * k) = 1 := by grind -lia
    have hn : ¬ (z = 0 ∨ y = 0) := fun h => h.elim hz hy
    simp only [jdouble, if_neg hn]
    rw [rep_of (i := i * k) hz', add_tan (s := 3 * ((x - z * z) * (x + z * z)) * (i * k)) hY (by grind -lia)]
    congr 1
    · grind -lia
    · grind -lia

theorem jadd_rep (p q : Jp) (hp : p.rep.on) (hq : q.rep.on) : (jadd p q).rep = add p.rep q.rep := by
  by_cases hz : p.z = 0
  · simp only [jadd, if_pos hz, rep_inf hz, inf_add]
  by_cases hw : q.z = 0
  · simp only [jadd, if_neg hz, if_pos hw, rep_inf hw, add_inf]
  have hd := jdouble_rep p
  obtain ⟨i, hi⟩ := inv_ex _ hz
  obtain ⟨j, hj⟩ := inv_ex _ hw
  have hi0 := ne_of_inv hi
  have hj0 := ne_of_inv hj
  simp only [jadd, if_neg hz, if_neg hw]
  by_cases hh : q.x * (p.z * p.z) - p.x * (q.z * q.z) = 0
  · rw [if_pos hh]
    by_cases hr : q.y * (p.z * (p.z * p.z)) - p.y * (q.z * (q.z * q.z)) = 0
    · rw [if_pos hr, hd]
      congr 1
      rw [rep_of hi, rep_of hj]
      congr 1
      · clear hr hd hp hq hi0 hj0; grind -lia
      · clear hh hd hp hq hi0 hj0; grind -lia
    · rw [if_neg hr, rep_inf (rfl : (Jp.inf).z = 0)]
      rw [rep_of hi, rep_of hj] at *
      have hX : p.x * (i * i) = q.x * (j * j) := by clear hr hd hp hq hi0 hj0; grind -lia
      simp only [Pt.on, onE] at hp hq
      rw [← hX] at hq
      have h1 : (q.y * (j * (j * j)) - p.y * (i * (i * i))) * (p.y * (i * (i * i)) + q.y * (j * (j * j))) = 0 := by
        have := hp.trans hq.symm
        clear hh hr hd hp hq hi0 hj0 hi hj hX
        grind -lia
      have hs : p.y * (i * (i * i)) + q.y * (j * (j * j)) = 0 := by
        rcases mul_eq_zero h1 with h | h
        · exfalso; apply hr
          clear h1 hh hr hd hp hq hi0 hj0 hX
          grind -lia
        · exact h
      simp only [add, hX, hs, and_self, if_true]
  · rw [if_neg hh]
    obtain ⟨k, hk⟩ := inv_ex _ hh
    have hz' : (p.z * q.z * (q.x * (p.z * p.z) - p.x * (q.z * q.z))) * (i * j * k) = 1 := by
      generalize q.x * (p.z * p.z) - p.x * (q.z * q.z) = h at hk
      clear hd hp hq hi0 hj0
      grind -lia
    have hne : p.x * (i * i) ≠ q.x * (j * j) := by
      intro h; apply hh
      clear hd hp hq hi0 hj0 hk hz' hh
      grind -lia
    rw [rep_of (i := i * j * k) hz', rep_of hi, rep_of hj]
    clear hd hp hq hi0 hj0 hh hz hw
    generalize p.x = x1 at *
    generalize p.y = y1 at *
    generalize p.z = z1 at *
    generalize q.x = x2 at *
    generalize q.y = y2 at *
    generalize q.z = z2 at *
    -- affine: X1 = x1 i^2 ..
    obtain ⟨X1, rfl⟩ : ∃ X, x1 = X * (z1 * z1) := ⟨x1 * (i * i), by grind -lia⟩
    obtain ⟨Y1, rfl⟩ : ∃ X, y1 = X * (z1 * (z1 * z1)) := ⟨y1 * (i * (i * i)), by grind -lia⟩
    obtain ⟨X2, rfl⟩ : ∃ X, x2 = X * (z2 * z2) := ⟨x2 * (j * j), by grind -lia⟩
    obtain ⟨Y2, rfl⟩ : ∃ X, y2 = X * (z2 * (z2 * z2)) := ⟨y2 * (j * (j * j)), by grind -lia⟩
    have c1 : ∀ X z i : F, z * i = 1 → X * (z * z) * (i * i) = X := by intro X z i h; grind -lia
    have c2 : ∀ X z i : F, z * i = 1 → X * (z * (z * z)) * (i * (i * i)) = X := by intro X z i h; grind -lia
    rw [c1 _ _ _ hi, c1 _ _ _ hj] at hne ⊢
    rw [c2 _ _ _ hi, c2 _ _ _ hj]
    have hd : X2 * (z2 * z2) * (z1 * z1) - X1 * (z1 * z1) * (z2 * z2) = (X2 - X1) * (z1 * z1 * (z2 * z2)) := by grind -lia
    rw [hd] at hk ⊢
    have hs : (Y2 * (z2 * (z2 * z2)) * (z1 * (z1 * z1)) - Y1 * (z1 * (z1 * z1)) * (z2 * (z2 * z2))) * (i * j * k) * (X2 - X1) = Y2 - Y1 := by
      clear hd hz' hne; grind -lia
    rw [add_chord hne hs]
    have hD : (X2 - X1) * (z1 * z1 * (z2 * z2)) * k = 1 := hk
    clear hd hz' hne hs hk
    congr 1
    · grind -lia
    · grind -lia
end TollEc
