import Derived.Test.YtbnfanmolphliaaDoorPrimes
/-! The group of the curve y^2 = x^3 - 3x + b over the field of the prime. -/
namespace TollEc
open TollNt

abbrev pp : Nat := 115792089210356248762697446949407573530086143415290314195533631308867097853951
abbrev F := Fin pp
def cb : F := 41058363725152142129326129780047268409114441015993725554835256314039467401291

theorem prm_pp : Prm pp := prm_115792089210356248762697446949407573530086143415290314195533631308867097853951

theorem inv_ex (x : F) (hx : x ≠ 0) : ∃ y : F, x * y = 1 := by
  refine ⟨⟨x.val ^ (pp - 2) % pp, Nat.mod_lt _ (by decide)⟩, ?_⟩
  apply Fin.ext
  have hnd : ¬ pp ∣ x.val := by
    intro h
    have := Nat.eq_zero_of_dvd_of_lt h x.isLt
    exact hx (Fin.ext this)
  have := fermat prm_pp hnd
  rw [Fin.val_mul]
  show x.val * (x.val ^ (pp - 2) % pp) % pp = 1
  rw [Nat.mul_mod_mod, Nat.mul_comm, ← Nat.pow_succ]
  exact this

theorem mul_eq_zero {a b : F} (h : a * b = 0) : a = 0 ∨ b = 0 := by
  by_cases ha : a = 0
  · exact .inl ha
  · obtain ⟨c, hc⟩ := inv_ex a ha
    right
    have : b = c * (a * b) := by grind -lia
    rw [this, h]; grind -lia

theorem cancel {a b c : F} (ha : a ≠ 0) (h : a * b = a * c) : b = c := by
  have h1 : a * (b - c) = 0 := by grind -lia
  rcases mul_eq_zero h1 with h2 | h2
  · exact absurd h2 ha
  · grind -lia

open Classical in
/-- the inverse; of nought: nought. -/
noncomputable def finv (x : F) : F := if h : ∃ y, x * y = 1 then Classical.choose h else 0
theorem finv_mul {x : F} (h : x ≠ 0) : x * finv x = 1 := by
  unfold finv
  rw [dif_pos (inv_ex x h)]
  exact Classical.choose_spec (inv_ex x h)
theorem finv_eq {x y : F} (h : x * y = 1) : finv x = y := by
  have hx : x ≠ 0 := by rintro rfl; exact absurd h (by grind -lia)
  exact cancel hx ((finv_mul hx).trans h.symm)

inductive Pt where
  | inf
  | aff (x y : F)
deriving DecidableEq

def onE (x y : F) : Prop := y * y = x * x * x - 3 * x + cb
def Pt.on : Pt → Prop
  | .inf => True
  | .aff x y => onE x y

def neg : Pt → Pt
  | .inf => .inf
  | .aff x y => .aff x (-y)

/-- the slope of the line through two points, or of the tangent. -/
noncomputable def slope (x1 y1 x2 y2 : F) : F :=
  if x1 = x2 then (3 * (x1 * x1) - 3) * finv (y1 + y2) else (y2 - y1) * finv (x2 - x1)

noncomputable def add : Pt → Pt → Pt
  | .inf, q => q
  | p, .inf => p
  | .aff x1 y1, .aff x2 y2 =>
    if x1 = x2 ∧ y1 + y2 = 0 then .inf
    else
      let s := slope x1 y1 x2 y2
      .aff (s * s - x1 - x2) (s * (x1 - (s * s - x1 - x2)) - y1)

theorem add_inf (p : Pt) : add p .inf = p := by cases p <;> rfl
theorem inf_add (p : Pt) : add .inf p = p := by cases p <;> rfl
theorem add_neg (p : Pt) : add p (neg p) = .inf := by
  cases p with
  | inf => rfl
  | aff x y =>
    have h : y + -y = 0 := by grind -lia
    simp only [neg, add, h, and_self, if_true]
theorem neg_neg (p : Pt) : neg (neg p) = p := by
  cases p with
  | inf => rfl
  | aff x y => simp only [neg]; congr 1; grind -lia
theorem on_neg {p : Pt} (h : p.on) : (neg p).on := by
  cases p with
  | inf => exact h
  | aff x y => simp only [neg, Pt.on, onE] at *; grind -lia

/-- a chord. -/
theorem add_chord {x1 y1 x2 y2 s : F} (hx : x1 ≠ x2) (hs : s * (x2 - x1) = y2 - y1) :
    add (.aff x1 y1) (.aff x2 y2) = .aff (s * s - x1 - x2) (s * (x1 - (s * s - x1 - x2)) - y1) := by
  have h0 : x2 - x1 ≠ 0 := by intro h; exact hx (by grind -lia)
  have hi := finv_mul h0
  have : slope x1 y1 x2 y2 = s := by
    unfold slope
    rw [if_neg hx, ← hs]; grind -lia
  simp only [add]
  rw [if_neg (fun h => hx h.1), this]

/-- a tangent. -/
theorem add_tan {x y s : F} (hy : y + y ≠ 0) (hs : s * (y + y) = 3 * (x * x) - 3) :
    add (.aff x y) (.aff x y) = .aff (s * s - x - x) (s * (x - (s * s - x - x)) - y) := by
  have hi := finv_mul hy
  have : slope x y x y = s := by
    unfold slope
    rw [if_pos rfl, ← hs]; grind -lia
  simp only [add]
  rw [if_neg (fun h => hy h.2), this]

/-- The line through two points that aren't opposite. -/
theorem line {x1 y1 x2 y2 : F} (h1 : onE x1 y1) (h2 : onE x2 y2) (hn : ¬ (x1 = x2 ∧ y1 + y2 = 0)) :
    ∃ l m x4 : F, y1 = l * x1 + m ∧ y2 = l * x2 + m ∧ x4 = l * l - x1 - x2 ∧
      x1 * x2 + x1 * x4 + x2 * x4 + 2 * l * m + 3 = 0 ∧ cb = m * m - x1 * x2 * x4 ∧
      add (.aff x1 y1) (.aff x2 y2) = .aff x4 (-(l * x4 + m)) := by
  unfold onE at h1 h2
  by_cases hx : x1 = x2
  · subst hx
    have hy : y1 + y2 ≠ 0 := fun h => hn ⟨rfl, h⟩
    have hyy : (y1 + y2) * (y1 - y2) = 0 := by grind -lia
    have hy12 : y1 = y2 := by
      rcases mul_eq_zero hyy with h | h
      · exact absurd h hy
      · grind -lia
    subst hy12
    have hi := finv_mul hy
    generalize hl : (3 * (x1 * x1) - 3) * finv (y1 + y1) = l
    have hs : l * (y1 + y1) = 3 * (x1 * x1) - 3 := by rw [← hl]; grind -lia
    clear hi hl
    refine ⟨l, y1 - l * x1, l * l - x1 - x1, by grind -lia, by grind -lia, rfl, by grind -lia, by grind -lia, ?_⟩
    rw [add_tan hy hs]; congr 1; grind -lia
  · have h0 : x2 - x1 ≠ 0 := by intro h; exact hx (by grind -lia)
    have hi := finv_mul h0
    generalize hl : (y2 - y1) * finv (x2 - x1) = l
    have hs : l * (x2 - x1) = y2 - y1 := by rw [← hl]; grind -lia
    clear hi hl
    obtain ⟨m, rfl⟩ : ∃ m, y1 = l * x1 + m := ⟨y1 - l * x1, by grind -lia⟩
    have hy2 : y2 = l * x2 + m := by grind -lia
    subst hy2
    have hk : (x2 - x1) * (x1 * x2 + x1 * (l * l - x1 - x2) + x2 * (l * l - x1 - x2) + 2 * l * m + 3) = 0 := by grind -lia
    have hR : x1 * x2 + x1 * (l * l - x1 - x2) + x2 * (l * l - x1 - x2) + 2 * l * m + 3 = 0 := by
      rcases mul_eq_zero hk with h | h
      · exact absurd h h0
      · exact h
    refine ⟨l, m, l * l - x1 - x2, rfl, rfl, rfl, hR, by grind -lia, ?_⟩
    rw [add_chord hx hs]; congr 1; grind -lia

theorem on_line {x1 x2 x4 l m : F} (h4 : x4 = l * l - x1 - x2) (e3 : x1 * x2 + x1 * x4 + x2 * x4 + 2 * l * m + 3 = 0)
    (e4 : cb = m * m - x1 * x2 * x4) : onE x4 (l * x4 + m) := by
  unfold onE
  have : (l * x4 + m) * (l * x4 + m) - (x4 * x4 * x4 - 3 * x4 + cb) = x4 * (x1 * x2 + x1 * x4 + x2 * x4 + 2 * l * m + 3) := by
    rw [e4]; grind -lia
  rw [e3] at this
  grind -lia

theorem on_add {p q : Pt} (hp : p.on) (hq : q.on) : (add p q).on := by
  cases p with
  | inf => rw [inf_add]; exact hq
  | aff x1 y1 =>
    cases q with
    | inf => rw [add_inf]; exact hp
    | aff x2 y2 =>
      by_cases hn : x1 = x2 ∧ y1 + y2 = 0
      · simp only [add, if_pos hn]; exact True.intro
      · obtain ⟨l, m, x4, e1, e2, h4, e3, e4, e5⟩ := line hp hq hn
        rw [e5]
        exact on_neg (p := .aff x4 (l * x4 + m)) (on_line h4 e3 e4)

theorem add_comm (p q : Pt) (hp : p.on) (hq : q.on) : add p q = add q p := by
  cases p with
  | inf => rw [inf_add, add_inf]
  | aff x1 y1 =>
    cases q with
    | inf => rw [inf_add, add_inf]
    | aff x2 y2 =>
      by_cases hx : x1 = x2
      · subst hx
        by_cases hn : y1 + y2 = 0
        · have hn' : y2 + y1 = 0 := by grind -lia
          simp only [add, hn, hn', and_self, if_true]
        · simp only [Pt.on, onE] at hp hq
          have hyy : (y1 + y2) * (y1 - y2) = 0 := by grind -lia
          have hy12 : y1 = y2 := by
            rcases mul_eq_zero hyy with h | h
            · exact absurd h hn
            · grind -lia
          rw [hy12]
      · have h0 : x2 - x1 ≠ 0 := by intro h; exact hx (by grind -lia)
        have hi := finv_mul h0
        generalize hl : (y2 - y1) * finv (x2 - x1) = l
        have hs : l * (x2 - x1) = y2 - y1 := by rw [← hl]; grind -lia
        have hs' : l * (x1 - x2) = y1 - y2 := by grind -lia
        clear hi hl hp hq
        rw [add_chord hx hs, add_chord (fun h => hx h.symm) hs']
        congr 1
        · grind -lia
        · grind -lia

/-- no point is of order two with a flat tangent. -/
theorem smooth {x : F} (h1 : x * x = 1) (h2 : cb = 2 * x) : False := by
  have h3 : cb * cb = 4 := by rw [h2]; grind -lia
  exact absurd h3 (by decide +kernel)

theorem two_ne : (2 : F) ≠ 0 := by decide +kernel
theorem three_ne : (3 : F) ≠ 0 := by decide +kernel

/-- a sum, less what was added. -/
theorem add_back {s b : Pt} (hs : s.on) (hb : b.on) : add (add s b) (neg b) = s := by
  cases b with
  | inf => simp only [neg, add_inf]
  | aff x2 y2 =>
    cases s with
    | inf => rw [inf_add, add_neg]
    | aff x1 y1 =>
      by_cases hn : x1 = x2 ∧ y1 + y2 = 0
      · obtain ⟨rfl, hy⟩ := hn
        simp only [add, hy, and_self, if_true, neg]
        congr 1; grind -lia
      · obtain ⟨l, m, x4, e1, e2, h4, e3, e4, e5⟩ := line hs hb hn
        rw [e5]
        simp only [neg]
        clear hs hb e5 hn
        by_cases hx : x4 = x2
        · subst hx
          have hy : y2 + y2 ≠ 0 := by
            intro hy
            have h2y : 2 * y2 = 0 := by grind -lia
            have hy0 : y2 = 0 := by
              rcases mul_eq_zero h2y with h | h
              · exact absurd h two_ne
              · exact h
            have hm : m = - (l * x4) := by grind -lia
            subst hm
            have hx1 : x1 = l * l - x4 - x4 := by grind -lia
            subst hx1
            have h3 : 3 * (x4 * x4 - 1) = 0 := by grind -lia
            have h5 : x4 * x4 = 1 := by
              rcases mul_eq_zero h3 with h | h
              · exact absurd h three_ne
              · grind -lia
            refine smooth h5 ?_
            rw [e4]; grind -lia
          have hy' : -y2 + -y2 ≠ 0 := by intro h; exact hy (by grind -lia)
          have ht : (-l) * (-y2 + -y2) = 3 * (x4 * x4) - 3 := by
            have hx1 : x1 = l * l - x4 - x4 := by grind -lia
            subst hx1
            grind -lia
          rw [← e2, add_tan hy' ht]
          congr 1 <;> grind -lia
        · have hsl : (-l) * (x2 - x4) = -y2 - -(l * x4 + m) := by grind -lia
          rw [add_chord hx hsl]
          congr 1 <;> grind -lia

theorem add_cancel {p q s : Pt} (hp : p.on) (hq : q.on) (hs : s.on) (h : add p s = add q s) : p = q := by
  rw [← add_back hp hs, h, add_back hq hs]

theorem assoc_x (x1 x2 x3 l k w x4 x6 : F) (hw : w * (k - l) = x3 - x1) (h4 : x4 = l*l - x1 - x2) (h6 : x6 = k*k - x2 - x3) :
    (w - l)*(w - l) - x3 - x4 = (w - k)*(w - k) - x1 - x6 := by grind -lia
theorem assoc_y (x1 x2 x3 y1 y2 y3 l k w x5 : F) (hw : w * (k - l) = x3 - x1) 
    (h1 : y1 - y2 = l * (x1 - x2)) (h3 : y3 - y2 = k * (x3 - x2)) (h5 : x5 = (w - l)*(w - l) - x3 - (l*l - x1 - x2)) :
    (w - l)*(x3 - x5) - y3 = (w - k)*(x1 - x5) - y1 := by grind -lia

theorem r_sub {a b c : F} (h : a = b + c) : c = a - b := by grind -lia
theorem r_sub0 {a b : F} (h : a - b = 0) : a = b := by grind -lia
theorem r_mul {a b c : F} (h : b * c = 1) : a * c * b = a := by grind -lia
theorem r_cube {x1 x2 x3 x4 l m : F} (h4 : x4 = l * l - x1 - x2) (e3 : x1 * x2 + x1 * x4 + x2 * x4 + 2 * l * m + 3 = 0) :
    x3 * x3 * x3 - 3 * x3 + (m * m - x1 * x2 * x4) - (l * x3 + m) * (l * x3 + m) = (x3 - x1) * (x3 - x2) * (x3 - x4) := by
  have : x3 * x3 * x3 - 3 * x3 + (m * m - x1 * x2 * x4) - (l * x3 + m) * (l * x3 + m) - (x3 - x1) * (x3 - x2) * (x3 - x4) = - x3 * (x1 * x2 + x1 * x4 + x2 * x4 + 2 * l * m + 3) := by
    subst h4; clear e3; grind -lia
  rw [e3] at this
  grind -lia
theorem r_y3 {y2 y3 k x2 x3 q : F} (f1 : y2 = k * x2 + q) (f2 : y3 = k * x3 + q) : y3 = y2 + k * (x3 - x2) := by grind -lia
theorem r_g {x1 x2 x3 x4 y2 k l : F} (g : (y2 + k * (x3 - x2)) * (y2 + k * (x3 - x2)) - (y2 + l * (x3 - x2)) * (y2 + l * (x3 - x2)) = (x3 - x1) * (x3 - x2) * (x3 - x4)) :
    (x3 - x2) * ((k - l) * ((k + l) * (x3 - x2) + 2 * y2) - (x3 - x1) * (x3 - x4)) = 0 := by grind -lia
theorem r_t1 {x1 x3 x4 k l w : F} (hw : w * (k - l) = x3 - x1) : (k - l) * ((w - l) * (x3 - x4)) = (x3 - x1) * (x3 - x4) - l * (k - l) * (x3 - x4) := by grind -lia
theorem r_t2 {x1 x3 x6 k l w : F} (hw : w * (k - l) = x3 - x1) : (k - l) * ((w - k) * (x6 - x1)) = (x3 - x1) * (x6 - x1) - k * (k - l) * (x6 - x1) := by grind -lia
theorem r_u1 (x2 x3 x4 y2 k l : F) : (k - l) * ((k + l) * (x3 - x2) + 2 * y2) - l * (k - l) * (x3 - x4) = (k - l) * (y2 + k * (x3 - x2) - -(y2 + l * (x4 - x2))) := by grind -lia
theorem r_u2 {x1 x2 x3 y2 k l : F} (t : (k - l) * ((k + l) * (x3 - x2) + 2 * y2) = (x3 - x1) * (x3 - (l * l - x1 - x2))) :
    (x3 - x1) * (k * k - x2 - x3 - x1) - k * (k - l) * (k * k - x2 - x3 - x1) = (k - l) * (-(y2 + k * (k * k - x2 - x3 - x2)) - (y2 + l * (x1 - x2))) := by grind -lia
theorem r_sw {a b c : F} : a - b - c = a - c - b := by grind -lia
theorem r_dif {y1 y2 l m x1 x2 : F} (e1 : y1 = l * x1 + m) (e2 : y2 = l * x2 + m) : y1 - y2 = l * (x1 - x2) := by grind -lia
theorem r_end {s a b x x3 y3 : F} (h : s * (x3 - a) = y3 - b) : s * (a - x) - b = s * (x3 - x) - y3 := by grind -lia

/-- associativity where all that is added to is apart from what is added. -/
theorem assoc_aff {x1 y1 x2 y2 x3 y3 : F} (h1 : onE x1 y1) (h2 : onE x2 y2) (h3 : onE x3 y3) (hn : ¬ (x1 = x2 ∧ y1 + y2 = 0))
    (h31 : x3 ≠ x1) (h32 : x3 ≠ x2) (h34 : ∀ y, add (.aff x1 y1) (.aff x2 y2) ≠ .aff x3 y) (h61 : ∀ y, add (.aff x2 y2) (.aff x3 y3) ≠ .aff x1 y) :
    add (add (.aff x1 y1) (.aff x2 y2)) (.aff x3 y3) = add (.aff x1 y1) (add (.aff x2 y2) (.aff x3 y3)) := by
  obtain ⟨l, m, x4, e1, e2, e0, e3, e4, e5⟩ := line h1 h2 hn
  obtain ⟨k, q, x6, f1, f2, f0, f3, f4, f5⟩ := line h2 h3 (fun h => h32 h.1.symm)
  rw [e5] at h34 ⊢
  rw [f5] at h61 ⊢
  have h34' : x3 ≠ x4 := fun h => h34 _ (by rw [h])
  have h61' : x1 ≠ x6 := fun h => h61 _ (by rw [h])
  unfold onE at h3
  -- the line from B to S against the line of A and B
  have g1 : y3 * y3 - (l * x3 + m) * (l * x3 + m) = (x3 - x1) * (x3 - x2) * (x3 - x4) := by rw [h3, e4]; exact r_cube e0 e3
  have g2 := r_y3 f1 f2
  have g3 := r_y3 e2 (rfl : l * x3 + m = l * x3 + m)
  have g4 := r_y3 e2 (rfl : l * x4 + m = l * x4 + m)
  have g5 := r_y3 f1 (rfl : k * x6 + q = k * x6 + q)
  have g6 := r_y3 e2 e1
  have h32' : x3 - x2 ≠ 0 := fun h => h32 (r_sub0 h)
  have hkl : (k - l) * ((k + l) * (x3 - x2) + 2 * y2) = (x3 - x1) * (x3 - x4) := by
    rw [g2, g3] at g1
    rcases mul_eq_zero (r_g g1) with h | h
    · exact absurd h h32'
    · exact r_sub0 h
  have hkl0 : k - l ≠ 0 := by
    intro h
    rw [h, Fin.zero_mul] at hkl
    rcases mul_eq_zero hkl.symm with g | g
    · exact h31 (r_sub0 g)
    · exact h34' (r_sub0 g)
  obtain ⟨w, hw⟩ : ∃ w, w * (k - l) = x3 - x1 := ⟨(x3 - x1) * finv (k - l), r_mul (finv_mul hkl0)⟩
  -- the two slopes
  have hs1 : (w - l) * (x3 - x4) = y3 - -(l * x4 + m) := by
    refine cancel hkl0 ?_
    rw [r_t1 hw, ← hkl, g2, g4, r_u1]
  have hs2 : (w - k) * (x6 - x1) = -(k * x6 + q) - y1 := by
    refine cancel hkl0 ?_
    rw [r_t2 hw, g5, g6]
    rw [e0] at hkl
    rw [f0]
    exact r_u2 hkl
  have hxx := assoc_x x1 x2 x3 l k w x4 x6 hw e0 f0
  have hyy := assoc_y x1 x2 x3 y1 y2 y3 l k w ((w - k) * (w - k) - x1 - x6) hw (r_dif e1 e2) (r_dif f2 f1) (by rw [← hxx, e0])
  rw [add_chord (fun h => h34' h.symm) hs1, add_chord h61' hs2, r_sw, hxx, ← hyy, r_end hs1]

/-- the points that associativity by lines is not sure of. -/
noncomputable def bad (a b : Pt) : List Pt := [.inf, a, neg a, b, neg b, add a b, neg (add a b), add a (neg b), add (neg a) (neg b)]

theorem aff_or {x y z : F} (h1 : onE x y) (h2 : onE x z) : Pt.aff x z = .aff x y ∨ Pt.aff x z = neg (.aff x y) := by
  unfold onE at h1 h2
  have : (z - y) * (z + y) = 0 := by rw [← h2] at h1; grind -lia
  rcases mul_eq_zero this with h | h
  · left; rw [r_sub0 h]
  · right; simp only [neg]; congr 1; grind -lia

theorem assoc_gen {a b s : Pt} (ha : a.on) (hb : b.on) (hs : s.on) (h : s ∉ bad a b) : add (add a b) s = add a (add b s) := by
  simp only [bad, List.mem_cons, List.not_mem_nil, or_false, not_or] at h
  obtain ⟨n0, n1, n2, n3, n4, n5, n6, n7, n8⟩ := h
  cases a with
  | inf => simp only [inf_add]
  | aff x1 y1 =>
    cases b with
    | inf => simp only [inf_add, add_inf]
    | aff x2 y2 =>
      cases s with
      | inf => exact absurd rfl n0
      | aff x3 y3 =>
        have hab := on_add ha hb
        have hbs := on_add hb hs
        by_cases hn : x1 = x2 ∧ y1 + y2 = 0
        · have e1 : add (.aff x1 y1) (.aff x2 y2) = .inf := by simp only [add, if_pos hn]
          obtain ⟨rfl, hy⟩ := hn
          have e2 : Pt.aff x1 y2 = neg (.aff x1 y1) := by simp only [neg]; congr 1; grind -lia
          have hc := add_back hs hb
          rw [e2, neg_neg, ← e2] at hc
          rw [e1, inf_add, add_comm _ _ ha hbs, add_comm _ _ hb hs, hc]
        · refine assoc_aff ha hb hs hn ?_ ?_ ?_ ?_
          · rintro rfl
            rcases aff_or ha hs with e | e
            · exact n1 e
            · exact n2 e
          · rintro rfl
            rcases aff_or hb hs with e | e
            · exact n3 e
            · exact n4 e
          · intro y e
            rw [e] at hab n5 n6
            rcases aff_or hab hs with e | e
            · exact n5 e
            · exact n6 e
          · intro y e
            rw [e] at hbs
            have hsb := add_back hs hb
            rw [add_comm _ _ hs hb, e] at hsb
            rcases aff_or ha hbs with g | g
            · rw [g] at hsb; exact n7 hsb.symm
            · rw [g] at hsb; exact n8 hsb.symm

/-- one of a list that isn't in another, shorter one. -/
theorem apart {α : Type} [DecidableEq α] : ∀ (l m : List α), l.Nodup → m.length < l.length → ∃ x, x ∈ l ∧ x ∉ m := by
  intro l m hn hl
  apply Classical.byContradiction
  intro hc
  have hsub : l ⊆ m := by
    intro x hx
    apply Classical.byContradiction
    intro hm
    exact hc ⟨x, hx, hm⟩
  have key : ∀ (l m : List α), l.Nodup → l ⊆ m → l.length ≤ m.length := by
    intro l
    induction l with
    | nil => intro m _ _; simp
    | cons a l ih =>
      intro m hn hs
      rw [List.nodup_cons] at hn
      have ha : a ∈ m := hs (by simp)
      have h1 := ih (m.erase a) hn.2 (by
        intro x hx
        have hne : x ≠ a := by rintro rfl; exact hn.1 hx
        exact (List.mem_erase_of_ne hne).2 (hs (by simp [hx])))
      have h2 := List.length_erase_of_mem ha
      have h3 := List.length_pos_of_mem ha
      simp; omega
  have := key l m hn hsub
  omega

/-- some points. -/
def some : List (F × F) := [(0, 46263761741508638697010950048709651021688891777877937875096931459006746039284), (0, 69528327468847610065686496900697922508397251637412376320436699849860351814667), (5, 31468013646237722594854082025316614106172411895747863909393730389177298123724), (5, 84324075564118526167843364924090959423913731519542450286139900919689799730227), (6, 24739918328848417526480033809572464882617473122143770809273908485596236620747), (6, 91052170881507831236217413139835108647468670293146543386259722823270861233204), (8, 82784132184742902406611976374283817475915538652053173371854007222633983132083), (8, 33007957025613346356085470575123756054170604763237140823679624086233114721868), (9, 64265364456294082747112527522981594904960689488638802860996194286474266915479), (9, 51526724754062166015584919426425978625125453926651511334537437022392830938472), (12, 66934920894945216687164320457392073305141033253131913951695301233381400331143), (12, 48857168315411032075533126492015500224945110162158400243838330075485697522808), (13, 53404144414778303508799263379260966483386805595332806637100379275867514529459), (13, 62387944795577945253898183570146607046699337819957507558433252032999583324492), (17, 43783450011834442217334481138474159509558335318535455861762733939497581045049), (17, 72008639198521806545362965810933414020527808096754858333770897369369516808902), (23, 37114329264221932393644918276665526732952696771951479144529462133154348400658), (23, 78677759946134316369052528672742046797133446643338835051004169175712749453293), (24, 26321841318174713433978379012486154109266602617658289202947244817969700794459), (24, 89470247892181535328719067936921419420819540797632024992586386490897397059492), (25, 101842049421071908540038086255668332854032952517920383898783206756845809129814), (25, 13950039789284340222659360693739240676053190897369930296750424552021288724137), (26, 24424587111845263483165880188626713615059877529618610383051097479852596134318), (26, 91367502098510985279531566760780859915026265885671703812482533829014501719633), (29, 18773105118284221259526141573442436911129172592710552834788399784636057579277), (29, 97018984092072027503171305375965136618956970822579761360745231524231040274674), (31, 51772576644680527507497169225388455048738671303331750808704780383361075168277), (31, 64019512565675721255200277724019118481347472111958563386828850925506022685674), (34, 59791363792270185952812307835825910484107935385933905162606848621164130833239), (34, 56000725418086062809885139113581663045978208029356409032926782687702967020712), (35, 40295540095254214384559919770004980525704531316622728644383555421946762207439), (35, 75496549115102034378137527179402593004381612098667585551150075886920335646512), (37, 27019068728911808621164184721360182012211537658607486295926391355263536972569), (37, 88773020481444440141533262228047391517874605756682827899607239953603560881382), (39, 111580631210431117360875745014289346788358530860711711829739028359136821314236), (39, 4211457999925131401821701935118226741727612554578602365794602949730276539715), (44, 70441152804929838592241369407579099569779936506845887129699483765394726397243), (44, 45350936405426410170456077541828473960306206908444427065834147543472371456708), (45, 80898553851609202973000225381347700523925001632437640323176976999290509256427), (45, 34893535358747045789697221568059873006161141782852673872356654309576588597524)]
theorem some_on : ∀ z ∈ some, onE z.1 z.2 := by
  have : (some.all fun z => decide (z.2 * z.2 = z.1 * z.1 * z.1 - 3 * z.1 + cb)) = true := by decide +kernel
  intro z hz
  have h := List.all_eq_true.1 this z hz
  simp only [decide_eq_true_eq] at h
  exact h
theorem some_nodup : some.Nodup := by decide +kernel

def somePts : List Pt := some.map fun z => .aff z.1 z.2
theorem somePts_on : ∀ p ∈ somePts, p.on := by
  intro p hp
  obtain ⟨z, hz, rfl⟩ := List.mem_map.1 hp
  exact some_on z hz
theorem somePts_nodup : somePts.Nodup := by
  refine nodup_map _ _ some_nodup ?_
  rintro ⟨a, b⟩ _ ⟨c, d⟩ _ h
  injection h with h1 h2
  simp only at h1 h2
  rw [h1, h2]

theorem add_assoc {p q r : Pt} (hp : p.on) (hq : q.on) (hr : r.on) : add (add p q) r = add p (add q r) := by
  obtain ⟨s, hs, hn⟩ := apart somePts (bad (add p q) r ++ (bad p q).map (fun x => add x (neg r)) ++ bad q r ++ bad p (add q r)) somePts_nodup (by
    have : somePts.length = 40 := by decide +kernel
    rw [this]; simp [bad])
  have hon := somePts_on s hs
  simp only [List.mem_append, not_or] at hn
  obtain ⟨⟨⟨n1, n2⟩, n3⟩, n4⟩ := hn
  have n2' : add r s ∉ bad p q := by
    intro h
    refine n2 (List.mem_map.2 ⟨_, h, ?_⟩)
    show add (add r s) (neg r) = s
    rw [add_comm r s hr hon]; exact add_back hon hr
  have hpq := on_add hp hq
  have hqr := on_add hq hr
  refine add_cancel (on_add hpq hr) (on_add hp hqr) hon ?_
  rw [assoc_gen hpq hr hon n1, assoc_gen hp hq (on_add hr hon) n2', ← assoc_gen hq hr hon n3, ← assoc_gen hp hqr hon n4]
#print axioms add_assoc
end TollEc
