import Derived.Laws.Tables
import Derived.Test.YtafbhakmkbehiaaDoorY3
section
namespace TollEc
open TollNt
abbrev pp : Nat := 115792089210356248762697446949407573530086143415290314195533631308867097853951
abbrev F := Fin pp
def cb : F := 41058363725152142129326129780047268409114441015993725554835256314039467401291
theorem prm_pp : Prm pp := prm_115792089210356248762697446949407573530086143415290314195533631308867097853951
theorem inv_ex (x : F) (hx : x ≠ 0) : ∃ y : F, x * y = 1 := by
  refine ⟨⟨x.val ^ (pp - 2) % pp, Nat.mod_lt _ (by decide)⟩, ?_⟩
  apply Fin.ext
  have hnd : ¬ pp ∣ x.val := by
    intro h
    have := Nat.eq_zero_of_dvd_of_lt h x.isLt
    exact hx (Fin.ext this)
  have := fermat prm_pp hnd
  rw [Fin.val_mul]
  show x.val * (x.val ^ (pp - 2) % pp) % pp = 1
  rw [Nat.mul_mod_mod, Nat.mul_comm, ← Nat.pow_succ]
  exact this
theorem mul_eq_zero {a b : F} (h : a * b = 0) : a = 0 ∨ b = 0 := by
  by_cases ha : a = 0
  · exact .inl ha
  · obtain ⟨c, hc⟩ := inv_ex a ha
    right
    have : b = c * (a * b) := by grind -lia
    rw [this, h]; grind -lia
theorem cancel {a b c : F} (ha : a ≠ 0) (h : a * b = a * c) : b = c := by
  have h1 : a * (b - c) = 0 := by grind -lia
  rcases mul_eq_zero h1 with h2 | h2
  · exact absurd h2 ha
  · grind -lia
open Classical in
noncomputable def finv (x : F) : F := if h : ∃ y, x * y = 1 then Classical.choose h else 0
theorem finv_mul {x : F} (h : x ≠ 0) : x * finv x = 1 := by
  unfold finv
  rw [dif_pos (inv_ex x h)]
  exact Classical.choose_spec (inv_ex x h)
theorem finv_eq {x y : F} (h : x * y = 1) : finv x = y := by
  have hx : x ≠ 0 := by rintro rfl; exact absurd h (by grind -lia)
  exact cancel hx ((finv_mul hx).trans h.symm)
inductive Pt where
  | inf
  | aff (x y : F)
deriving DecidableEq
def onE (x y : F) : Prop := y * y = x * x * x - 3 * x + cb
def Pt.on : Pt → Prop
  | .inf => True
  | .aff x y => onE x y
def neg : Pt → Pt
  | .inf => .inf
  | .aff x y => .aff x (-y)
noncomputable def slope (x1 y1 x2 y2 : F) : F :=
  if x1 = x2 then (3 * (x1 * x1) - 3) * finv (y1 + y2) else (y2 - y1) * finv (x2 - x1)
noncomputable def add : Pt → Pt → Pt
  | .inf, q => q
  | p, .inf => p
  | .aff x1 y1, .aff x2 y2 =>
    if x1 = x2 ∧ y1 + y2 = 0 then .inf
    else
      let s := slope x1 y1 x2 y2
      .aff (s * s - x1 - x2) (s * (x1 - (s * s - x1 - x2)) - y1)
theorem add_inf (p : Pt) : add p .inf = p := by cases p <;> rfl
theorem inf_add (p : Pt) : add .inf p = p := by cases p <;> rfl
theorem add_neg (p : Pt) : add p (neg p) = .inf := by
  cases p with
  | inf => rfl
  | aff x y =>
    have h : y + -y = 0 := by grind -lia
    simp only [neg, add, h, and_self, if_true]
theorem neg_neg (p : Pt) : neg (neg p) = p := by
  cases p with
  | inf => rfl
  | aff x y => simp only [neg]; congr 1; grind -lia
theorem on_neg {p : Pt} (h : p.on) : (neg p).on := by
  cases p with
  | inf => exact h
  | aff x y => simp only [neg, Pt.on, onE] at *; grind -lia
theorem add_chord {x1 y1 x2 y2 s : F} (hx : x1 ≠ x2) (hs : s * (x2 - x1) = y2 - y1) :
    add (.aff x1 y1) (.aff x2 y2) = .aff (s * s - x1 - x2) (s * (x1 - (s * s - x1 - x2)) - y1) := by
  have h0 : x2 - x1 ≠ 0 := by intro h; exact hx (by grind -lia)
  have hi := finv_mul h0
  have : slope x1 y1 x2 y2 = s := by
    unfold slope
    rw [if_neg hx, ← hs]; grind -lia
  simp only [add]
  rw [if_neg (fun h => hx h.1), this]
theorem add_tan {x y s : F} (hy : y + y ≠ 0) (hs : s * (y + y) = 3 * (x * x) - 3) :
    add (.aff x y) (.aff x y) = .aff (s * s - x - x) (s * (x - (s * s - x - x)) - y) := by
  have hi := finv_mul hy
  have : slope x y x y = s := by
    unfold slope
    rw [if_pos rfl, ← hs]; grind -lia
  simp only [add]
  rw [if_neg (fun h => hy h.2), this]
theorem line {x1 y1 x2 y2 : F} (h1 : onE x1 y1) (h2 : onE x2 y2) (hn : ¬ (x1 = x2 ∧ y1 + y2 = 0)) :
    ∃ l m x4 : F, y1 = l * x1 + m ∧ y2 = l * x2 + m ∧ x4 = l * l - x1 - x2 ∧
      x1 * x2 + x1 * x4 + x2 * x4 + 2 * l * m + 3 = 0 ∧ cb = m * m - x1 * x2 * x4 ∧
      add (.aff x1 y1) (.aff x2 y2) = .aff x4 (-(l * x4 + m)) := by
  unfold onE at h1 h2
  by_cases hx : x1 = x2
  · subst hx
    have hy : y1 + y2 ≠ 0 := fun h => hn ⟨rfl, h⟩
    have hyy : (y1 + y2) * (y1 - y2) = 0 := by grind -lia
    have hy12 : y1 = y2 := by
      rcases mul_eq_zero hyy with h | h
      · exact absurd h hy
      · grind -lia
    subst hy12
    have hi := finv_mul hy
    generalize hl : (3 * (x1 * x1) - 3) * finv (y1 + y1) = l
    have hs : l * (y1 + y1) = 3 * (x1 * x1) - 3 := by rw [← hl]; grind -lia
    clear hi hl
    refine ⟨l, y1 - l * x1, l * l - x1 - x1, by grind -lia, by grind -lia, rfl, by grind -lia, by grind -lia, ?_⟩
    rw [add_tan hy hs]; congr 1; grind -lia
  · have h0 : x2 - x1 ≠ 0 := by intro h; exact hx (by grind -lia)
    have hi := finv_mul h0
    generalize hl : (y2 - y1) * finv (x2 - x1) = l
    have hs : l * (x2 - x1) = y2 - y1 := by rw [← hl]; grind -lia
    clear hi hl
    obtain ⟨m, rfl⟩ : ∃ m, y1 = l * x1 + m := ⟨y1 - l * x1, by grind -lia⟩
    have hy2 : y2 = l * x2 + m := by grind -lia
    subst hy2
    have hk : (x2 - x1) * (x1 * x2 + x1 * (l * l - x1 - x2) + x2 * (l * l - x1 - x2) + 2 * l * m + 3) = 0 := by grind -lia
    have hR : x1 * x2 + x1 * (l * l - x1 - x2) + x2 * (l * l - x1 - x2) + 2 * l * m + 3 = 0 := by
      rcases mul_eq_zero hk with h | h
      · exact absurd h h0
      · exact h
    refine ⟨l, m, l * l - x1 - x2, rfl, rfl, rfl, hR, by grind -lia, ?_⟩
    rw [add_chord hx hs]; congr 1; grind -lia
theorem on_line {x1 x2 x4 l m : F} (h4 : x4 = l * l - x1 - x2) (e3 : x1 * x2 + x1 * x4 + x2 * x4 + 2 * l * m + 3 = 0)
    (e4 : cb = m * m - x1 * x2 * x4) : onE x4 (l * x4 + m) := by
  unfold onE
  have : (l * x4 + m) * (l * x4 + m) - (x4 * x4 * x4 - 3 * x4 + cb) = x4 * (x1 * x2 + x1 * x4 + x2 * x4 + 2 * l * m + 3) := by
    rw [e4]; grind -lia
  rw [e3] at this
  grind -lia
theorem on_add {p q : Pt} (hp : p.on) (hq : q.on) : (add p q).on := by
  cases p with
  | inf => rw [inf_add]; exact hq
  | aff x1 y1 =>
    cases q with
    | inf => rw [add_inf]; exact hp
    | aff x2 y2 =>
      by_cases hn : x1 = x2 ∧ y1 + y2 = 0
      · simp only [add, if_pos hn]; exact True.intro
      · obtain ⟨l, m, x4, e1, e2, h4, e3, e4, e5⟩ := line hp hq hn
        rw [e5]
        exact on_neg (p := .aff x4 (l * x4 + m)) (on_line h4 e3 e4)
theorem add_comm (p q : Pt) (hp : p.on) (hq : q.on) : add p q = add q p := by
  cases p with
  | inf => rw [inf_add, add_inf]
  | aff x1 y1 =>
    cases q with
    | inf => rw [inf_add, add_inf]
    | aff x2 y2 =>
      by_cases hx : x1 = x2
      · subst hx
        by_cases hn : y1 + y2 = 0
        · have hn' : y2 + y1 = 0 := by grind -lia
          simp only [add, hn, hn', and_self, if_true]
        · simp only [Pt.on, onE] at hp hq
          have hyy : (y1 + y2) * (y1 - y2) = 0 := by grind -lia
          have hy12 : y1 = y2 := by
            rcases mul_eq_zero hyy with h | h
            · exact absurd h hn
            · grind -lia
          rw [hy12]
      · have h0 : x2 - x1 ≠ 0 := by intro h; exact hx (by grind -lia)
        have hi := finv_mul h0
        generalize hl : (y2 - y1) * finv (x2 - x1) = l
        have hs : l * (x2 - x1) = y2 - y1 := by rw [← hl]; grind -lia
        have hs' : l * (x1 - x2) = y1 - y2 := by grind -lia
        clear hi hl hp hq
        rw [add_chord hx hs, add_chord (fun h => hx h.symm) hs']
        congr 1
        · grind -lia
        · grind -lia
theorem smooth {x : F} (h1 : x * x = 1) (h2 : cb = 2 * x) : False := by
  have h3 : cb * cb = 4 := by rw [h2]; grind -lia
  exact absurd h3 (by decide +kernel)
theorem two_ne : (2 : F) ≠ 0 := by decide +kernel
theorem three_ne : (3 : F) ≠ 0 := by decide +kernel
theorem add_back {s b : Pt} (hs : s.on) (hb : b.on) : add (add s b) (neg b) = s := by
  cases b with
  | inf => simp only [neg, add_inf]
  | aff x2 y2 =>
    cases s with
    | inf => rw [inf_add, add_neg]
    | aff x1 y1 =>
      by_cases hn : x1 = x2 ∧ y1 + y2 = 0
      · obtain ⟨rfl, hy⟩ := hn
        simp only [add, hy, and_self, if_true, neg]
        congr 1; grind -lia
      · obtain ⟨l, m, x4, e1, e2, h4, e3, e4, e5⟩ := line hs hb hn
        rw [e5]
        simp only [neg]
        clear hs hb e5 hn
        by_cases hx : x4 = x2
        · subst hx
          have hy : y2 + y2 ≠ 0 := by
            intro hy
            have h2y : 2 * y2 = 0 := by grind -lia
            have hy0 : y2 = 0 := by
              rcases mul_eq_zero h2y with h | h
              · exact absurd h two_ne
              · exact h
            have hm : m = - (l * x4) := by grind -lia
            subst hm
            have hx1 : x1 = l * l - x4 - x4 := by grind -lia
            subst hx1
            have h3 : 3 * (x4 * x4 - 1) = 0 := by grind -lia
            have h5 : x4 * x4 = 1 := by
              rcases mul_eq_zero h3 with h | h
              · exact absurd h three_ne
              · grind -lia
            refine smooth h5 ?_
            rw [e4]; grind -lia
          have hy' : -y2 + -y2 ≠ 0 := by intro h; exact hy (by grind -lia)
          have ht : (-l) * (-y2 + -y2) = 3 * (x4 * x4) - 3 := by
            have hx1 : x1 = l * l - x4 - x4 := by grind -lia
            subst hx1
            grind -lia
          rw [← e2, add_tan hy' ht]
          congr 1 <;> grind -lia
        · have hsl : (-l) * (x2 - x4) = -y2 - -(l * x4 + m) := by grind -lia
          rw [add_chord hx hsl]
          congr 1 <;> grind -lia
theorem add_cancel {p q s : Pt} (hp : p.on) (hq : q.on) (hs : s.on) (h : add p s = add q s) : p = q := by
  rw [← add_back hp hs, h, add_back hq hs]
theorem assoc_x (x1 x2 x3 l k w x4 x6 : F) (hw : w * (k - l) = x3 - x1) (h4 : x4 = l*l - x1 - x2) (h6 : x6 = k*k - x2 - x3) :
    (w - l)*(w - l) - x3 - x4 = (w - k)*(w - k) - x1 - x6 := by grind -lia
theorem assoc_y (x1 x2 x3 y1 y2 y3 l k w x5 : F) (hw : w * (k - l) = x3 - x1) 
    (h1 : y1 - y2 = l * (x1 - x2)) (h3 : y3 - y2 = k * (x3 - x2)) (h5 : x5 = (w - l)*(w - l) - x3 - (l*l - x1 - x2)) :
    (w - l)*(x3 - x5) - y3 = (w - k)*(x1 - x5) - y1 := by grind -lia
theorem r_sub0 {a b : F} (h : a - b = 0) : a = b := by grind -lia
theorem r_mul {a b c : F} (h : b * c = 1) : a * c * b = a := by grind -lia
theorem r_cube {x1 x2 x3 x4 l m : F} (h4 : x4 = l * l - x1 - x2) (e3 : x1 * x2 + x1 * x4 + x2 * x4 + 2 * l * m + 3 = 0) :
    x3 * x3 * x3 - 3 * x3 + (m * m - x1 * x2 * x4) - (l * x3 + m) * (l * x3 + m) = (x3 - x1) * (x3 - x2) * (x3 - x4) := by
  have : x3 * x3 * x3 - 3 * x3 + (m * m - x1 * x2 * x4) - (l * x3 + m) * (l * x3 + m) - (x3 - x1) * (x3 - x2) * (x3 - x4) = - x3 * (x1 * x2 + x1 * x4 + x2 * x4 + 2 * l * m + 3) := by
    subst h4; clear e3; grind -lia
  rw [e3] at this
  grind -lia
theorem r_y3 {y2 y3 k x2 x3 q : F} (f1 : y2 = k * x2 + q) (f2 : y3 = k * x3 + q) : y3 = y2 + k * (x3 - x2) := by grind -lia
theorem r_g {x1 x2 x3 x4 y2 k l : F} (g : (y2 + k * (x3 - x2)) * (y2 + k * (x3 - x2)) - (y2 + l * (x3 - x2)) * (y2 + l * (x3 - x2)) = (x3 - x1) * (x3 - x2) * (x3 - x4)) :
    (x3 - x2) * ((k - l) * ((k + l) * (x3 - x2) + 2 * y2) - (x3 - x1) * (x3 - x4)) = 0 := by grind -lia
theorem r_t1 {x1 x3 x4 k l w : F} (hw : w * (k - l) = x3 - x1) : (k - l) * ((w - l) * (x3 - x4)) = (x3 - x1) * (x3 - x4) - l * (k - l) * (x3 - x4) := by grind -lia
theorem r_t2 {x1 x3 x6 k l w : F} (hw : w * (k - l) = x3 - x1) : (k - l) * ((w - k) * (x6 - x1)) = (x3 - x1) * (x6 - x1) - k * (k - l) * (x6 - x1) := by grind -lia
theorem r_u1 (x2 x3 x4 y2 k l : F) : (k - l) * ((k + l) * (x3 - x2) + 2 * y2) - l * (k - l) * (x3 - x4) = (k - l) * (y2 + k * (x3 - x2) - -(y2 + l * (x4 - x2))) := by grind -lia
theorem r_u2 {x1 x2 x3 y2 k l : F} (t : (k - l) * ((k + l) * (x3 - x2) + 2 * y2) = (x3 - x1) * (x3 - (l * l - x1 - x2))) :
    (x3 - x1) * (k * k - x2 - x3 - x1) - k * (k - l) * (k * k - x2 - x3 - x1) = (k - l) * (-(y2 + k * (k * k - x2 - x3 - x2)) - (y2 + l * (x1 - x2))) := by grind -lia
theorem r_sw {a b c : F} : a - b - c = a - c - b := by grind -lia
theorem r_dif {y1 y2 l m x1 x2 : F} (e1 : y1 = l * x1 + m) (e2 : y2 = l * x2 + m) : y1 - y2 = l * (x1 - x2) := by grind -lia
theorem r_end {s a b x x3 y3 : F} (h : s * (x3 - a) = y3 - b) : s * (a - x) - b = s * (x3 - x) - y3 := by grind -lia
theorem assoc_aff {x1 y1 x2 y2 x3 y3 : F} (h1 : onE x1 y1) (h2 : onE x2 y2) (h3 : onE x3 y3) (hn : ¬ (x1 = x2 ∧ y1 + y2 = 0))
    (h31 : x3 ≠ x1) (h32 : x3 ≠ x2) (h34 : ∀ y, add (.aff x1 y1) (.aff x2 y2) ≠ .aff x3 y) (h61 : ∀ y, add (.aff x2 y2) (.aff x3 y3) ≠ .aff x1 y) :
    add (add (.aff x1 y1) (.aff x2 y2)) (.aff x3 y3) = add (.aff x1 y1) (add (.aff x2 y2) (.aff x3 y3)) := by
  obtain ⟨l, m, x4, e1, e2, e0, e3, e4, e5⟩ := line h1 h2 hn
  obtain ⟨k, q, x6, f1, f2, f0, f3, f4, f5⟩ := line h2 h3 (fun h => h32 h.1.symm)
  rw [e5] at h34 ⊢
  rw [f5] at h61 ⊢
  have h34' : x3 ≠ x4 := fun h => h34 _ (by rw [h])
  have h61' : x1 ≠ x6 := fun h => h61 _ (by rw [h])
  unfold onE at h3
  have g1 : y3 * y3 - (l * x3 + m) * (l * x3 + m) = (x3 - x1) * (x3 - x2) * (x3 - x4) := by rw [h3, e4]; exact r_cube e0 e3
  have g2 := r_y3 f1 f2
  have g3 := r_y3 e2 (rfl : l * x3 + m = l * x3 + m)
  have g4 := r_y3 e2 (rfl : l * x4 + m = l * x4 + m)
  have g5 := r_y3 f1 (rfl : k * x6 + q = k * x6 + q)
  have g6 := r_y3 e2 e1
  have h32' : x3 - x2 ≠ 0 := fun h => h32 (r_sub0 h)
  have hkl : (k - l) * ((k + l) * (x3 - x2) + 2 * y2) = (x3 - x1) * (x3 - x4) := by
    rw [g2, g3] at g1
    rcases mul_eq_zero (r_g g1) with h | h
    · exact absurd h h32'
    · exact r_sub0 h
  have hkl0 : k - l ≠ 0 := by
    intro h
    rw [h, Fin.zero_mul] at hkl
    rcases mul_eq_zero hkl.symm with g | g
    · exact h31 (r_sub0 g)
    · exact h34' (r_sub0 g)
  obtain ⟨w, hw⟩ : ∃ w, w * (k - l) = x3 - x1 := ⟨(x3 - x1) * finv (k - l), r_mul (finv_mul hkl0)⟩
  have hs1 : (w - l) * (x3 - x4) = y3 - -(l * x4 + m) := by
    refine cancel hkl0 ?_
    rw [r_t1 hw, ← hkl, g2, g4, r_u1]
  have hs2 : (w - k) * (x6 - x1) = -(k * x6 + q) - y1 := by
    refine cancel hkl0 ?_
    rw [r_t2 hw, g5, g6]
    rw [e0] at hkl
    rw [f0]
    exact r_u2 hkl
  have hxx := assoc_x x1 x2 x3 l k w x4 x6 hw e0 f0
  have hyy := assoc_y x1 x2 x3 y1 y2 y3 l k w ((w - k) * (w - k) - x1 - x6) hw (r_dif e1 e2) (r_dif f2 f1) (by rw [← hxx, e0])
  rw [add_chord (fun h => h34' h.symm) hs1, add_chord h61' hs2, r_sw, hxx, ← hyy, r_end hs1]
noncomputable def bad (a b : Pt) : List Pt := [.inf, a, neg a, b, neg b, add a b, neg (add a b), add a (neg b), add (neg a) (neg b)]
theorem aff_or {x y z : F} (h1 : onE x y) (h2 : onE x z) : Pt.aff x z = .aff x y ∨ Pt.aff x z = neg (.aff x y) := by
  unfold onE at h1 h2
  have : (z - y) * (z + y) = 0 := by rw [← h2] at h1; grind -lia
  rcases mul_eq_zero this with h | h
  · left; rw [r_sub0 h]
  · right; simp only [neg]; congr 1; grind -lia
theorem assoc_gen {a b s : Pt} (ha : a.on) (hb : b.on) (hs : s.on) (h : s ∉ bad a b) : add (add a b) s = add a (add b s) := by
  simp only [bad, List.mem_cons, List.not_mem_nil, or_false, not_or] at h
  obtain ⟨n0, n1, n2, n3, n4, n5, n6, n7, n8⟩ := h
  cases a with
  | inf => simp only [inf_add]
  | aff x1 y1 =>
    cases b with
    | inf => simp only [inf_add, add_inf]
    | aff x2 y2 =>
      cases s with
      | inf => exact absurd rfl n0
      | aff x3 y3 =>
        have hab := on_add ha hb
        have hbs := on_add hb hs
        by_cases hn : x1 = x2 ∧ y1 + y2 = 0
        · have e1 : add (.aff x1 y1) (.aff x2 y2) = .inf := by simp only [add, if_pos hn]
          obtain ⟨rfl, hy⟩ := hn
          have e2 : Pt.aff x1 y2 = neg (.aff x1 y1) := by simp only [neg]; congr 1; grind -lia
          have hc := add_back hs hb
          rw [e2, neg_neg, ← e2] at hc
          rw [e1, inf_add, add_comm _ _ ha hbs, add_comm _ _ hb hs, hc]
        · refine assoc_aff ha hb hs hn ?_ ?_ ?_ ?_
          · rintro rfl
            rcases aff_or ha hs with e | e
            · exact n1 e
            · exact n2 e
          · rintro rfl
            rcases aff_or hb hs with e | e
            · exact n3 e
            · exact n4 e
          · intro y e
            rw [e] at hab n5 n6
            rcases aff_or hab hs with e | e
            · exact n5 e
            · exact n6 e
          · intro y e
            rw [e] at hbs
            have hsb := add_back hs hb
            rw [add_comm _ _ hs hb, e] at hsb
            rcases aff_or ha hbs with g | g
            · rw [g] at hsb; exact n7 hsb.symm
            · rw [g] at hsb; exact n8 hsb.symm
theorem apart {α : Type} [DecidableEq α] : ∀ (l m : List α), l.Nodup → m.length < l.length → ∃ x, x ∈ l ∧ x ∉ m := by
  intro l m hn hl
  apply Classical.byContradiction
  intro hc
  have hsub : l ⊆ m := by
    intro x hx
    apply Classical.byContradiction
    intro hm
    exact hc ⟨x, hx, hm⟩
  have key : ∀ (l m : List α), l.Nodup → l ⊆ m → l.length ≤ m.length := by
    intro l
    induction l with
    | nil => intro m _ _; simp
    | cons a l ih =>
      intro m hn hs
      rw [List.nodup_cons] at hn
      have ha : a ∈ m := hs (by simp)
      have h1 := ih (m.erase a) hn.2 (by
        intro x hx
        have hne : x ≠ a := by rintro rfl; exact hn.1 hx
        exact (List.mem_erase_of_ne hne).2 (hs (by simp [hx])))
      have h2 := List.length_erase_of_mem ha
      have h3 := List.length_pos_of_mem ha
      simp; omega
  have := key l m hn hsub
  omega
def some : List (F × F) := [(0, 46263761741508638697010950048709651021688891777877937875096931459006746039284), (0, 69528327468847610065686496900697922508397251637412376320436699849860351814667), (5, 31468013646237722594854082025316614106172411895747863909393730389177298123724), (5, 84324075564118526167843364924090959423913731519542450286139900919689799730227), (6, 24739918328848417526480033809572464882617473122143770809273908485596236620747), (6, 91052170881507831236217413139835108647468670293146543386259722823270861233204), (8, 82784132184742902406611976374283817475915538652053173371854007222633983132083), (8, 33007957025613346356085470575123756054170604763237140823679624086233114721868), (9, 64265364456294082747112527522981594904960689488638802860996194286474266915479), (9, 51526724754062166015584919426425978625125453926651511334537437022392830938472), (12, 66934920894945216687164320457392073305141033253131913951695301233381400331143), (12, 48857168315411032075533126492015500224945110162158400243838330075485697522808), (13, 53404144414778303508799263379260966483386805595332806637100379275867514529459), (13, 62387944795577945253898183570146607046699337819957507558433252032999583324492), (17, 43783450011834442217334481138474159509558335318535455861762733939497581045049), (17, 72008639198521806545362965810933414020527808096754858333770897369369516808902), (23, 37114329264221932393644918276665526732952696771951479144529462133154348400658), (23, 78677759946134316369052528672742046797133446643338835051004169175712749453293), (24, 26321841318174713433978379012486154109266602617658289202947244817969700794459), (24, 89470247892181535328719067936921419420819540797632024992586386490897397059492), (25, 101842049421071908540038086255668332854032952517920383898783206756845809129814), (25, 13950039789284340222659360693739240676053190897369930296750424552021288724137), (26, 24424587111845263483165880188626713615059877529618610383051097479852596134318), (26, 91367502098510985279531566760780859915026265885671703812482533829014501719633), (29, 18773105118284221259526141573442436911129172592710552834788399784636057579277), (29, 97018984092072027503171305375965136618956970822579761360745231524231040274674), (31, 51772576644680527507497169225388455048738671303331750808704780383361075168277), (31, 64019512565675721255200277724019118481347472111958563386828850925506022685674), (34, 59791363792270185952812307835825910484107935385933905162606848621164130833239), (34, 56000725418086062809885139113581663045978208029356409032926782687702967020712), (35, 40295540095254214384559919770004980525704531316622728644383555421946762207439), (35, 75496549115102034378137527179402593004381612098667585551150075886920335646512), (37, 27019068728911808621164184721360182012211537658607486295926391355263536972569), (37, 88773020481444440141533262228047391517874605756682827899607239953603560881382), (39, 111580631210431117360875745014289346788358530860711711829739028359136821314236), (39, 4211457999925131401821701935118226741727612554578602365794602949730276539715), (44, 70441152804929838592241369407579099569779936506845887129699483765394726397243), (44, 45350936405426410170456077541828473960306206908444427065834147543472371456708), (45, 80898553851609202973000225381347700523925001632437640323176976999290509256427), (45, 34893535358747045789697221568059873006161141782852673872356654309576588597524)]
theorem some_on : ∀ z ∈ some, onE z.1 z.2 := by
  have : (some.all fun z => decide (z.2 * z.2 = z.1 * z.1 * z.1 - 3 * z.1 + cb)) = true := by decide +kernel
  intro z hz
  have h := List.all_eq_true.1 this z hz
  simp only [decide_eq_true_eq] at h
  exact h
theorem some_nodup : some.Nodup := by decide +kernel
def somePts : List Pt := some.map fun z => .aff z.1 z.2
theorem somePts_on : ∀ p ∈ somePts, p.on := by
  intro p hp
  obtain ⟨z, hz, rfl⟩ := List.mem_map.1 hp
  exact some_on z hz
theorem somePts_nodup : somePts.Nodup := by
  refine nodup_map _ _ some_nodup ?_
  rintro ⟨a, b⟩ _ ⟨c, d⟩ _ h
  injection h with h1 h2
  simp only at h1 h2
  rw [h1, h2]
theorem add_assoc {p q r : Pt} (hp : p.on) (hq : q.on) (hr : r.on) : add (add p q) r = add p (add q r) := by
  obtain ⟨s, hs, hn⟩ := apart somePts (bad (add p q) r ++ (bad p q).map (fun x => add x (neg r)) ++ bad q r ++ bad p (add q r)) somePts_nodup (by
    have : somePts.length = 40 := by decide +kernel
    rw [this]; simp [bad])
  have hon := somePts_on s hs
  simp only [List.mem_append, not_or] at hn
  obtain ⟨⟨⟨n1, n2⟩, n3⟩, n4⟩ := hn
  have n2' : add r s ∉ bad p q := by
    intro h
    refine n2 (List.mem_map.2 ⟨_, h, ?_⟩)
    show add (add r s) (neg r) = s
    rw [add_comm r s hr hon]; exact add_back hon hr
  have hpq := on_add hp hq
  have hqr := on_add hq hr
  refine add_cancel (on_add hpq hr) (on_add hp hqr) hon ?_
  rw [assoc_gen hpq hr hon n1, assoc_gen hp hq (on_add hr hon) n2', ← assoc_gen hq hr hon n3, ← assoc_gen hp hqr hon n4]
end TollEc
end
section
namespace TollEc
open TollNt
structure Jp where
  x : F
  y : F
  z : F
deriving DecidableEq
def Jp.inf : Jp := ⟨0, 0, 0⟩
noncomputable def Jp.rep (j : Jp) : Pt :=
  if j.z = 0 then .inf else .aff (j.x * (finv j.z * finv j.z)) (j.y * (finv j.z * (finv j.z * finv j.z)))
theorem rep_inf {j : Jp} (h : j.z = 0) : j.rep = .inf := if_pos h
theorem rep_of {j : Jp} {i : F} (h : j.z * i = 1) : j.rep = .aff (j.x * (i * i)) (j.y * (i * (i * i))) := by
  have h0 : j.z ≠ 0 := by intro h0; rw [h0, Fin.zero_mul] at h; exact absurd h (by decide +kernel)
  unfold Jp.rep
  rw [if_neg h0, finv_eq h]
def jdouble (p : Jp) : Jp :=
  if p.z = 0 ∨ p.y = 0 then .inf
  else
    let zz := p.z * p.z
    let yy := p.y * p.y
    let b := p.x * yy
    let m := (p.x - zz) * (p.x + zz)
    let a := m + m + m
    let b2 := b + b
    let four := b2 + b2
    let x := a * a - (four + four)
    let y2 := yy * yy + yy * yy
    let y4 := y2 + y2
    ⟨x, a * (four - x) - (y4 + y4), (p.y + p.y) * p.z⟩
def jadd (p q : Jp) : Jp :=
  if p.z = 0 then q
  else if q.z = 0 then p
  else
    let pp := p.z * p.z
    let qq := q.z * q.z
    let u := p.x * qq
    let v := q.x * pp
    let s := p.y * (q.z * qq)
    let t := q.y * (p.z * pp)
    let h := v - u
    let r := t - s
    if h = 0 then (if r = 0 then jdouble p else .inf)
    else
      let hh := h * h
      let hhh := h * hh
      let w := u * hh
      let x := r * r - hhh - (w + w)
      ⟨x, r * (w - x) - s * hhh, (p.z * q.z) * h⟩
theorem mul_ne_zero {a b : F} (ha : a ≠ 0) (hb : b ≠ 0) : a * b ≠ 0 := fun h => (mul_eq_zero h).elim ha hb
theorem one_ne : (1 : F) ≠ 0 := by decide +kernel
theorem ne_of_inv {a b : F} (h : a * b = 1) : b ≠ 0 := by rintro rfl; rw [Fin.mul_zero] at h; exact one_ne h.symm
theorem jdouble_rep (p : Jp) : (jdouble p).rep = add p.rep p.rep := by
  obtain ⟨x, y, z⟩ := p
  by_cases hz : z = 0
  · subst hz
    simp only [jdouble, true_or, if_true]
    rw [rep_inf (rfl : (Jp.inf).z = 0), rep_inf (rfl : (⟨x, y, 0⟩ : Jp).z = 0)]; rfl
  obtain ⟨i, hi⟩ := inv_ex z hz
  rw [rep_of (j := ⟨x, y, z⟩) hi]
  simp only
  by_cases hy : y = 0
  · subst hy
    have e : (0 : F) * (i * (i * i)) + 0 * (i * (i * i)) = 0 := by grind -lia
    simp only [jdouble, or_true, if_true, add, e, and_self]
    rw [rep_inf (rfl : (Jp.inf).z = 0)]
  · have h2y : y + y ≠ 0 := by
      intro h
      have : 2 * y = 0 := by grind -lia
      exact (mul_eq_zero this).elim two_ne hy
    obtain ⟨k, hk⟩ := inv_ex _ h2y
    have hi0 := ne_of_inv hi
    have hY : y * (i * (i * i)) + y * (i * (i * i)) ≠ 0 := by
      have e : y * (i * (i * i)) + y * (i * (i * i)) = (y + y) * (i * (i * i)) := by grind -lia
      rw [e]; exact mul_ne_zero h2y (mul_ne_zero hi0 (mul_ne_zero hi0 hi0))
    have hz' : ((y + y) * z) * (i * k) = 1 := by grind -lia
    have hn : ¬ (z = 0 ∨ y = 0) := fun h => h.elim hz hy
    simp only [jdouble, if_neg hn]
    rw [rep_of (i := i * k) hz', add_tan (s := 3 * ((x - z * z) * (x + z * z)) * (i * k)) hY (by grind -lia)]
    congr 1
    · grind -lia
    · grind -lia
theorem jadd_rep (p q : Jp) (hp : p.rep.on) (hq : q.rep.on) : (jadd p q).rep = add p.rep q.rep := by
  by_cases hz : p.z = 0
  · simp only [jadd, if_pos hz, rep_inf hz, inf_add]
  by_cases hw : q.z = 0
  · simp only [jadd, if_neg hz, if_pos hw, rep_inf hw, add_inf]
  have hd := jdouble_rep p
  obtain ⟨i, hi⟩ := inv_ex _ hz
  obtain ⟨j, hj⟩ := inv_ex _ hw
  have hi0 := ne_of_inv hi
  have hj0 := ne_of_inv hj
  simp only [jadd, if_neg hz, if_neg hw]
  by_cases hh : q.x * (p.z * p.z) - p.x * (q.z * q.z) = 0
  · rw [if_pos hh]
    by_cases hr : q.y * (p.z * (p.z * p.z)) - p.y * (q.z * (q.z * q.z)) = 0
    · rw [if_pos hr, hd]
      congr 1
      rw [rep_of hi, rep_of hj]
      congr 1
      · clear hr hd hp hq hi0 hj0; grind -lia
      · clear hh hd hp hq hi0 hj0; grind -lia
    · rw [if_neg hr, rep_inf (rfl : (Jp.inf).z = 0)]
      rw [rep_of hi, rep_of hj] at *
      have hX : p.x * (i * i) = q.x * (j * j) := by clear hr hd hp hq hi0 hj0; grind -lia
      simp only [Pt.on, onE] at hp hq
      rw [← hX] at hq
      have h1 : (q.y * (j * (j * j)) - p.y * (i * (i * i))) * (p.y * (i * (i * i)) + q.y * (j * (j * j))) = 0 := by
        have := hp.trans hq.symm
        clear hh hr hd hp hq hi0 hj0 hi hj hX
        grind -lia
      have hs : p.y * (i * (i * i)) + q.y * (j * (j * j)) = 0 := by
        rcases mul_eq_zero h1 with h | h
        · exfalso; apply hr
          clear h1 hh hr hd hp hq hi0 hj0 hX
          grind -lia
        · exact h
      simp only [add, hX, hs, and_self, if_true]
  · rw [if_neg hh]
    obtain ⟨k, hk⟩ := inv_ex _ hh
    have hz' : (p.z * q.z * (q.x * (p.z * p.z) - p.x * (q.z * q.z))) * (i * j * k) = 1 := by
      generalize q.x * (p.z * p.z) - p.x * (q.z * q.z) = h at hk
      clear hd hp hq hi0 hj0
      grind -lia
    have hne : p.x * (i * i) ≠ q.x * (j * j) := by
      intro h; apply hh
      clear hd hp hq hi0 hj0 hk hz' hh
      grind -lia
    rw [rep_of (i := i * j * k) hz', rep_of hi, rep_of hj]
    clear hd hp hq hi0 hj0 hh hz hw
    generalize p.x = x1 at *
    generalize p.y = y1 at *
    generalize p.z = z1 at *
    generalize q.x = x2 at *
    generalize q.y = y2 at *
    generalize q.z = z2 at *
    obtain ⟨X1, rfl⟩ : ∃ X, x1 = X * (z1 * z1) := ⟨x1 * (i * i), by grind -lia⟩
    obtain ⟨Y1, rfl⟩ : ∃ X, y1 = X * (z1 * (z1 * z1)) := ⟨y1 * (i * (i * i)), by grind -lia⟩
    obtain ⟨X2, rfl⟩ : ∃ X, x2 = X * (z2 * z2) := ⟨x2 * (j * j), by grind -lia⟩
    obtain ⟨Y2, rfl⟩ : ∃ X, y2 = X * (z2 * (z2 * z2)) := ⟨y2 * (j * (j * j)), by grind -lia⟩
    have c1 : ∀ X z i : F, z * i = 1 → X * (z * z) * (i * i) = X := by intro X z i h; grind -lia
    have c2 : ∀ X z i : F, z * i = 1 → X * (z * (z * z)) * (i * (i * i)) = X := by intro X z i h; grind -lia
    rw [c1 _ _ _ hi, c1 _ _ _ hj] at hne ⊢
    rw [c2 _ _ _ hi, c2 _ _ _ hj]
    have hd : X2 * (z2 * z2) * (z1 * z1) - X1 * (z1 * z1) * (z2 * z2) = (X2 - X1) * (z1 * z1 * (z2 * z2)) := by grind -lia
    rw [hd] at hk ⊢
    have hs : (Y2 * (z2 * (z2 * z2)) * (z1 * (z1 * z1)) - Y1 * (z1 * (z1 * z1)) * (z2 * (z2 * z2))) * (i * j * k) * (X2 - X1) = Y2 - Y1 := by
      clear hd hz' hne; grind -lia
    rw [add_chord hne hs]
    have hD : (X2 - X1) * (z1 * z1 * (z2 * z2)) * k = 1 := hk
    clear hd hz' hne hs hk
    congr 1
    · grind -lia
    · grind -lia
end TollEc
end
section
namespace TollEc
open TollNt
noncomputable def smul : Nat → Pt → Pt
  | 0, _ => .inf
  | k + 1, p => add (smul k p) p
theorem smul_on {p : Pt} (hp : p.on) : ∀ k, (smul k p).on
  | 0 => True.intro
  | k + 1 => on_add (smul_on hp k) hp
theorem smul_inf : ∀ k, smul k .inf = .inf
  | 0 => rfl
  | k + 1 => by rw [smul, smul_inf k]; rfl
theorem smul_one (p : Pt) : smul 1 p = p := by simp only [smul, inf_add]
theorem smul_add {p : Pt} (hp : p.on) (a : Nat) : ∀ b, smul (a + b) p = add (smul a p) (smul b p)
  | 0 => by rw [Nat.add_zero]; exact (add_inf _).symm
  | b + 1 => by
    rw [← Nat.add_assoc, smul, smul_add hp a b, smul, add_assoc (smul_on hp a) (smul_on hp b) hp]
theorem smul_mul {p : Pt} (hp : p.on) (a : Nat) : ∀ b, smul (a * b) p = smul b (smul a p)
  | 0 => rfl
  | b + 1 => by rw [Nat.mul_succ, smul_add hp, smul_mul hp a b, smul]
def ladder (n : Nat) (t : Jp) : Nat → Jp
  | 0 => .inf
  | i + 1 => let r := jdouble (ladder n t i); if n / 2 ^ (255 - i) % 2 = 1 then jadd r t else r
theorem ladder_rep (n : Nat) (t : Jp) (ht : t.rep.on) : ∀ i, i ≤ 256 → (ladder n t i).rep = smul (n / 2 ^ (256 - i) % 2 ^ i) t.rep := by
  intro i
  induction i with
  | zero => intro _; simp only [ladder, Nat.pow_zero, Nat.mod_one, smul]; exact rep_inf rfl
  | succ i ih =>
    intro hi
    have h1 := ih (by omega)
    have hd : (jdouble (ladder n t i)).rep = smul (2 * (n / 2 ^ (256 - i) % 2 ^ i)) t.rep := by
      rw [jdouble_rep, h1, Nat.two_mul, smul_add ht]
    have e1 : n / 2 ^ (256 - i) = n / 2 ^ (255 - i) / 2 := by
      rw [show 256 - i = (255 - i) + 1 by omega, Nat.pow_succ, Nat.div_div_eq_div_mul]
    have e2 : 256 - (i + 1) = 255 - i := by omega
    have e3 : ∀ m : Nat, m % 2 ^ (i + 1) = 2 * (m / 2 % 2 ^ i) + m % 2 := by
      intro m
      rw [Nat.pow_succ, Nat.mul_comm, Nat.mod_mul]; omega
    have hdon : (jdouble (ladder n t i)).rep.on := by rw [hd]; exact smul_on ht _
    rw [e2, e3, ← e1]
    simp only [ladder]
    split
    · rename_i hb
      rw [jadd_rep _ _ hdon ht, hd, hb]
      rfl
    · rename_i hb
      rw [hd]
      have : n / 2 ^ (255 - i) % 2 = 0 := by omega
      rw [this, Nat.add_zero]
theorem ladder_all (n : Nat) (hn : n < 2 ^ 256) (t : Jp) (ht : t.rep.on) : (ladder n t 256).rep = smul n t.rep := by
  rw [ladder_rep n t ht 256 (by omega)]
  congr 1
  rw [Nat.sub_self, Nat.pow_zero, Nat.div_one]; exact Nat.mod_eq_of_lt hn
def bx : F := 48439561293906451759052585252797914202762949526041747995844080717082404635286
def bY : F := 36134250956749795798585127919587881956611106672985015071877198253568414405109
def bj : Jp := ⟨bx, bY, 1⟩
def base : Pt := .aff bx bY
abbrev nn : Nat := 115792089210356248762697446949407573529996955224135760342422259061068512044369
theorem base_on : base.on := by
  show bY * bY = bx * bx * bx - 3 * bx + cb
  decide +kernel
theorem rep_one (x y : F) : (⟨x, y, 1⟩ : Jp).rep = .aff x y := by
  rw [rep_of (i := 1) (show (1 : F) * 1 = 1 by decide +kernel)]
  congr 1
  · show x * (1 * 1) = x; grind -lia
  · show y * (1 * (1 * 1)) = y; grind -lia
theorem bj_rep : bj.rep = base := rep_one _ _
theorem order_z : (ladder nn bj 256).z = 0 := by decide +kernel
theorem order_base : smul nn base = .inf := by
  have := ladder_all nn (by decide) bj (by rw [bj_rep]; exact base_on)
  rw [bj_rep, rep_inf order_z] at this
  exact this.symm
theorem smul_eq_inf {k : Nat} (h : smul k base = .inf) : nn ∣ k := by
  have hp : Prm nn := prm_115792089210356248762697446949407573529996955224135760342422259061068512044369
  apply Classical.byContradiction
  intro hc
  have hcop := hp.coprime hc
  have key : ∀ a b : Nat, smul a base = .inf → smul b base = .inf → smul (Nat.gcd a b) base = .inf := by
    intro a b
    induction a, b using Nat.gcd.induction with
    | H0 b => intro _ h; simpa using h
    | H1 a b ha ih =>
      intro h1 h2
      rw [Nat.gcd_rec]
      refine ih ?_ h1
      have e := Nat.div_add_mod b a
      rw [← e, smul_add base_on, smul_mul base_on, h1, smul_inf, inf_add] at h2
      exact h2
  have := key k nn h order_base
  rw [hcop, smul_one] at this
  exact absurd this (by simp [base])
end TollEc
end
section
namespace Go.Proofs.YtafbhakmkbehiaaDoor
open Go.RowKit Go.Toll TollMont
open TollEc (F pp cb Jp Pt)
def lv (x : F) (i : Nat) : Nat := lim x.val i
def NF (x : F) : Value := .agg #[.int .u64 (lv x 0 : Nat), .int .u64 (lv x 1 : Nat), .int .u64 (lv x 2 : Nat), .int .u64 (lv x 3 : Nat)]
def TF (j : Jp) : Value := .agg #[.int .u64 (lv j.x 0 : Nat), .int .u64 (lv j.x 1 : Nat), .int .u64 (lv j.x 2 : Nat), .int .u64 (lv j.x 3 : Nat), .int .u64 (lv j.y 0 : Nat), .int .u64 (lv j.y 1 : Nat), .int .u64 (lv j.y 2 : Nat), .int .u64 (lv j.y 3 : Nat), .int .u64 (lv j.z 0 : Nat), .int .u64 (lv j.z 1 : Nat), .int .u64 (lv j.z 2 : Nat), .int .u64 (lv j.z 3 : Nat)]
def byt (n i : Nat) : Nat := lim n (3 - i / 8) / 2 ^ (56 - 8 * (i % 8)) % 256
def B32 (n : Nat) : Value := .agg #[.int .u8 (byt n 0 : Nat), .int .u8 (byt n 1 : Nat), .int .u8 (byt n 2 : Nat), .int .u8 (byt n 3 : Nat), .int .u8 (byt n 4 : Nat), .int .u8 (byt n 5 : Nat), .int .u8 (byt n 6 : Nat), .int .u8 (byt n 7 : Nat), .int .u8 (byt n 8 : Nat), .int .u8 (byt n 9 : Nat), .int .u8 (byt n 10 : Nat), .int .u8 (byt n 11 : Nat), .int .u8 (byt n 12 : Nat), .int .u8 (byt n 13 : Nat), .int .u8 (byt n 14 : Nat), .int .u8 (byt n 15 : Nat), .int .u8 (byt n 16 : Nat), .int .u8 (byt n 17 : Nat), .int .u8 (byt n 18 : Nat), .int .u8 (byt n 19 : Nat), .int .u8 (byt n 20 : Nat), .int .u8 (byt n 21 : Nat), .int .u8 (byt n 22 : Nat), .int .u8 (byt n 23 : Nat), .int .u8 (byt n 24 : Nat), .int .u8 (byt n 25 : Nat), .int .u8 (byt n 26 : Nat), .int .u8 (byt n 27 : Nat), .int .u8 (byt n 28 : Nat), .int .u8 (byt n 29 : Nat), .int .u8 (byt n 30 : Nat), .int .u8 (byt n 31 : Nat)]
def PT (x y : Nat) : Value := .agg #[.int .u8 (byt x 0 : Nat), .int .u8 (byt x 1 : Nat), .int .u8 (byt x 2 : Nat), .int .u8 (byt x 3 : Nat), .int .u8 (byt x 4 : Nat), .int .u8 (byt x 5 : Nat), .int .u8 (byt x 6 : Nat), .int .u8 (byt x 7 : Nat), .int .u8 (byt x 8 : Nat), .int .u8 (byt x 9 : Nat), .int .u8 (byt x 10 : Nat), .int .u8 (byt x 11 : Nat), .int .u8 (byt x 12 : Nat), .int .u8 (byt x 13 : Nat), .int .u8 (byt x 14 : Nat), .int .u8 (byt x 15 : Nat), .int .u8 (byt x 16 : Nat), .int .u8 (byt x 17 : Nat), .int .u8 (byt x 18 : Nat), .int .u8 (byt x 19 : Nat), .int .u8 (byt x 20 : Nat), .int .u8 (byt x 21 : Nat), .int .u8 (byt x 22 : Nat), .int .u8 (byt x 23 : Nat), .int .u8 (byt x 24 : Nat), .int .u8 (byt x 25 : Nat), .int .u8 (byt x 26 : Nat), .int .u8 (byt x 27 : Nat), .int .u8 (byt x 28 : Nat), .int .u8 (byt x 29 : Nat), .int .u8 (byt x 30 : Nat), .int .u8 (byt x 31 : Nat), .int .u8 (byt y 0 : Nat), .int .u8 (byt y 1 : Nat), .int .u8 (byt y 2 : Nat), .int .u8 (byt y 3 : Nat), .int .u8 (byt y 4 : Nat), .int .u8 (byt y 5 : Nat), .int .u8 (byt y 6 : Nat), .int .u8 (byt y 7 : Nat), .int .u8 (byt y 8 : Nat), .int .u8 (byt y 9 : Nat), .int .u8 (byt y 10 : Nat), .int .u8 (byt y 11 : Nat), .int .u8 (byt y 12 : Nat), .int .u8 (byt y 13 : Nat), .int .u8 (byt y 14 : Nat), .int .u8 (byt y 15 : Nat), .int .u8 (byt y 16 : Nat), .int .u8 (byt y 17 : Nat), .int .u8 (byt y 18 : Nat), .int .u8 (byt y 19 : Nat), .int .u8 (byt y 20 : Nat), .int .u8 (byt y 21 : Nat), .int .u8 (byt y 22 : Nat), .int .u8 (byt y 23 : Nat), .int .u8 (byt y 24 : Nat), .int .u8 (byt y 25 : Nat), .int .u8 (byt y 26 : Nat), .int .u8 (byt y 27 : Nat), .int .u8 (byt y 28 : Nat), .int .u8 (byt y 29 : Nat), .int .u8 (byt y 30 : Nat), .int .u8 (byt y 31 : Nat)]
def FV (b : Nat) : Value := .agg #[.pointer (some ⟨b, 0, none⟩)]
theorem nNF (x : F) : Value.cells (NF x) = #[.int .u64 (lv x 0 : Nat), .int .u64 (lv x 1 : Nat), .int .u64 (lv x 2 : Nat), .int .u64 (lv x 3 : Nat)] := rfl
theorem nTF (j : Jp) : Value.cells (TF j) = #[.int .u64 (lv j.x 0 : Nat), .int .u64 (lv j.x 1 : Nat), .int .u64 (lv j.x 2 : Nat), .int .u64 (lv j.x 3 : Nat), .int .u64 (lv j.y 0 : Nat), .int .u64 (lv j.y 1 : Nat), .int .u64 (lv j.y 2 : Nat), .int .u64 (lv j.y 3 : Nat), .int .u64 (lv j.z 0 : Nat), .int .u64 (lv j.z 1 : Nat), .int .u64 (lv j.z 2 : Nat), .int .u64 (lv j.z 3 : Nat)] := rfl
theorem nB32 (n : Nat) : Value.cells (B32 n) = #[.int .u8 (byt n 0 : Nat), .int .u8 (byt n 1 : Nat), .int .u8 (byt n 2 : Nat), .int .u8 (byt n 3 : Nat), .int .u8 (byt n 4 : Nat), .int .u8 (byt n 5 : Nat), .int .u8 (byt n 6 : Nat), .int .u8 (byt n 7 : Nat), .int .u8 (byt n 8 : Nat), .int .u8 (byt n 9 : Nat), .int .u8 (byt n 10 : Nat), .int .u8 (byt n 11 : Nat), .int .u8 (byt n 12 : Nat), .int .u8 (byt n 13 : Nat), .int .u8 (byt n 14 : Nat), .int .u8 (byt n 15 : Nat), .int .u8 (byt n 16 : Nat), .int .u8 (byt n 17 : Nat), .int .u8 (byt n 18 : Nat), .int .u8 (byt n 19 : Nat), .int .u8 (byt n 20 : Nat), .int .u8 (byt n 21 : Nat), .int .u8 (byt n 22 : Nat), .int .u8 (byt n 23 : Nat), .int .u8 (byt n 24 : Nat), .int .u8 (byt n 25 : Nat), .int .u8 (byt n 26 : Nat), .int .u8 (byt n 27 : Nat), .int .u8 (byt n 28 : Nat), .int .u8 (byt n 29 : Nat), .int .u8 (byt n 30 : Nat), .int .u8 (byt n 31 : Nat)] := rfl
theorem nPT (x y : Nat) : Value.cells (PT x y) = #[.int .u8 (byt x 0 : Nat), .int .u8 (byt x 1 : Nat), .int .u8 (byt x 2 : Nat), .int .u8 (byt x 3 : Nat), .int .u8 (byt x 4 : Nat), .int .u8 (byt x 5 : Nat), .int .u8 (byt x 6 : Nat), .int .u8 (byt x 7 : Nat), .int .u8 (byt x 8 : Nat), .int .u8 (byt x 9 : Nat), .int .u8 (byt x 10 : Nat), .int .u8 (byt x 11 : Nat), .int .u8 (byt x 12 : Nat), .int .u8 (byt x 13 : Nat), .int .u8 (byt x 14 : Nat), .int .u8 (byt x 15 : Nat), .int .u8 (byt x 16 : Nat), .int .u8 (byt x 17 : Nat), .int .u8 (byt x 18 : Nat), .int .u8 (byt x 19 : Nat), .int .u8 (byt x 20 : Nat), .int .u8 (byt x 21 : Nat), .int .u8 (byt x 22 : Nat), .int .u8 (byt x 23 : Nat), .int .u8 (byt x 24 : Nat), .int .u8 (byt x 25 : Nat), .int .u8 (byt x 26 : Nat), .int .u8 (byt x 27 : Nat), .int .u8 (byt x 28 : Nat), .int .u8 (byt x 29 : Nat), .int .u8 (byt x 30 : Nat), .int .u8 (byt x 31 : Nat), .int .u8 (byt y 0 : Nat), .int .u8 (byt y 1 : Nat), .int .u8 (byt y 2 : Nat), .int .u8 (byt y 3 : Nat), .int .u8 (byt y 4 : Nat), .int .u8 (byt y 5 : Nat), .int .u8 (byt y 6 : Nat), .int .u8 (byt y 7 : Nat), .int .u8 (byt y 8 : Nat), .int .u8 (byt y 9 : Nat), .int .u8 (byt y 10 : Nat), .int .u8 (byt y 11 : Nat), .int .u8 (byt y 12 : Nat), .int .u8 (byt y 13 : Nat), .int .u8 (byt y 14 : Nat), .int .u8 (byt y 15 : Nat), .int .u8 (byt y 16 : Nat), .int .u8 (byt y 17 : Nat), .int .u8 (byt y 18 : Nat), .int .u8 (byt y 19 : Nat), .int .u8 (byt y 20 : Nat), .int .u8 (byt y 21 : Nat), .int .u8 (byt y 22 : Nat), .int .u8 (byt y 23 : Nat), .int .u8 (byt y 24 : Nat), .int .u8 (byt y 25 : Nat), .int .u8 (byt y 26 : Nat), .int .u8 (byt y 27 : Nat), .int .u8 (byt y 28 : Nat), .int .u8 (byt y 29 : Nat), .int .u8 (byt y 30 : Nat), .int .u8 (byt y 31 : Nat)] := rfl
theorem nFV (b : Nat) : Value.cells (FV b) = #[.pointer (some ⟨b, 0, none⟩)] := rfl
theorem nN (n : Nat) : Value.cells (N n) = #[.int .u64 (lim n 0 : Nat), .int .u64 (lim n 1 : Nat), .int .u64 (lim n 2 : Nat), .int .u64 (lim n 3 : Nat)] := rfl
theorem nm2 : type_of% nm ∧ type_of% nNF ∧ type_of% nTF ∧ type_of% nB32 ∧ type_of% nPT ∧ type_of% nFV ∧ type_of% nN := ⟨nm, nNF, nTF, nB32, nPT, nFV, nN⟩
theorem mdp : Md pp := ⟨by decide, by decide, by decide⟩
theorem val_lt (x : F) : x.val < R := Nat.lt_trans x.isLt (by decide)
variable {b : Nat}
theorem mulF (x y : F) (w : World) (ha : At w b pp) : Calls Tryd.prog 21 #[ptr b, NF x, NF y] w fun e w' => e = .returned (NF (x * y)) ∧ Gw w w' :=
  mul_ok mdp (val_lt x) (val_lt y) w ha
theorem addF (x y : F) (w : World) (ha : At w b pp) : Calls Tryd.prog 43 #[ptr b, NF x, NF y] w fun e w' => e = .returned (NF (x + y)) ∧ Gw w w' :=
  madd_ok mdp (val_lt x) (val_lt y) w ha
theorem sub_val (x y : F) : (x - y).val = subm pp x.val y.val := by
  have hx := x.isLt; have hy := y.isLt
  rw [Fin.sub_def]
  unfold subm
  rw [Nat.mod_eq_of_lt hx, Nat.mod_eq_of_lt hy]
  show (pp - y.val + x.val) % pp = _
  congr 1; omega
theorem subF (x y : F) (w : World) (ha : At w b pp) : Calls Tryd.prog 44 #[ptr b, NF x, NF y] w fun e w' => e = .returned (NF (x - y)) ∧ Gw w w' := by
  have := msub_ok mdp (val_lt x) (val_lt y) w ha
  rw [← sub_val] at this
  exact this
theorem lessP (n : Nat) (hn : n < R) (w : World) : Calls Tryd.prog 42 #[N n, N pp] w fun e w' => e = .returned (.bool (decide (n < pp))) ∧ Gw w w' :=
  less_ok n pp hn (by decide) w
theorem zeq (x : F) (p q : Operand) (w : World) : (do eqGuard .eql 50 p q (NF x) (.agg #[.int .u64 0, .int .u64 0, .int .u64 0, .int .u64 0]); binOp .eql 50 (NF x) (.agg #[.int .u64 0, .int .u64 0, .int .u64 0, .int .u64 0]) : Sem Value).run Tryd.prog w = .ok (.bool (decide (x = 0))) w := by
  have := eql_num 50 (.inl rfl) (lv x 0) (lv x 1) (lv x 2) (lv x 3) 0 0 0 0 p q w
  have e : decide (lv x 0 = 0 ∧ lv x 1 = 0 ∧ lv x 2 = 0 ∧ lv x 3 = 0) = decide (x = 0) := decide_eq_decide.2 ((is_zero (val_lt x)).trans ⟨fun h => Fin.ext h, fun h => by rw [h]; rfl⟩)
  rw [e] at this
  exact this
theorem zeq_t {x : F} (h : x = 0) (p q : Operand) (w : World) : (do eqGuard .eql 50 p q (NF x) (.agg #[.int .u64 0, .int .u64 0, .int .u64 0, .int .u64 0]); binOp .eql 50 (NF x) (.agg #[.int .u64 0, .int .u64 0, .int .u64 0, .int .u64 0]) : Sem Value).run Tryd.prog w = .ok (.bool true) w := by
  have := zeq x p q w; rw [decide_eq_true h] at this; exact this
theorem zeq_f {x : F} (h : x ≠ 0) (p q : Operand) (w : World) : (do eqGuard .eql 50 p q (NF x) (.agg #[.int .u64 0, .int .u64 0, .int .u64 0, .int .u64 0]); binOp .eql 50 (NF x) (.agg #[.int .u64 0, .int .u64 0, .int .u64 0, .int .u64 0]) : Sem Value).run Tryd.prog w = .ok (.bool false) w := by
  have := zeq x p q w; rw [decide_eq_false h] at this; exact this
theorem eqF (x y : F) (p q : Operand) (w : World) : (do eqGuard .eql 50 p q (NF x) (NF y); binOp .eql 50 (NF x) (NF y) : Sem Value).run Tryd.prog w = .ok (.bool (decide (x = y))) w := by
  have := eql_num 50 (.inl rfl) (lv x 0) (lv x 1) (lv x 2) (lv x 3) (lv y 0) (lv y 1) (lv y 2) (lv y 3) p q w
  have e : decide (lv x 0 = lv y 0 ∧ lv x 1 = lv y 1 ∧ lv x 2 = lv y 2 ∧ lv x 3 = lv y 3) = decide (x = y) := decide_eq_decide.2 ⟨fun ⟨a, b, c, d⟩ => Fin.ext (lim_inj (val_lt x) (val_lt y) a b c d), fun h => by rw [h]; exact ⟨rfl, rfl, rfl, rfl⟩⟩
  rw [e] at this
  exact this
theorem invF_ok {x i : F} (h : x * i = 1) (w : World) (ha : At w b pp) : Calls Tryd.prog 19 #[ptr b, NF x] w fun e w' => e = .returned (.tuple #[NF i, .int .i64 0]) ∧ Gw w w' := by
  have hv : i.val * x.val % pp = 1 := by rw [Nat.mul_comm]; exact congrArg Fin.val h
  have := inv_ok mdp (val_lt x) w ha
  rw [if_pos (by
    have h1 : Nat.gcd x.val pp ∣ i.val * x.val % pp := (Nat.dvd_mod_iff (Nat.gcd_dvd_right _ _)).2 (Nat.dvd_trans (Nat.gcd_dvd_left _ _) ⟨i.val, Nat.mul_comm _ _⟩)
    rw [hv] at h1; exact Nat.dvd_one.1 h1), minv_eq i.isLt hv] at this
  exact this
theorem invF_no (w : World) (ha : At w b pp) : Calls Tryd.prog 19 #[ptr b, NF 0] w fun e w' => e = .returned (.tuple #[N 0, .int .i64 1]) ∧ Gw w w' := by
  have := inv_ok mdp (x := 0) (by decide) w ha
  rw [if_neg (by decide)] at this
  exact this
theorem bytesN (n : Nat) (w : World) : Calls Tryd.prog 22 #[N n] w fun e w' => e = .returned (B32 n) ∧ Gw w w' := bytes_of n w
theorem ofN (n : Nat) (hn : n < R) (w : World) : Calls Tryd.prog 20 #[B32 n] w fun e w' => e = .returned (N n) ∧ Gw w w' := of_bytes n hn w
theorem bytesF (x : F) (w : World) : Calls Tryd.prog 22 #[NF x] w fun e w' => e = .returned (B32 x.val) ∧ Gw w w' := bytes_of x.val w
theorem ofF (x : F) (w : World) : Calls Tryd.prog 20 #[B32 x.val] w fun e w' => e = .returned (NF x) ∧ Gw w w' := of_bytes x.val (val_lt x) w
theorem built59_0 : Tryd.prog.built 50 [] = some #[.int .u64 0, .int .u64 0, .int .u64 0, .int .u64 0] := by kernel_rfl
theorem built67_0 : Tryd.prog.built 70 [] = some #[.int .u64 0, .int .u64 0, .int .u64 0, .int .u64 0, .int .u64 0, .int .u64 0, .int .u64 0, .int .u64 0, .int .u64 0, .int .u64 0, .int .u64 0, .int .u64 0] := by kernel_rfl
theorem built24_0 : Tryd.prog.built 26 [] = some #[.int .u8 0, .int .u8 0, .int .u8 0, .int .u8 0, .int .u8 0, .int .u8 0, .int .u8 0, .int .u8 0, .int .u8 0, .int .u8 0, .int .u8 0, .int .u8 0, .int .u8 0, .int .u8 0, .int .u8 0, .int .u8 0, .int .u8 0, .int .u8 0, .int .u8 0, .int .u8 0, .int .u8 0, .int .u8 0, .int .u8 0, .int .u8 0, .int .u8 0, .int .u8 0, .int .u8 0, .int .u8 0, .int .u8 0, .int .u8 0, .int .u8 0, .int .u8 0, .int .u8 0, .int .u8 0, .int .u8 0, .int .u8 0, .int .u8 0, .int .u8 0, .int .u8 0, .int .u8 0, .int .u8 0, .int .u8 0, .int .u8 0, .int .u8 0, .int .u8 0, .int .u8 0, .int .u8 0, .int .u8 0, .int .u8 0, .int .u8 0, .int .u8 0, .int .u8 0, .int .u8 0, .int .u8 0, .int .u8 0, .int .u8 0, .int .u8 0, .int .u8 0, .int .u8 0, .int .u8 0, .int .u8 0, .int .u8 0, .int .u8 0, .int .u8 0] := by kernel_rfl
theorem built67_3 (x y z : F) : Tryd.prog.built 70 [(0, NF x), (1, NF y), (2, NF z)] = some #[.int .u64 (lv x 0 : Nat), .int .u64 (lv x 1 : Nat), .int .u64 (lv x 2 : Nat), .int .u64 (lv x 3 : Nat), .int .u64 (lv y 0 : Nat), .int .u64 (lv y 1 : Nat), .int .u64 (lv y 2 : Nat), .int .u64 (lv y 3 : Nat), .int .u64 (lv z 0 : Nat), .int .u64 (lv z 1 : Nat), .int .u64 (lv z 2 : Nat), .int .u64 (lv z 3 : Nat)] := by kernel_rfl
structure Laid (w : World) : Prop where
  bx : ∀ (j : Nat) (v : Value), (lims TollEc.bx.val)[j]? = some v → w.cell? ⟨0, 0 + j, none⟩ = some v
  bY : ∀ (j : Nat) (v : Value), (lims TollEc.bY.val)[j]? = some v → w.cell? ⟨1, 0 + j, none⟩ = some v
  nn : ∀ (j : Nat) (v : Value), (lims TollEc.nn)[j]? = some v → w.cell? ⟨4, 0 + j, none⟩ = some v
  pp : ∀ (j : Nat) (v : Value), (lims pp)[j]? = some v → w.cell? ⟨2, 0 + j, none⟩ = some v
  cb : ∀ (j : Nat) (v : Value), (lims cb.val)[j]? = some v → w.cell? ⟨3, 0 + j, none⟩ = some v
theorem Laid.gw {w w' : World} (h : Laid w) (g : Gw w w') : Laid w' :=
  ⟨fun j v hj => g.cell (h.bx j v hj), fun j v hj => g.cell (h.bY j v hj), fun j v hj => g.cell (h.nn j v hj), fun j v hj => g.cell (h.pp j v hj), fun j v hj => g.cell (h.cb j v hj)⟩
end Go.Proofs.YtafbhakmkbehiaaDoor
end
section
namespace Go.Toll
open Go.RowKit
section
variable {P : Program} {w0 : World} {ops : Array Oper} {o : Oper} {s : VS}
def unVP : List (Nat × SV) → Option (List (Nat × Value))
  | [] => some []
  | (i, .v x) :: l => match unVP l with | some r => some ((i, x) :: r) | none => none
  | _ :: _ => none
theorem unVP_eq : ∀ {l : List (Nat × SV)} {r : List (Nat × Value)}, unVP l = some r → ∀ ρ, l.map (fun x => (x.1, x.2.c ρ)) = r
  | [], r, h, _ => by simp [unVP] at h; subst h; rfl
  | (i, .v x) :: l, r, h, ρ => by
    simp only [unVP] at h
    cases hl : unVP l with
    | none => rw [hl] at h; cases h
    | some q => rw [hl] at h; simp only [Option.some.injEq] at h; subst h; exact congrArg _ (unVP_eq hl ρ)
  | (_, .p _ _) :: _, _, h, _ => by simp [unVP] at h
  | (_, .s _ _ _ _) :: _, _, h, _ => by simp [unVP] at h
  | (_, .tp _ _ _) :: _, _, h, _ => by simp [unVP] at h
  | (_, .ap _ _) :: _, _, h, _ => by simp [unVP] at h
theorem ev_build {ty : TypeId} {parts : Array (Nat × Operand)} {pl : List (Nat × Value)} {cells : Array Value} (ho : o.op = .build ty parts) (hgd : ∀ ρ, Region.wanted o (yielded ops (s.act ρ).tmps) = true)
    (hx : unVP (parts.toList.map fun x => (x.1, svEval s x.2)) = some pl) (hb : P.built ty pl = some cells) : Ev P ops w0 o s ⟨.v (.agg cells), .none, []⟩ :=
  .run _ _ hgd fun ρ w _ => by
    have h1 : (parts.map fun (i, x) => (i, (s.act ρ).eval x)).toList = pl := by
      rw [← unVP_eq hx ρ]
      simp only [Array.toList_map, List.map_map]
      exact List.map_congr_left fun x _ => by simp only [Function.comp_apply, svEval_c]
    have h2 := run_build w ty (parts.map fun (i, x) => (i, (s.act ρ).eval x)) cells (by rw [h1]; exact hb)
    simp only [execOp, ho, SV.c]
    rw [Sem.run_bind, h2]
    rfl
theorem ev_pick_t {c a b : Operand} {v : Value} (ho : o.op = .pick c a b) (hgd : ∀ ρ, Region.wanted o (yielded ops (s.act ρ).tmps) = true) (hc : svEval s c = .v (.bool true)) (ha : svEval s a = .v v) : Ev P ops w0 o s ⟨.v v, .none, []⟩ :=
  .run _ _ hgd fun ρ w _ => by
    have e1 := svEval_c s ρ c
    rw [hc] at e1
    have e2 := svEval_c s ρ a
    rw [ha] at e2
    simp [execOp, ho, e1, e2, SV.c, asBool]
theorem ev_pick_f {c a b : Operand} {v : Value} (ho : o.op = .pick c a b) (hgd : ∀ ρ, Region.wanted o (yielded ops (s.act ρ).tmps) = true) (hc : svEval s c = .v (.bool false)) (hb : svEval s b = .v v) : Ev P ops w0 o s ⟨.v v, .none, []⟩ :=
  .run _ _ hgd fun ρ w _ => by
    have e1 := svEval_c s ρ c
    rw [hc] at e1
    have e2 := svEval_c s ρ b
    rw [hb] at e2
    simp [execOp, ho, e1, e2, SV.c, asBool]
theorem ev_not {ty : TypeId} {x : Operand} {p : Bool} (ho : o.op = .unOp .not ty x) (hgd : ∀ ρ, Region.wanted o (yielded ops (s.act ρ).tmps) = true) (hx : svEval s x = .v (.bool p)) : Ev P ops w0 o s ⟨.v (.bool (!p)), .none, []⟩ :=
  ev_un ho hgd hx fun w => by simp [Op.unary]
theorem ev_buildap {ty : TypeId} {x : Operand} {i id off : Nat} (ho : o.op = .build ty #[(i, x)]) (hgd : ∀ ρ, Region.wanted o (yielded ops (s.act ρ).tmps) = true) (hx : svEval s x = .p id off)
    (hb : ∀ g, P.built ty [(i, .pointer (some ⟨g, off, none⟩))] = some #[.pointer (some ⟨g, off, none⟩)]) : Ev P ops w0 o s ⟨.ap id off, .none, []⟩ :=
  .run _ _ hgd fun ρ w _ => by
    have e1 := svEval_c s ρ x
    rw [hx] at e1
    have h2 := run_build w ty #[(i, (s.act ρ).eval x)] _ (by rw [e1]; exact hb (ρ id))
    simp only [execOp, ho, SV.c]
    rw [Sem.run_bind]
    have h3 : (#[(i, x)] : Array (Nat × Operand)).map (fun (i, x) => (i, (s.act ρ).eval x)) = #[(i, (s.act ρ).eval x)] := by simp
    rw [h3, h2]
    rfl
theorem ev_storeap {ty : TypeId} {x y : Operand} {id off id2 off2 : Nat} {b : Blk} (ho : o.op = .store ty x y) (hgd : ∀ ρ, Region.wanted o (yielded ops (s.act ρ).tmps) = true) (hx : svEval s x = .p id off) (hm : s.mem id = some b) (hy : svEval s y = .ap id2 off2)
    (hs : ∀ w, (Go.sizeOf ty).run P w = .ok 1 w) (hfit : off + 1 ≤ b.1.length) :
    Ev P ops w0 o s ⟨.v undef, .wr id (b.1.take off ++ [.p id2 off2] ++ b.1.drop (off + 1), b.2), [id]⟩ :=
  .wr id _ hgd (by rw [hm]; rfl) fun ρ w hw => by
    have e1 := svEval_c s ρ x
    rw [hx] at e1
    have e2 := svEval_c s ρ y
    rw [hy] at e2
    obtain ⟨_, hb⟩ := hw.2 id b (by simp) hm
    have hst := run_storeCells_at P (ρ id) off b.2 [.pointer (some ⟨ρ id2, off2, none⟩)] 0 (b.1.map (SV.c ρ)).toArray w hb (by simp; omega) (fun u hu => by simp at hu; subst hu; rfl)
    refine ⟨w.setRow (ρ id) ((b.1.map (SV.c ρ)).toArray.toList.take (off + 0) ++ [Value.pointer (some ⟨ρ id2, off2, none⟩)] ++ (b.1.map (SV.c ρ)).toArray.toList.drop (off + 0 + 1)).toArray, ?_, ?_, ?_⟩
    · simp only [execOp, ho, e1, e2, SV.c, Instr.storeAt, Instr.sureAddr, storeVar]
      rw [Sem.run_bind, Sem.run_bind, Sem.run_pure, Result.andThen_ok, Sem.run_bind, hs, Result.andThen_ok, if_neg (by simp [Value.cells])]
      have hst' := hst
      simp only [Value.cells] at hst' ⊢
      rw [hst']
      rfl
    · exact ⟨rfl, rfl, rfl, by simp, fun k hk => setRow_other w _ k _ hk, fun a => by
        by_cases ha : a.block = ρ id
        · simp [World.frozen?, ha, hb, cellsOf, setRow_heap w (ρ id) _ _ _ _ hb]
        · simp [World.frozen?, setRow_other w (ρ id) a.block _ ha]⟩
    · rw [setRow_heap w (ρ id) _ _ _ _ hb]
      simp [cellsOf, SV.c, List.map_take, List.map_drop]
theorem ev_loadap {ty : TypeId} {x : Operand} {id off id2 off2 : Nat} {b : Blk} {d : TypeDesc} (ho : o.op = .load ty x) (hgd : ∀ ρ, Region.wanted o (yielded ops (s.act ρ).tmps) = true) (hx : svEval s x = .p id off) (hm : s.mem id = some b)
    (hu : P.underlying ty = some d) (hd : isAggD d = true) (hs : ∀ w, (Go.sizeOf ty).run P w = .ok 1 w) (hv : b.1[off]? = some (.p id2 off2)) : Ev P ops w0 o s ⟨.ap id2 off2, .none, [id]⟩ :=
  .run _ _ hgd fun ρ w hw => by
    have h1 := svEval_c s ρ x
    rw [hx] at h1
    obtain ⟨_, hb⟩ := hw.2 id b (by simp) hm
    have hl' : (loadCells ⟨ρ id, off, none⟩ 1).run P w = .ok #[.pointer (some ⟨ρ id2, off2, none⟩)] w := run_loadCells_list w _ [.pointer (some ⟨ρ id2, off2, none⟩)] fun j v hj => by
      rw [add_at]
      match j, hj with
      | 0, hj =>
        simp at hj; subst hj
        simp only [World.cell?, hb, cellsOf]
        simp [hv, SV.c]
    simp [execOp, ho, h1, SV.c, Instr.loadAt, Instr.sureAddr, loadVar, run_isAgg hu, hd, hs, hl']
theorem ev_callnewf {f : FuncId} {xs : Array Operand} {ats : Array TypeId} {vs : List Value} {id : Nat} (_hd : o.dst = some id) (ho : o.op = .call { callee := .value (.func f), args := xs, argTypes := ats }) (hgd : ∀ ρ, Region.wanted o (yielded ops (s.act ρ).tmps) = true)
    (hx : unV (xs.toList.map (svEval s)) = some vs) (he : ∀ args w, (callFunc f args).run P w = .ok (.enter f args) w) (cs : List Value) (ty : TypeId)
    (hc : ∀ w, Gw w0 w → Calls P f vs.toArray w fun e w' => ∃ g, w.heap.size ≤ g ∧ e = .returned (.agg #[.pointer (some ⟨g, 0, none⟩)]) ∧ w'.heap[g]? = some (.cells cs.toArray ty (0, 0)) ∧ Gw w w') :
    Ev P ops w0 o s ⟨.ap id 0, .new id (cs.map .v, ty), []⟩ :=
  .callnew f (fun _ => vs.toArray) (.ap id 0) [] id (cs.map .v, ty) hgd (by simp [SV.has]) (fun ρ w _ => by
    obtain ⟨dst, op, type, pos, after, guard⟩ := o
    simp only at ho
    subst ho
    rw [execOp_call_go, args_c hx]
    simpa using he vs.toArray w) fun ρ w hs => (hc w hs.1).mono fun e w' ⟨g, h1, h2, h3, h4⟩ => ⟨g, h1, by simp [h2, SV.c], by rw [h3]; simp [cellsOf, Function.comp_def, SV.c], h4⟩
theorem post_newf {fn : Func} {R : Ending → World → Prop} {a ty id bid off : Nat} {d : TypeDesc} {b bb : Blk} {cs : List Value} (hf : fn.results = #[.cell a ty]) (ha : svEval s (.tmp a) = .p bid off) (hbm : s.mem bid = some bb) (hu : P.underlying ty = some d) (hd : isAggD d = true) (hs : ∀ w, (Go.sizeOf ty).run P w = .ok 1 w)
    (hv : bb.1[off]? = some (.p id 0)) (hm : s.mem id = some b) (hb : unV b.1 = some cs)
    (hR : ∀ g w, w0.heap.size ≤ g → w.heap[g]? = some (.cells cs.toArray b.2 (0, 0)) → Gw w0 w → R (.returned (.agg #[.pointer (some ⟨g, 0, none⟩)])) w) : ∀ ρ w, Rel w0 ρ s w → bodyPost P fn R .ret (s.act ρ) w := fun ρ w hr => by
  obtain ⟨h1, h2⟩ := hr.own id b hm
  obtain ⟨_, h3⟩ := hr.own bid bb hbm
  refine ⟨rfl, _, ?_, hR (ρ id) w h1 (by rw [h2]; simp [cellsOf, unV_eq hb, Function.comp_def, SV.c]) hr.gw⟩
  rw [results_eq, hf]
  have hl' : (loadCells ⟨ρ bid, off, none⟩ 1).run P w = .ok #[.pointer (some ⟨ρ id, 0, none⟩)] w := run_loadCells_list w _ [.pointer (some ⟨ρ id, 0, none⟩)] fun j v hj => by
    rw [add_at]
    match j, hj with
    | 0, hj =>
      simp at hj; subst hj
      simp only [World.cell?, h3, cellsOf]
      simp [hv, SV.c]
  have e1 : (rvRun (s.act ρ).tmps (.cell a ty)).run P w = .ok (.agg #[.pointer (some ⟨ρ id, 0, none⟩)]) w := by
    simp only [rvRun, getD_act, ha, SV.c]
    simp [asAddr, loadVar, run_isAgg hu, hd, hs, hl']
  simp [e1]
end
end Go.Toll
end
section
namespace Go.Proofs.YtafbhakmkbehiaaDoor
open Go.RowKit Go.Toll TollMont
open TollEc (F pp cb Jp Pt)
set_option maxHeartbeats 4000000
set_option maxRecDepth 100000
theorem twice_ok {b : Nat} (x : F) (w : World) (ha : At w b pp) : Calls Tryd.prog 57 #[FV b, NF x] w fun e w' => e = .returned (NF (x + x)) ∧ Gw w w' := by
 go_enter Tryd.func57, Tryd.ntmps57
 refine ve_go ?_
 simp only [List.map_cons, List.map_nil]
 iterate 4 refine t_k2 ?_
 refine t_13 ?_
 iterate 3 refine t_k ?_
 refine t_6 ?_
 refine t_2 ?_
 iterate 2 refine t_0 ?_
 refine t_54 ?_
 refine t_11 ?_
 refine t_k ?_
 refine vret ?_
 refine post_ret (res1 Tryd.results57 (rv_cell rfl rfl Tryd.underlying50 rfl Tryd.sizeOf50 rfl rfl)) ?_
 intro w' hg
 exact ⟨rfl, hg⟩
theorem thrice_ok {b : Nat} (x : F) (w : World) (ha : At w b pp) : Calls Tryd.prog 58 #[FV b, NF x] w fun e w' => e = .returned (NF (x + x + x)) ∧ Gw w w' := by
 go_enter Tryd.func58, Tryd.ntmps58
 refine ve_go ?_
 simp only [List.map_cons, List.map_nil]
 iterate 4 refine t_k2 ?_
 refine t_13 ?_
 iterate 3 refine t_k ?_
 refine t_6 ?_
 refine t_2 ?_
 refine t_6 ?_
 refine t_2 ?_
 iterate 2 refine t_0 ?_
 refine t_54 ?_
 refine t_0 ?_
 refine t_54 ?_
 refine t_11 ?_
 refine t_k ?_
 refine vret ?_
 refine post_ret (res1 Tryd.results58 (rv_cell rfl rfl Tryd.underlying50 rfl Tryd.sizeOf50 rfl rfl)) ?_
 intro w' hg
 exact ⟨rfl, hg⟩
theorem double_z {b : Nat} (p : Jp) (w : World) (_ha : At w b pp) (hz : p.z = 0) : Calls Tryd.prog 38 #[FV b, TF p] w fun e w' => e = .returned (TF ⟨0, 0, 0⟩) ∧ Gw w w' := by
 go_enter Tryd.func38, Tryd.ntmps38
 refine ve_go ?_
 simp only [List.map_cons, List.map_nil]
 iterate 4 refine t_k2 ?_
 refine t_36 ?_
 iterate 4 refine t_k ?_
 refine t_7 ?_
 refine t_0 ?_
 refine t_31 ?_
 refine t_s2 (by exact ev_bin rfl (gn rfl) rfl rfl (fun w => zeq_t hz _ _ w)) ?_
 refine t_k2 ?_
 refine t_37 ?_
 refine t_20 ?_
 refine t_72 ?_
 refine t_47 ?_
 iterate 5 refine t_k2 ?_
 refine t_s2 (by exact ev_build rfl (gn rfl) rfl (built67_0)) ?_
 refine t_27 ?_
 refine t_k ?_
 refine vret ?_
 refine post_ret (res1 Tryd.results38 (rv_cell rfl rfl Tryd.underlying70 rfl Tryd.sizeOf70 rfl rfl)) ?_
 intro w' hg
 exact ⟨rfl, hg⟩
theorem double_y {b : Nat} (p : Jp) (w : World) (_ha : At w b pp) (hz : p.z ≠ 0) (hy : p.y = 0) : Calls Tryd.prog 38 #[FV b, TF p] w fun e w' => e = .returned (TF ⟨0, 0, 0⟩) ∧ Gw w w' := by
 go_enter Tryd.func38, Tryd.ntmps38
 refine ve_go ?_
 simp only [List.map_cons, List.map_nil]
 iterate 4 refine t_k2 ?_
 refine t_36 ?_
 iterate 4 refine t_k ?_
 refine t_7 ?_
 refine t_0 ?_
 refine t_31 ?_
 refine t_45 ?_
 refine t_k2 ?_
 refine t_37 ?_
 refine t_20 ?_
 refine t_72 ?_
 refine t_s2 (by first | exact Ev.skip (fun _ => rfl) | exact ev_bin rfl (fun _ => rfl) rfl rfl (fun w => zeq_t hy _ _ w)) ?_
 iterate 5 refine t_k2 ?_
 refine t_s2 (by exact ev_build rfl (gn rfl) rfl (built67_0)) ?_
 refine t_27 ?_
 refine t_k ?_
 refine vret ?_
 refine post_ret (res1 Tryd.results38 (rv_cell rfl rfl Tryd.underlying70 rfl Tryd.sizeOf70 rfl rfl)) ?_
 intro w' hg
 exact ⟨rfl, hg⟩
theorem mulE {b : Nat} {x y z : F} (h : x * y = z) (w : World) (ha : At w b pp) : Calls Tryd.prog 21 #[ptr b, NF x, NF y] w fun e w' => e = .returned (NF z) ∧ Gw w w' := h ▸ mulF x y w ha
theorem addE {b : Nat} {x y z : F} (h : x + y = z) (w : World) (ha : At w b pp) : Calls Tryd.prog 43 #[ptr b, NF x, NF y] w fun e w' => e = .returned (NF z) ∧ Gw w w' := h ▸ addF x y w ha
theorem subE {b : Nat} {x y z : F} (h : x - y = z) (w : World) (ha : At w b pp) : Calls Tryd.prog 44 #[ptr b, NF x, NF y] w fun e w' => e = .returned (NF z) ∧ Gw w w' := h ▸ subF x y w ha
theorem twiceE {b : Nat} {x z : F} (h : x + x = z) (w : World) (ha : At w b pp) : Calls Tryd.prog 57 #[FV b, NF x] w fun e w' => e = .returned (NF z) ∧ Gw w w' := h ▸ twice_ok x w ha
theorem thriceE {b : Nat} {x z : F} (h : x + x + x = z) (w : World) (ha : At w b pp) : Calls Tryd.prog 58 #[FV b, NF x] w fun e w' => e = .returned (NF z) ∧ Gw w w' := h ▸ thrice_ok x w ha
theorem double_n {b : Nat} (p : Jp) (v29 v36 v42 v51 v57 v58 v59 v63 v64 v71 v74 v75 v83 v84 v85 v86 v97 v98 v100 v106 v109 : F) (w : World) (ha : At w b pp) (hz : p.z ≠ 0) (hy : p.y ≠ 0) (e29 : p.z * p.z = v29) (e36 : p.y * p.y = v36) (e42 : p.x * v36 = v42) (e51 : p.x - v29 = v51) (e57 : p.x + v29 = v57) (e58 : v51 * v57 = v58) (e59 : v58 + v58 + v58 = v59) (e63 : v42 + v42 = v63) (e64 : v63 + v63 = v64) (e71 : v59 * v59 = v71) (e74 : v64 + v64 = v74) (e75 : v71 - v74 = v75) (e83 : v36 * v36 = v83) (e84 : v83 + v83 = v84) (e85 : v84 + v84 = v85) (e86 : v85 + v85 = v86) (e97 : v64 - v75 = v97) (e98 : v59 * v97 = v98) (e100 : v98 - v86 = v100) (e106 : p.y + p.y = v106) (e109 : v106 * p.z = v109) : Calls Tryd.prog 38 #[FV b, TF p] w fun e w' => e = .returned (TF ⟨v75, v100, v109⟩) ∧ Gw w w' := by
 go_enter Tryd.func38, Tryd.ntmps38
 refine ve_go ?_
 simp only [List.map_cons, List.map_nil]
 iterate 4 refine t_k2 ?_
 refine t_36 ?_
 iterate 4 refine t_k ?_
 refine t_7 ?_
 refine t_0 ?_
 refine t_31 ?_
 refine t_45 ?_
 refine t_k2 ?_
 refine t_37 ?_
 refine t_20 ?_
 refine t_72 ?_
 refine t_s2 (by first | exact Ev.skip (fun _ => rfl) | exact ev_bin rfl (fun _ => rfl) rfl rfl (fun w => zeq_f hy _ _ w)) ?_
 iterate 6 refine t_k2 ?_
 refine t_6 ?_
 refine t_2 ?_
 refine t_7 ?_
 refine t_0 ?_
 refine t_7 ?_
 refine t_0 ?_
 refine t_s2 (by exact ev_call rfl (gn rfl) rfl (en_of Tryd.func21 (by kernel_rfl) rfl) (fun w' hw' => mulE e29 w' (ha.gw hw'))) ?_
 refine t_6 ?_
 refine t_2 ?_
 refine t_7 ?_
 refine t_0 ?_
 refine t_7 ?_
 refine t_0 ?_
 refine t_s2 (by exact ev_call rfl (gn rfl) rfl (en_of Tryd.func21 (by kernel_rfl) rfl) (fun w' hw' => mulE e36 w' (ha.gw hw'))) ?_
 iterate 2 refine t_13 ?_
 iterate 2 refine t_11 ?_
 iterate 3 refine t_k ?_
 refine t_6 ?_
 refine t_2 ?_
 refine t_7 ?_
 iterate 2 refine t_0 ?_
 refine t_s2 (by exact ev_call rfl (gn rfl) rfl (en_of Tryd.func21 (by kernel_rfl) rfl) (fun w' hw' => mulE e42 w' (ha.gw hw'))) ?_
 refine t_13 ?_
 refine t_11 ?_
 iterate 3 refine t_k ?_
 refine t_16 ?_
 refine t_6 ?_
 refine t_2 ?_
 refine t_6 ?_
 refine t_2 ?_
 refine t_7 ?_
 iterate 2 refine t_0 ?_
 refine t_s2 (by exact ev_call rfl (gn rfl) rfl (en_of Tryd.func44 (by kernel_rfl) rfl) (fun w' hw' => subE e51 w' (ha.gw hw'))) ?_
 refine t_6 ?_
 refine t_2 ?_
 refine t_7 ?_
 iterate 2 refine t_0 ?_
 refine t_s2 (by exact ev_call rfl (gn rfl) rfl (en_of Tryd.func43 (by kernel_rfl) rfl) (fun w' hw' => addE e57 w' (ha.gw hw'))) ?_
 refine t_s2 (by exact ev_call rfl (gn rfl) rfl (en_of Tryd.func21 (by kernel_rfl) rfl) (fun w' hw' => mulE e58 w' (ha.gw hw'))) ?_
 refine t_s2 (by exact ev_call rfl (gn rfl) rfl (en_of Tryd.func58 (by kernel_rfl) rfl) (fun w' hw' => thriceE e59 w' (ha.gw hw'))) ?_
 refine t_13 ?_
 refine t_11 ?_
 iterate 3 refine t_k ?_
 iterate 2 refine t_16 ?_
 refine t_0 ?_
 refine t_s2 (by exact ev_call rfl (gn rfl) rfl (en_of Tryd.func57 (by kernel_rfl) rfl) (fun w' hw' => twiceE e63 w' (ha.gw hw'))) ?_
 refine t_s2 (by exact ev_call rfl (gn rfl) rfl (en_of Tryd.func57 (by kernel_rfl) rfl) (fun w' hw' => twiceE e64 w' (ha.gw hw'))) ?_
 refine t_13 ?_
 refine t_11 ?_
 iterate 3 refine t_k ?_
 refine t_6 ?_
 refine t_2 ?_
 refine t_6 ?_
 refine t_2 ?_
 iterate 2 refine t_0 ?_
 refine t_s2 (by exact ev_call rfl (gn rfl) rfl (en_of Tryd.func21 (by kernel_rfl) rfl) (fun w' hw' => mulE e71 w' (ha.gw hw'))) ?_
 refine t_16 ?_
 refine t_0 ?_
 refine t_s2 (by exact ev_call rfl (gn rfl) rfl (en_of Tryd.func57 (by kernel_rfl) rfl) (fun w' hw' => twiceE e74 w' (ha.gw hw'))) ?_
 refine t_s2 (by exact ev_call rfl (gn rfl) rfl (en_of Tryd.func44 (by kernel_rfl) rfl) (fun w' hw' => subE e75 w' (ha.gw hw'))) ?_
 refine t_13 ?_
 refine t_11 ?_
 iterate 3 refine t_k ?_
 iterate 3 refine t_16 ?_
 refine t_6 ?_
 refine t_2 ?_
 iterate 2 refine t_0 ?_
 refine t_s2 (by exact ev_call rfl (gn rfl) rfl (en_of Tryd.func21 (by kernel_rfl) rfl) (fun w' hw' => mulE e83 w' (ha.gw hw'))) ?_
 refine t_s2 (by exact ev_call rfl (gn rfl) rfl (en_of Tryd.func57 (by kernel_rfl) rfl) (fun w' hw' => twiceE e84 w' (ha.gw hw'))) ?_
 refine t_s2 (by exact ev_call rfl (gn rfl) rfl (en_of Tryd.func57 (by kernel_rfl) rfl) (fun w' hw' => twiceE e85 w' (ha.gw hw'))) ?_
 refine t_s2 (by exact ev_call rfl (gn rfl) rfl (en_of Tryd.func57 (by kernel_rfl) rfl) (fun w' hw' => twiceE e86 w' (ha.gw hw'))) ?_
 refine t_13 ?_
 refine t_11 ?_
 iterate 3 refine t_k ?_
 refine t_0 ?_
 refine t_6 ?_
 refine t_2 ?_
 refine t_6 ?_
 refine t_2 ?_
 refine t_0 ?_
 refine t_6 ?_
 refine t_2 ?_
 iterate 2 refine t_0 ?_
 refine t_s2 (by exact ev_call rfl (gn rfl) rfl (en_of Tryd.func44 (by kernel_rfl) rfl) (fun w' hw' => subE e97 w' (ha.gw hw'))) ?_
 refine t_s2 (by exact ev_call rfl (gn rfl) rfl (en_of Tryd.func21 (by kernel_rfl) rfl) (fun w' hw' => mulE e98 w' (ha.gw hw'))) ?_
 refine t_0 ?_
 refine t_s2 (by exact ev_call rfl (gn rfl) rfl (en_of Tryd.func44 (by kernel_rfl) rfl) (fun w' hw' => subE e100 w' (ha.gw hw'))) ?_
 refine t_6 ?_
 refine t_2 ?_
 refine t_16 ?_
 refine t_7 ?_
 refine t_0 ?_
 refine t_s2 (by exact ev_call rfl (gn rfl) rfl (en_of Tryd.func57 (by kernel_rfl) rfl) (fun w' hw' => twiceE e106 w' (ha.gw hw'))) ?_
 refine t_7 ?_
 refine t_0 ?_
 refine t_s2 (by exact ev_call rfl (gn rfl) rfl (en_of Tryd.func21 (by kernel_rfl) rfl) (fun w' hw' => mulE e109 w' (ha.gw hw'))) ?_
 refine t_s2 (by exact ev_build rfl (gn rfl) rfl (built67_3 _ _ _)) ?_
 refine t_27 ?_
 refine t_k ?_
 refine vret ?_
 refine post_ret (res1 Tryd.results38 (rv_cell rfl rfl Tryd.underlying70 rfl Tryd.sizeOf70 rfl rfl)) ?_
 intro w' hg
 exact ⟨rfl, hg⟩
end Go.Proofs.YtafbhakmkbehiaaDoor
end
section
namespace Go.Proofs.YtafbhakmkbehiaaDoor
open Go.RowKit Go.Toll TollMont
open TollEc (F pp cb Jp Pt)
set_option maxHeartbeats 4000000
set_option maxRecDepth 100000
theorem add_p0 {b : Nat} (p q : Jp) (w : World) (_ha : At w b pp) (hz : p.z = 0) : Calls Tryd.prog 36 #[FV b, TF p, TF q] w fun e w' => e = .returned (TF q) ∧ Gw w w' := by
 go_enter Tryd.func36, Tryd.ntmps36
 refine ve_go ?_
 simp only [List.map_cons, List.map_nil]
 iterate 5 refine t_k2 ?_
 refine t_36 ?_
 iterate 5 refine t_k ?_
 refine t_7 ?_
 refine t_0 ?_
 refine t_31 ?_
 refine t_s2 (by exact ev_bin rfl (gn rfl) rfl rfl (fun w => zeq_t hz _ _ w)) ?_
 iterate 5 refine t_k2 ?_
 refine t_21 ?_
 refine t_27 ?_
 refine t_k ?_
 refine vret ?_
 refine post_ret (res1 Tryd.results36 (rv_cell rfl rfl Tryd.underlying70 rfl Tryd.sizeOf70 rfl rfl)) ?_
 intro w' hg
 exact ⟨rfl, hg⟩
theorem add_q0 {b : Nat} (p q : Jp) (w : World) (_ha : At w b pp) (hz : p.z ≠ 0) (hw : q.z = 0) : Calls Tryd.prog 36 #[FV b, TF p, TF q] w fun e w' => e = .returned (TF p) ∧ Gw w w' := by
 go_enter Tryd.func36, Tryd.ntmps36
 refine ve_go ?_
 simp only [List.map_cons, List.map_nil]
 iterate 5 refine t_k2 ?_
 refine t_36 ?_
 iterate 5 refine t_k ?_
 refine t_7 ?_
 refine t_0 ?_
 refine t_31 ?_
 refine t_45 ?_
 iterate 5 refine t_k2 ?_
 refine t_7 ?_
 refine t_0 ?_
 refine t_31 ?_
 refine t_s2 (by exact ev_bin rfl (gn rfl) rfl rfl (fun w => zeq_t hw _ _ w)) ?_
 iterate 5 refine t_k2 ?_
 refine t_21 ?_
 refine t_27 ?_
 refine t_k ?_
 refine vret ?_
 refine post_ret (res1 Tryd.results36 (rv_cell rfl rfl Tryd.underlying70 rfl Tryd.sizeOf70 rfl rfl)) ?_
 intro w' hg
 exact ⟨rfl, hg⟩
theorem add_dbl {b : Nat} (p q d : Jp) (v37 v44 v50 v56 v66 v67 v77 v78 v83 v88 : F) (w : World) (ha : At w b pp) (hz : p.z ≠ 0) (hw : q.z ≠ 0) (e37 : p.z * p.z = v37) (e44 : q.z * q.z = v44) (e50 : p.x * v44 = v50) (e56 : q.x * v37 = v56) (e66 : q.z * v44 = v66) (e67 : p.y * v66 = v67) (e77 : p.z * v37 = v77) (e78 : q.y * v77 = v78) (e83 : v56 - v50 = v83) (e88 : v78 - v67 = v88) (hh : v83 = 0) (hr : v88 = 0) (hd : ∀ w', Gw w w' → Calls Tryd.prog 38 #[FV b, TF p] w' fun e w'' => e = .returned (TF d) ∧ Gw w' w'') : Calls Tryd.prog 36 #[FV b, TF p, TF q] w fun e w' => e = .returned (TF d) ∧ Gw w w' := by
 go_enter Tryd.func36, Tryd.ntmps36
 refine ve_go ?_
 simp only [List.map_cons, List.map_nil]
 iterate 5 refine t_k2 ?_
 refine t_36 ?_
 iterate 5 refine t_k ?_
 refine t_7 ?_
 refine t_0 ?_
 refine t_31 ?_
 refine t_45 ?_
 iterate 5 refine t_k2 ?_
 refine t_7 ?_
 refine t_0 ?_
 refine t_31 ?_
 refine t_s2 (by exact ev_bin rfl (gn rfl) rfl rfl (fun w => zeq_f hw _ _ w)) ?_
 iterate 6 refine t_k2 ?_
 refine t_6 ?_
 refine t_2 ?_
 refine t_7 ?_
 refine t_0 ?_
 refine t_7 ?_
 refine t_0 ?_
 refine t_55 ?_
 refine t_6 ?_
 refine t_2 ?_
 refine t_7 ?_
 refine t_0 ?_
 refine t_7 ?_
 refine t_0 ?_
 refine t_56 ?_
 iterate 2 refine t_13 ?_
 iterate 2 refine t_11 ?_
 iterate 3 refine t_k ?_
 refine t_6 ?_
 refine t_2 ?_
 refine t_7 ?_
 iterate 2 refine t_0 ?_
 refine t_57 ?_
 refine t_6 ?_
 refine t_2 ?_
 refine t_7 ?_
 iterate 2 refine t_0 ?_
 refine t_58 ?_
 iterate 2 refine t_13 ?_
 iterate 2 refine t_11 ?_
 iterate 3 refine t_k ?_
 refine t_6 ?_
 refine t_2 ?_
 refine t_7 ?_
 refine t_0 ?_
 refine t_6 ?_
 refine t_2 ?_
 refine t_7 ?_
 iterate 2 refine t_0 ?_
 refine t_59 ?_
 refine t_60 ?_
 refine t_6 ?_
 refine t_2 ?_
 refine t_7 ?_
 refine t_0 ?_
 refine t_6 ?_
 refine t_2 ?_
 refine t_7 ?_
 iterate 2 refine t_0 ?_
 refine t_61 ?_
 refine t_62 ?_
 iterate 2 refine t_13 ?_
 iterate 2 refine t_11 ?_
 iterate 3 refine t_k ?_
 refine t_6 ?_
 refine t_2 ?_
 iterate 2 refine t_0 ?_
 refine t_63 ?_
 refine t_6 ?_
 refine t_2 ?_
 iterate 2 refine t_0 ?_
 refine t_64 ?_
 iterate 2 refine t_13 ?_
 iterate 2 refine t_11 ?_
 iterate 4 refine t_k ?_
 refine t_0 ?_
 refine t_31 ?_
 refine t_s2 (by exact ev_bin rfl (gn rfl) rfl rfl (fun w => zeq_t hh _ _ w)) ?_
 iterate 5 refine t_k ?_
 refine t_0 ?_
 refine t_31 ?_
 refine t_s2 (by exact ev_bin rfl (gn rfl) rfl rfl (fun w => zeq_t hr _ _ w)) ?_
 iterate 4 refine t_k ?_
 refine t_16 ?_
 refine t_21 ?_
 refine t_s2 (by exact ev_call rfl (gn rfl) rfl (en_of Tryd.func38 (by kernel_rfl) rfl) (fun w' hw' => hd w' hw')) ?_
 refine t_27 ?_
 refine t_k ?_
 refine vret ?_
 refine post_ret (res1 Tryd.results36 (rv_cell rfl rfl Tryd.underlying70 rfl Tryd.sizeOf70 rfl rfl)) ?_
 intro w' hg
 exact ⟨rfl, hg⟩
theorem add_inf {b : Nat} (p q : Jp) (v37 v44 v50 v56 v66 v67 v77 v78 v83 v88 : F) (w : World) (ha : At w b pp) (hz : p.z ≠ 0) (hw : q.z ≠ 0) (e37 : p.z * p.z = v37) (e44 : q.z * q.z = v44) (e50 : p.x * v44 = v50) (e56 : q.x * v37 = v56) (e66 : q.z * v44 = v66) (e67 : p.y * v66 = v67) (e77 : p.z * v37 = v77) (e78 : q.y * v77 = v78) (e83 : v56 - v50 = v83) (e88 : v78 - v67 = v88) (hh : v83 = 0) (hr : v88 ≠ 0) : Calls Tryd.prog 36 #[FV b, TF p, TF q] w fun e w' => e = .returned (TF ⟨0, 0, 0⟩) ∧ Gw w w' := by
 go_enter Tryd.func36, Tryd.ntmps36
 refine ve_go ?_
 simp only [List.map_cons, List.map_nil]
 iterate 5 refine t_k2 ?_
 refine t_36 ?_
 iterate 5 refine t_k ?_
 refine t_7 ?_
 refine t_0 ?_
 refine t_31 ?_
 refine t_45 ?_
 iterate 5 refine t_k2 ?_
 refine t_7 ?_
 refine t_0 ?_
 refine t_31 ?_
 refine t_s2 (by exact ev_bin rfl (gn rfl) rfl rfl (fun w => zeq_f hw _ _ w)) ?_
 iterate 6 refine t_k2 ?_
 refine t_6 ?_
 refine t_2 ?_
 refine t_7 ?_
 refine t_0 ?_
 refine t_7 ?_
 refine t_0 ?_
 refine t_55 ?_
 refine t_6 ?_
 refine t_2 ?_
 refine t_7 ?_
 refine t_0 ?_
 refine t_7 ?_
 refine t_0 ?_
 refine t_56 ?_
 iterate 2 refine t_13 ?_
 iterate 2 refine t_11 ?_
 iterate 3 refine t_k ?_
 refine t_6 ?_
 refine t_2 ?_
 refine t_7 ?_
 iterate 2 refine t_0 ?_
 refine t_57 ?_
 refine t_6 ?_
 refine t_2 ?_
 refine t_7 ?_
 iterate 2 refine t_0 ?_
 refine t_58 ?_
 iterate 2 refine t_13 ?_
 iterate 2 refine t_11 ?_
 iterate 3 refine t_k ?_
 refine t_6 ?_
 refine t_2 ?_
 refine t_7 ?_
 refine t_0 ?_
 refine t_6 ?_
 refine t_2 ?_
 refine t_7 ?_
 iterate 2 refine t_0 ?_
 refine t_59 ?_
 refine t_60 ?_
 refine t_6 ?_
 refine t_2 ?_
 refine t_7 ?_
 refine t_0 ?_
 refine t_6 ?_
 refine t_2 ?_
 refine t_7 ?_
 iterate 2 refine t_0 ?_
 refine t_61 ?_
 refine t_62 ?_
 iterate 2 refine t_13 ?_
 iterate 2 refine t_11 ?_
 iterate 3 refine t_k ?_
 refine t_6 ?_
 refine t_2 ?_
 iterate 2 refine t_0 ?_
 refine t_63 ?_
 refine t_6 ?_
 refine t_2 ?_
 iterate 2 refine t_0 ?_
 refine t_64 ?_
 iterate 2 refine t_13 ?_
 iterate 2 refine t_11 ?_
 iterate 4 refine t_k ?_
 refine t_0 ?_
 refine t_31 ?_
 refine t_s2 (by exact ev_bin rfl (gn rfl) rfl rfl (fun w => zeq_t hh _ _ w)) ?_
 iterate 5 refine t_k ?_
 refine t_0 ?_
 refine t_31 ?_
 refine t_s2 (by exact ev_bin rfl (gn rfl) rfl rfl (fun w => zeq_f hr _ _ w)) ?_
 iterate 5 refine t_k ?_
 refine t_s2 (by exact ev_build rfl (gn rfl) rfl (built67_0)) ?_
 refine t_27 ?_
 refine t_k ?_
 refine vret ?_
 refine post_ret (res1 Tryd.results36 (rv_cell rfl rfl Tryd.underlying70 rfl Tryd.sizeOf70 rfl rfl)) ?_
 intro w' hg
 exact ⟨rfl, hg⟩
theorem add_n {b : Nat} (p q : Jp) (v37 v44 v50 v56 v66 v67 v77 v78 v83 v88 v103 v108 v113 v122 v124 v127 v128 v139 v140 v145 v146 v155 v157 : F) (w : World) (ha : At w b pp) (hz : p.z ≠ 0) (hw : q.z ≠ 0) (e37 : p.z * p.z = v37) (e44 : q.z * q.z = v44) (e50 : p.x * v44 = v50) (e56 : q.x * v37 = v56) (e66 : q.z * v44 = v66) (e67 : p.y * v66 = v67) (e77 : p.z * v37 = v77) (e78 : q.y * v77 = v78) (e83 : v56 - v50 = v83) (e88 : v78 - v67 = v88) (e103 : v83 * v83 = v103) (e108 : v83 * v103 = v108) (e113 : v50 * v103 = v113) (e122 : v88 * v88 = v122) (e124 : v122 - v108 = v124) (e127 : v113 + v113 = v127) (e128 : v124 - v127 = v128) (e139 : v113 - v128 = v139) (e140 : v88 * v139 = v140) (e145 : v67 * v108 = v145) (e146 : v140 - v145 = v146) (e155 : p.z * q.z = v155) (e157 : v155 * v83 = v157) (hh : v83 ≠ 0) : Calls Tryd.prog 36 #[FV b, TF p, TF q] w fun e w' => e = .returned (TF ⟨v128, v146, v157⟩) ∧ Gw w w' := by
 go_enter Tryd.func36, Tryd.ntmps36
 refine ve_go ?_
 simp only [List.map_cons, List.map_nil]
 iterate 5 refine t_k2 ?_
 refine t_36 ?_
 iterate 5 refine t_k ?_
 refine t_7 ?_
 refine t_0 ?_
 refine t_31 ?_
 refine t_45 ?_
 iterate 5 refine t_k2 ?_
 refine t_7 ?_
 refine t_0 ?_
 refine t_31 ?_
 refine t_s2 (by exact ev_bin rfl (gn rfl) rfl rfl (fun w => zeq_f hw _ _ w)) ?_
 iterate 6 refine t_k2 ?_
 refine t_6 ?_
 refine t_2 ?_
 refine t_7 ?_
 refine t_0 ?_
 refine t_7 ?_
 refine t_0 ?_
 refine t_55 ?_
 refine t_6 ?_
 refine t_2 ?_
 refine t_7 ?_
 refine t_0 ?_
 refine t_7 ?_
 refine t_0 ?_
 refine t_56 ?_
 iterate 2 refine t_13 ?_
 iterate 2 refine t_11 ?_
 iterate 3 refine t_k ?_
 refine t_6 ?_
 refine t_2 ?_
 refine t_7 ?_
 iterate 2 refine t_0 ?_
 refine t_57 ?_
 refine t_6 ?_
 refine t_2 ?_
 refine t_7 ?_
 iterate 2 refine t_0 ?_
 refine t_58 ?_
 iterate 2 refine t_13 ?_
 iterate 2 refine t_11 ?_
 iterate 3 refine t_k ?_
 refine t_6 ?_
 refine t_2 ?_
 refine t_7 ?_
 refine t_0 ?_
 refine t_6 ?_
 refine t_2 ?_
 refine t_7 ?_
 iterate 2 refine t_0 ?_
 refine t_59 ?_
 refine t_60 ?_
 refine t_6 ?_
 refine t_2 ?_
 refine t_7 ?_
 refine t_0 ?_
 refine t_6 ?_
 refine t_2 ?_
 refine t_7 ?_
 iterate 2 refine t_0 ?_
 refine t_61 ?_
 refine t_62 ?_
 iterate 2 refine t_13 ?_
 iterate 2 refine t_11 ?_
 iterate 3 refine t_k ?_
 refine t_6 ?_
 refine t_2 ?_
 iterate 2 refine t_0 ?_
 refine t_63 ?_
 refine t_6 ?_
 refine t_2 ?_
 iterate 2 refine t_0 ?_
 refine t_64 ?_
 iterate 2 refine t_13 ?_
 iterate 2 refine t_11 ?_
 iterate 4 refine t_k ?_
 refine t_0 ?_
 refine t_31 ?_
 refine t_s2 (by exact ev_bin rfl (gn rfl) rfl rfl (fun w => zeq_f hh _ _ w)) ?_
 iterate 5 refine t_k ?_
 refine t_6 ?_
 refine t_2 ?_
 iterate 2 refine t_0 ?_
 refine t_s2 (by exact ev_call rfl (gn rfl) rfl (en_of Tryd.func21 (by kernel_rfl) rfl) (fun w' hw' => mulE e103 w' (ha.gw hw'))) ?_
 refine t_13 ?_
 refine t_11 ?_
 iterate 3 refine t_k ?_
 refine t_6 ?_
 refine t_2 ?_
 iterate 2 refine t_0 ?_
 refine t_s2 (by exact ev_call rfl (gn rfl) rfl (en_of Tryd.func21 (by kernel_rfl) rfl) (fun w' hw' => mulE e108 w' (ha.gw hw'))) ?_
 refine t_6 ?_
 refine t_2 ?_
 iterate 2 refine t_0 ?_
 refine t_s2 (by exact ev_call rfl (gn rfl) rfl (en_of Tryd.func21 (by kernel_rfl) rfl) (fun w' hw' => mulE e113 w' (ha.gw hw'))) ?_
 iterate 2 refine t_13 ?_
 iterate 2 refine t_11 ?_
 iterate 3 refine t_k ?_
 refine t_6 ?_
 refine t_2 ?_
 refine t_6 ?_
 refine t_2 ?_
 refine t_6 ?_
 refine t_2 ?_
 iterate 2 refine t_0 ?_
 refine t_s2 (by exact ev_call rfl (gn rfl) rfl (en_of Tryd.func21 (by kernel_rfl) rfl) (fun w' hw' => mulE e122 w' (ha.gw hw'))) ?_
 refine t_0 ?_
 refine t_s2 (by exact ev_call rfl (gn rfl) rfl (en_of Tryd.func44 (by kernel_rfl) rfl) (fun w' hw' => subE e124 w' (ha.gw hw'))) ?_
 refine t_16 ?_
 refine t_0 ?_
 refine t_s2 (by exact ev_call rfl (gn rfl) rfl (en_of Tryd.func57 (by kernel_rfl) rfl) (fun w' hw' => twiceE e127 w' (ha.gw hw'))) ?_
 refine t_s2 (by exact ev_call rfl (gn rfl) rfl (en_of Tryd.func44 (by kernel_rfl) rfl) (fun w' hw' => subE e128 w' (ha.gw hw'))) ?_
 refine t_13 ?_
 refine t_11 ?_
 iterate 3 refine t_k ?_
 refine t_0 ?_
 refine t_6 ?_
 refine t_2 ?_
 refine t_6 ?_
 refine t_2 ?_
 refine t_0 ?_
 refine t_6 ?_
 refine t_2 ?_
 iterate 2 refine t_0 ?_
 refine t_s2 (by exact ev_call rfl (gn rfl) rfl (en_of Tryd.func44 (by kernel_rfl) rfl) (fun w' hw' => subE e139 w' (ha.gw hw'))) ?_
 refine t_s2 (by exact ev_call rfl (gn rfl) rfl (en_of Tryd.func21 (by kernel_rfl) rfl) (fun w' hw' => mulE e140 w' (ha.gw hw'))) ?_
 refine t_6 ?_
 refine t_2 ?_
 iterate 2 refine t_0 ?_
 refine t_s2 (by exact ev_call rfl (gn rfl) rfl (en_of Tryd.func21 (by kernel_rfl) rfl) (fun w' hw' => mulE e145 w' (ha.gw hw'))) ?_
 refine t_s2 (by exact ev_call rfl (gn rfl) rfl (en_of Tryd.func44 (by kernel_rfl) rfl) (fun w' hw' => subE e146 w' (ha.gw hw'))) ?_
 refine t_6 ?_
 refine t_2 ?_
 refine t_6 ?_
 refine t_2 ?_
 refine t_7 ?_
 refine t_0 ?_
 refine t_7 ?_
 refine t_0 ?_
 refine t_s2 (by exact ev_call rfl (gn rfl) rfl (en_of Tryd.func21 (by kernel_rfl) rfl) (fun w' hw' => mulE e155 w' (ha.gw hw'))) ?_
 refine t_0 ?_
 refine t_s2 (by exact ev_call rfl (gn rfl) rfl (en_of Tryd.func21 (by kernel_rfl) rfl) (fun w' hw' => mulE e157 w' (ha.gw hw'))) ?_
 refine t_s2 (by exact ev_build rfl (gn rfl) rfl (built67_3 _ _ _)) ?_
 refine t_27 ?_
 refine t_k ?_
 refine vret ?_
 refine post_ret (res1 Tryd.results36 (rv_cell rfl rfl Tryd.underlying70 rfl Tryd.sizeOf70 rfl rfl)) ?_
 intro w' hg
 exact ⟨rfl, hg⟩
end Go.Proofs.YtafbhakmkbehiaaDoor
end
section
namespace Go.Proofs.YtafbhakmkbehiaaDoor
open Go.RowKit Go.Toll TollMont
open TollEc (F pp cb Jp Pt jdouble jadd)
theorem double_ok {b : Nat} (p : Jp) (w : World) (ha : At w b pp) : Calls Tryd.prog 38 #[FV b, TF p] w fun e w' => e = .returned (TF (jdouble p)) ∧ Gw w w' := by
  by_cases hz : p.z = 0
  · rw [show jdouble p = ⟨0, 0, 0⟩ from if_pos (.inl hz)]; exact double_z p w ha hz
  · by_cases hy : p.y = 0
    · rw [show jdouble p = ⟨0, 0, 0⟩ from if_pos (.inr hy)]; exact double_y p w ha hz hy
    · have h := double_n p _ _ _ _ _ _ _ _ _ _ _ _ _ _ _ _ _ _ _ _ _ w ha hz hy rfl rfl rfl rfl rfl rfl rfl rfl rfl rfl rfl rfl rfl rfl rfl rfl rfl rfl rfl rfl rfl
      have e : jdouble p = _ := if_neg (fun c : p.z = 0 ∨ p.y = 0 => c.elim hz hy)
      rw [e]; exact h
theorem add_ok2 {b : Nat} (p q : Jp) (w : World) (ha : At w b pp) : Calls Tryd.prog 36 #[FV b, TF p, TF q] w fun e w' => e = .returned (TF (jadd p q)) ∧ Gw w w' := by
  by_cases hz : p.z = 0
  · rw [show jadd p q = q from if_pos hz]; exact add_p0 p q w ha hz
  · by_cases hw : q.z = 0
    · rw [show jadd p q = p from (if_neg hz).trans (if_pos hw)]; exact add_q0 p q w ha hz hw
    · by_cases hh : q.x * (p.z * p.z) - p.x * (q.z * q.z) = 0
      · by_cases hr : q.y * (p.z * (p.z * p.z)) - p.y * (q.z * (q.z * q.z)) = 0
        · rw [show jadd p q = jdouble p from (if_neg hz).trans ((if_neg hw).trans ((if_pos hh).trans (if_pos hr)))]
          exact add_dbl p q _ _ _ _ _ _ _ _ _ _ _ w ha hz hw rfl rfl rfl rfl rfl rfl rfl rfl rfl rfl hh hr (fun w' hw' => double_ok p w' (ha.gw hw'))
        · rw [show jadd p q = ⟨0, 0, 0⟩ from (if_neg hz).trans ((if_neg hw).trans ((if_pos hh).trans (if_neg hr)))]
          exact add_inf p q _ _ _ _ _ _ _ _ _ _ w ha hz hw rfl rfl rfl rfl rfl rfl rfl rfl rfl rfl hh hr
      · have h := add_n p q _ _ _ _ _ _ _ _ _ _ _ _ _ _ _ _ _ _ _ _ _ _ _ w ha hz hw rfl rfl rfl rfl rfl rfl rfl rfl rfl rfl rfl rfl rfl rfl rfl rfl rfl rfl rfl rfl rfl rfl rfl hh
        have e : jadd p q = _ := (if_neg hz).trans ((if_neg hw).trans (if_neg hh))
        rw [e]; exact h
theorem less_t {n : Nat} (hn : n < R) (h : n < pp) (w : World) : Calls Tryd.prog 42 #[N n, N pp] w fun e w' => e = .returned (.bool true) ∧ Gw w w' := by
  have := lessP n hn w; rw [decide_eq_true h] at this; exact this
theorem less_f {n : Nat} (hn : n < R) (h : ¬ n < pp) (w : World) : Calls Tryd.prog 42 #[N n, N pp] w fun e w' => e = .returned (.bool false) ∧ Gw w w' := by
  have := lessP n hn w; rw [decide_eq_false h] at this; exact this
theorem NF_1 : NF 1 = .agg #[.int .u64 1, .int .u64 0, .int .u64 0, .int .u64 0] := N_one
theorem NF_3 : NF 3 = .agg #[.int .u64 3, .int .u64 0, .int .u64 0, .int .u64 0] := N_small (k := 3) (by decide)
theorem subF3 {b : Nat} (x : F) (w : World) (ha : At w b pp) : Calls Tryd.prog 44 #[ptr b, NF x, .agg #[.int .u64 3, .int .u64 0, .int .u64 0, .int .u64 0]] w fun e w' => e = .returned (NF (x - 3)) ∧ Gw w w' := by
  have := subF x 3 w ha; rw [NF_3] at this; exact this
theorem built59_3 : Tryd.prog.built 50 [(0, .int .u64 3)] = some #[.int .u64 3, .int .u64 0, .int .u64 0, .int .u64 0] := by kernel_rfl
theorem built59_1 : Tryd.prog.built 50 [(0, .int .u64 1)] = some #[.int .u64 1, .int .u64 0, .int .u64 0, .int .u64 0] := by kernel_rfl
theorem built67_1 (x y : F) : Tryd.prog.built 70 [(0, NF x), (1, NF y), (2, .agg #[.int .u64 1, .int .u64 0, .int .u64 0, .int .u64 0])] = some #[.int .u64 (lv x 0 : Nat), .int .u64 (lv x 1 : Nat), .int .u64 (lv x 2 : Nat), .int .u64 (lv x 3 : Nat), .int .u64 (lv y 0 : Nat), .int .u64 (lv y 1 : Nat), .int .u64 (lv y 2 : Nat), .int .u64 (lv y 3 : Nat), .int .u64 (lv 1 0 : Nat), .int .u64 (lv 1 1 : Nat), .int .u64 (lv 1 2 : Nat), .int .u64 (lv 1 3 : Nat)] := by
  rw [← NF_1]; exact built67_3 x y 1
theorem built24_2 (x y : Nat) : Tryd.prog.built 26 [(0, B32 x), (1, B32 y)] = some #[.int .u8 (byt x 0 : Nat), .int .u8 (byt x 1 : Nat), .int .u8 (byt x 2 : Nat), .int .u8 (byt x 3 : Nat), .int .u8 (byt x 4 : Nat), .int .u8 (byt x 5 : Nat), .int .u8 (byt x 6 : Nat), .int .u8 (byt x 7 : Nat), .int .u8 (byt x 8 : Nat), .int .u8 (byt x 9 : Nat), .int .u8 (byt x 10 : Nat), .int .u8 (byt x 11 : Nat), .int .u8 (byt x 12 : Nat), .int .u8 (byt x 13 : Nat), .int .u8 (byt x 14 : Nat), .int .u8 (byt x 15 : Nat), .int .u8 (byt x 16 : Nat), .int .u8 (byt x 17 : Nat), .int .u8 (byt x 18 : Nat), .int .u8 (byt x 19 : Nat), .int .u8 (byt x 20 : Nat), .int .u8 (byt x 21 : Nat), .int .u8 (byt x 22 : Nat), .int .u8 (byt x 23 : Nat), .int .u8 (byt x 24 : Nat), .int .u8 (byt x 25 : Nat), .int .u8 (byt x 26 : Nat), .int .u8 (byt x 27 : Nat), .int .u8 (byt x 28 : Nat), .int .u8 (byt x 29 : Nat), .int .u8 (byt x 30 : Nat), .int .u8 (byt x 31 : Nat), .int .u8 (byt y 0 : Nat), .int .u8 (byt y 1 : Nat), .int .u8 (byt y 2 : Nat), .int .u8 (byt y 3 : Nat), .int .u8 (byt y 4 : Nat), .int .u8 (byt y 5 : Nat), .int .u8 (byt y 6 : Nat), .int .u8 (byt y 7 : Nat), .int .u8 (byt y 8 : Nat), .int .u8 (byt y 9 : Nat), .int .u8 (byt y 10 : Nat), .int .u8 (byt y 11 : Nat), .int .u8 (byt y 12 : Nat), .int .u8 (byt y 13 : Nat), .int .u8 (byt y 14 : Nat), .int .u8 (byt y 15 : Nat), .int .u8 (byt y 16 : Nat), .int .u8 (byt y 17 : Nat), .int .u8 (byt y 18 : Nat), .int .u8 (byt y 19 : Nat), .int .u8 (byt y 20 : Nat), .int .u8 (byt y 21 : Nat), .int .u8 (byt y 22 : Nat), .int .u8 (byt y 23 : Nat), .int .u8 (byt y 24 : Nat), .int .u8 (byt y 25 : Nat), .int .u8 (byt y 26 : Nat), .int .u8 (byt y 27 : Nat), .int .u8 (byt y 28 : Nat), .int .u8 (byt y 29 : Nat), .int .u8 (byt y 30 : Nat), .int .u8 (byt y 31 : Nat)] := by kernel_rfl
theorem built62 (g : Nat) : Tryd.prog.built 45 [(0, .pointer (some ⟨g, 0, none⟩))] = some #[.pointer (some ⟨g, 0, none⟩)] := by kernel_rfl
theorem unV_map (l : List Value) : unV (l.map SV.v) = some l := by
  induction l with
  | nil => rfl
  | cons a l ih => simp only [List.map_cons, unV, ih]
theorem at_own {w0 w : World} {s : VS} {rd : List Nat} {ρ : Nat → Nat} {id ty m : Nat} (hs : Sees w0 s rd ρ w) (hid : id ∈ rd) (hm : s.mem id = some ((modc m).map SV.v, ty)) : At w (ρ id) m :=
  sees_cells hs hid hm 0 (modc m) (by rw [List.drop_zero]; show unV (((modc m).map SV.v).take (modc m).length) = _; rw [List.take_of_length_le (by simp)]; exact unV_map _)
end Go.Proofs.YtafbhakmkbehiaaDoor
end
section
namespace Go.Proofs.YtafbhakmkbehiaaDoor
open Go.RowKit Go.Toll TollMont
open TollEc (F pp cb Jp Pt)
set_option maxHeartbeats 4000000
set_option maxRecDepth 100000
theorem on_x {b : Nat} {x y : Nat} (hx : x < R) (hy : y < R) (w : World) (_ha : At w b pp) (hL : Laid w) (h : ¬ x < pp) : Calls Tryd.prog 16 #[FV b, PT x y] w fun e w' => e = .returned (.bool false) ∧ Gw w w' := by
 go_enter Tryd.func16, Tryd.ntmps16
 refine ve_go ?_
 simp only [List.map_cons, List.map_nil]
 iterate 8 refine t_k2 ?_
 refine t_23 ?_
 refine t_19 ?_
 refine t_s2 (by exact ev_call rfl (gn rfl) rfl (en_of Tryd.func20 (by kernel_rfl) rfl) (fun w' hw' => ofN x hx w')) ?_
 refine t_23 ?_
 refine t_19 ?_
 refine t_s2 (by exact ev_call rfl (gn rfl) rfl (en_of Tryd.func20 (by kernel_rfl) rfl) (fun w' hw' => ofN y hy w')) ?_
 iterate 2 refine t_13 ?_
 iterate 2 refine t_11 ?_
 iterate 4 refine t_k ?_
 refine t_0 ?_
 refine t_67 ?_
 refine t_s2 (by exact ev_call (v := .bool false) rfl (gn rfl) rfl (en_of Tryd.func42 (by kernel_rfl) rfl) (fun w' hw' => less_f hx h w')) ?_
 iterate 2 refine t_k2 ?_
 iterate 2 refine t_20 ?_
 refine t_47 ?_
 refine t_s2 (by first | exact Ev.skip (fun _ => rfl) | exact ev_not rfl (fun _ => rfl) rfl) ?_
 iterate 7 refine t_k2 ?_
 refine vret ?_
 refine post_ret (res1 Tryd.results16 (rv_tmp rfl)) ?_
 intro w' hg
 exact ⟨rfl, hg⟩
theorem on_y {b : Nat} {x y : Nat} (hx : x < R) (hy : y < R) (w : World) (_ha : At w b pp) (hL : Laid w) (h : x < pp) (h2 : ¬ y < pp) : Calls Tryd.prog 16 #[FV b, PT x y] w fun e w' => e = .returned (.bool false) ∧ Gw w w' := by
 go_enter Tryd.func16, Tryd.ntmps16
 refine ve_go ?_
 simp only [List.map_cons, List.map_nil]
 iterate 8 refine t_k2 ?_
 refine t_23 ?_
 refine t_19 ?_
 refine t_s2 (by exact ev_call rfl (gn rfl) rfl (en_of Tryd.func20 (by kernel_rfl) rfl) (fun w' hw' => ofN x hx w')) ?_
 refine t_23 ?_
 refine t_19 ?_
 refine t_s2 (by exact ev_call rfl (gn rfl) rfl (en_of Tryd.func20 (by kernel_rfl) rfl) (fun w' hw' => ofN y hy w')) ?_
 iterate 2 refine t_13 ?_
 iterate 2 refine t_11 ?_
 iterate 4 refine t_k ?_
 refine t_0 ?_
 refine t_67 ?_
 refine t_s2 (by exact ev_call (v := .bool true) rfl (gn rfl) rfl (en_of Tryd.func42 (by kernel_rfl) rfl) (fun w' hw' => less_t hx h w')) ?_
 iterate 2 refine t_k2 ?_
 refine t_20 ?_
 refine t_s2 (by first | exact Ev.skip (fun _ => rfl) | exact ev_loadx rfl (fun _ => rfl) rfl Tryd.underlying50 rfl Tryd.sizeOf50 (hL.pp) rfl) ?_
 refine t_s2 (by first | exact Ev.skip (fun _ => rfl) | exact ev_call (v := .bool false) rfl (fun _ => rfl) rfl (en_of Tryd.func42 (by kernel_rfl) rfl) (fun w' hw' => less_f hy h2 w')) ?_
 refine t_s2 (by first | exact Ev.skip (fun _ => rfl) | exact ev_not rfl (fun _ => rfl) rfl) ?_
 iterate 7 refine t_k2 ?_
 refine vret ?_
 refine post_ret (res1 Tryd.results16 (rv_tmp rfl)) ?_
 intro w' hg
 exact ⟨rfl, hg⟩
theorem on_f {b : Nat} (x y : F) (w : World) (ha : At w b pp) (hL : Laid w) : Calls Tryd.prog 16 #[FV b, PT x.val y.val] w fun e w' => e = .returned (.bool (decide (y * y = (x * x - 3) * x + cb))) ∧ Gw w w' := by
 go_enter Tryd.func16, Tryd.ntmps16
 refine ve_go ?_
 simp only [List.map_cons, List.map_nil]
 iterate 8 refine t_k2 ?_
 refine t_23 ?_
 refine t_19 ?_
 refine t_s2 (by exact ev_call rfl (gn rfl) rfl (en_of Tryd.func20 (by kernel_rfl) rfl) (fun w' hw' => ofF x w')) ?_
 refine t_23 ?_
 refine t_19 ?_
 refine t_s2 (by exact ev_call rfl (gn rfl) rfl (en_of Tryd.func20 (by kernel_rfl) rfl) (fun w' hw' => ofF y w')) ?_
 iterate 2 refine t_13 ?_
 iterate 2 refine t_11 ?_
 iterate 4 refine t_k ?_
 refine t_0 ?_
 refine t_67 ?_
 refine t_s2 (by exact ev_call (v := .bool true) rfl (gn rfl) rfl (en_of Tryd.func42 (by kernel_rfl) rfl) (fun w' hw' => less_t (val_lt x) x.isLt w')) ?_
 iterate 2 refine t_k2 ?_
 refine t_20 ?_
 refine t_s2 (by first | exact Ev.skip (fun _ => rfl) | exact ev_loadx rfl (fun _ => rfl) rfl Tryd.underlying50 rfl Tryd.sizeOf50 (hL.pp) rfl) ?_
 refine t_s2 (by first | exact Ev.skip (fun _ => rfl) | exact ev_call (v := .bool true) rfl (fun _ => rfl) rfl (en_of Tryd.func42 (by kernel_rfl) rfl) (fun w' hw' => less_t (val_lt y) y.isLt w')) ?_
 refine t_s2 (by first | exact Ev.skip (fun _ => rfl) | exact ev_not rfl (fun _ => rfl) rfl) ?_
 iterate 6 refine t_k2 ?_
 refine t_6 ?_
 refine t_2 ?_
 refine t_6 ?_
 refine t_2 ?_
 refine t_6 ?_
 refine t_2 ?_
 refine t_6 ?_
 refine t_2 ?_
 iterate 2 refine t_0 ?_
 refine t_65 ?_
 refine t_s2 (by exact ev_build rfl (gn rfl) rfl built59_3) ?_
 refine t_s2 (by exact ev_call rfl (gn rfl) rfl (en_of Tryd.func44 (by kernel_rfl) rfl) (fun w' hw' => subF3 _ w' (ha.gw hw'))) ?_
 refine t_0 ?_
 refine t_65 ?_
 refine t_s2 (by exact ev_loadx rfl (gn rfl) rfl Tryd.underlying50 rfl Tryd.sizeOf50 (hL.cb) rfl) ?_
 refine t_s2 (by exact ev_call rfl (gn rfl) rfl (en_of Tryd.func43 (by kernel_rfl) rfl) (fun w' hw' => addF _ cb w' (ha.gw hw'))) ?_
 refine t_13 ?_
 refine t_11 ?_
 iterate 3 refine t_k ?_
 refine t_6 ?_
 refine t_2 ?_
 iterate 2 refine t_0 ?_
 refine t_65 ?_
 refine t_0 ?_
 refine t_s2 (by exact ev_bin rfl (gn rfl) rfl rfl (fun w => eqF _ _ _ _ w)) ?_
 iterate 2 refine t_k2 ?_
 refine vret ?_
 refine post_ret (res1 Tryd.results16 (rv_tmp rfl)) ?_
 intro w' hg
 exact ⟨rfl, hg⟩
theorem lift_no {b : Nat} {x y : Nat} (w : World) (hon : ∀ w', Gw w w' → Calls Tryd.prog 16 #[FV b, PT x y] w' fun e w'' => e = .returned (.bool false) ∧ Gw w' w'') : Calls Tryd.prog 37 #[FV b, PT x y] w fun e w' => e = .returned (TF ⟨0, 0, 0⟩) ∧ Gw w w' := by
 go_enter Tryd.func37, Tryd.ntmps37
 refine ve_go ?_
 simp only [List.map_cons, List.map_nil]
 iterate 4 refine t_k2 ?_
 refine t_36 ?_
 iterate 4 refine t_k ?_
 refine t_16 ?_
 refine t_28 ?_
 refine t_s2 (by exact ev_call rfl (gn rfl) rfl (en_of Tryd.func16 (by kernel_rfl) rfl) (fun w' hw' => hon w' hw')) ?_
 iterate 5 refine t_k2 ?_
 refine t_s2 (by exact ev_build rfl (gn rfl) rfl (built67_0)) ?_
 refine t_27 ?_
 refine t_k ?_
 refine vret ?_
 refine post_ret (res1 Tryd.results37 (rv_cell rfl rfl Tryd.underlying70 rfl Tryd.sizeOf70 rfl rfl)) ?_
 intro w' hg
 exact ⟨rfl, hg⟩
theorem lift_yes {b : Nat} (x y : F) (w : World) (hon : ∀ w', Gw w w' → Calls Tryd.prog 16 #[FV b, PT x.val y.val] w' fun e w'' => e = .returned (.bool true) ∧ Gw w' w'') : Calls Tryd.prog 37 #[FV b, PT x.val y.val] w fun e w' => e = .returned (TF ⟨x, y, 1⟩) ∧ Gw w w' := by
 go_enter Tryd.func37, Tryd.ntmps37
 refine ve_go ?_
 simp only [List.map_cons, List.map_nil]
 iterate 4 refine t_k2 ?_
 refine t_36 ?_
 iterate 4 refine t_k ?_
 refine t_16 ?_
 refine t_28 ?_
 refine t_s2 (by exact ev_call rfl (gn rfl) rfl (en_of Tryd.func16 (by kernel_rfl) rfl) (fun w' hw' => hon w' hw')) ?_
 iterate 6 refine t_k2 ?_
 refine t_23 ?_
 refine t_19 ?_
 refine t_s2 (by exact ev_call rfl (gn rfl) rfl (en_of Tryd.func20 (by kernel_rfl) rfl) (fun w' hw' => ofF x w')) ?_
 refine t_23 ?_
 refine t_19 ?_
 refine t_s2 (by exact ev_call rfl (gn rfl) rfl (en_of Tryd.func20 (by kernel_rfl) rfl) (fun w' hw' => ofF y w')) ?_
 refine t_s2 (by exact ev_build rfl (gn rfl) rfl built59_1) ?_
 refine t_s2 (by exact ev_build rfl (gn rfl) rfl (built67_1 _ _)) ?_
 refine t_27 ?_
 refine t_k ?_
 refine vret ?_
 refine post_ret (res1 Tryd.results37 (rv_cell rfl rfl Tryd.underlying70 rfl Tryd.sizeOf70 rfl rfl)) ?_
 intro w' hg
 exact ⟨rfl, hg⟩
theorem drop_inf {b : Nat} (x y : F) (w : World) (ha : At w b pp) : Calls Tryd.prog 35 #[FV b, TF ⟨x, y, 0⟩] w fun e w' => e = .returned (PT 0 0) ∧ Gw w w' := by
 go_enter Tryd.func35, Tryd.ntmps35
 refine ve_go ?_
 simp only [List.map_cons, List.map_nil]
 iterate 4 refine t_k2 ?_
 refine t_75 ?_
 iterate 3 refine t_k ?_
 refine t_6 ?_
 refine t_2 ?_
 refine t_7 ?_
 refine t_0 ?_
 refine t_s2 (by exact ev_call rfl (gn rfl) rfl (en_of Tryd.func19 (by kernel_rfl) rfl) (fun w' hw' => invF_no w' (ha.gw hw'))) ?_
 iterate 3 refine t_k2 ?_
 refine t_13 ?_
 refine t_11 ?_
 iterate 6 refine t_k2 ?_
 refine t_s2 (by refine ev_pure' (gn rfl) (fun ρ w => by simp only [VS.act, SV.c, List.map_cons, List.map_nil]; go_simp; exact rfl) (fun _ _ => rfl)) ?_
 iterate 4 refine t_k ?_
 refine t_s2 (by exact ev_build rfl (gn rfl) rfl (built24_0)) ?_
 refine t_44 ?_
 refine t_k ?_
 refine vret ?_
 refine post_ret (res1 Tryd.results35 (rv_cell rfl rfl Tryd.underlying26 rfl Tryd.sizeOf26 rfl rfl)) ?_
 intro w' hg
 exact ⟨rfl, hg⟩
theorem drop_aff {b : Nat} (x y z i ii u v iii : F) (w : World) (ha : At w b pp) (hi : z * i = 1) (e1 : i * i = ii) (e2 : x * ii = u) (e3 : i * ii = iii) (e4 : y * iii = v) : Calls Tryd.prog 35 #[FV b, TF ⟨x, y, z⟩] w fun e w' => e = .returned (PT u.val v.val) ∧ Gw w w' := by
 go_enter Tryd.func35, Tryd.ntmps35
 refine ve_go ?_
 simp only [List.map_cons, List.map_nil]
 iterate 4 refine t_k2 ?_
 refine t_75 ?_
 iterate 3 refine t_k ?_
 refine t_6 ?_
 refine t_2 ?_
 refine t_7 ?_
 refine t_0 ?_
 refine t_s2 (by exact ev_call rfl (gn rfl) rfl (en_of Tryd.func19 (by kernel_rfl) rfl) (fun w' hw' => invF_ok hi w' (ha.gw hw'))) ?_
 iterate 3 refine t_k2 ?_
 refine t_13 ?_
 refine t_11 ?_
 iterate 6 refine t_k2 ?_
 refine t_s2 (by refine ev_pure' (gn rfl) (fun ρ w => by simp only [VS.act, SV.c, List.map_cons, List.map_nil]; go_simp; exact rfl) (fun _ _ => rfl)) ?_
 iterate 5 refine t_k ?_
 refine t_6 ?_
 refine t_2 ?_
 iterate 2 refine t_0 ?_
 refine t_s2 (by exact ev_call rfl (gn rfl) rfl (en_of Tryd.func21 (by kernel_rfl) rfl) (fun w' hw' => mulE e1 w' (ha.gw hw'))) ?_
 refine t_13 ?_
 refine t_11 ?_
 iterate 3 refine t_k ?_
 refine t_6 ?_
 refine t_2 ?_
 refine t_7 ?_
 iterate 2 refine t_0 ?_
 refine t_s2 (by exact ev_call rfl (gn rfl) rfl (en_of Tryd.func21 (by kernel_rfl) rfl) (fun w' hw' => mulE e2 w' (ha.gw hw'))) ?_
 refine t_s2 (by exact ev_call rfl (gn rfl) rfl (en_of Tryd.func22 (by kernel_rfl) rfl) (fun w' hw' => bytesF _ w')) ?_
 refine t_6 ?_
 refine t_2 ?_
 refine t_7 ?_
 refine t_0 ?_
 refine t_6 ?_
 refine t_2 ?_
 iterate 2 refine t_0 ?_
 refine t_s2 (by exact ev_call rfl (gn rfl) rfl (en_of Tryd.func21 (by kernel_rfl) rfl) (fun w' hw' => mulE e3 w' (ha.gw hw'))) ?_
 refine t_s2 (by exact ev_call rfl (gn rfl) rfl (en_of Tryd.func21 (by kernel_rfl) rfl) (fun w' hw' => mulE e4 w' (ha.gw hw'))) ?_
 refine t_s2 (by exact ev_call rfl (gn rfl) rfl (en_of Tryd.func22 (by kernel_rfl) rfl) (fun w' hw' => bytesF _ w')) ?_
 refine t_s2 (by exact ev_build rfl (gn rfl) rfl (built24_2 _ _)) ?_
 refine t_44 ?_
 refine t_k ?_
 refine vret ?_
 refine post_ret (res1 Tryd.results35 (rv_cell rfl rfl Tryd.underlying26 rfl Tryd.sizeOf26 rfl rfl)) ?_
 intro w' hg
 exact ⟨rfl, hg⟩
theorem newField_ok (w : World) (hL : Laid w) : Calls Tryd.prog 15 #[] w fun e w' => ∃ g, w.heap.size ≤ g ∧ e = .returned (.agg #[.pointer (some ⟨g, 0, none⟩)]) ∧ w'.heap[g]? = some (.cells (modc pp).toArray 80 (0, 0)) ∧ Gw w w' := by
 go_enter Tryd.func15, Tryd.ntmps15
 refine ve_go ?_
 simp only [List.map_cons, List.map_nil]
 iterate 2 refine t_k ?_
 refine t_s2 (by exact ev_alloc rfl rfl (gn rfl) Tryd.zeroValue45) ?_
 iterate 3 refine t_k ?_
 refine t_67 ?_
 refine t_s2 (by exact ev_callnew rfl rfl (gn rfl) rfl (en_of Tryd.func41 (by kernel_rfl) rfl) (modc pp) 80 (fun w' _ => new_ok mdp w')) ?_
 refine t_k2 ?_
 refine t_s2 (by exact ev_extract_p rfl (gn rfl) rfl) ?_
 refine t_s2 (by exact ev_extract_y rfl (gn rfl) rfl) ?_
 iterate 6 refine t_k2 ?_
 refine t_s2 (by exact ev_buildap rfl (gn rfl) rfl (fun g => built62 g)) ?_
 refine t_s2 (by exact ev_storeap rfl (gn rfl) rfl rfl rfl Tryd.sizeOf45 (by simp)) ?_
 refine t_k ?_
 refine vret ?_
 refine post_newf (id := 5) Tryd.results15 rfl rfl Tryd.underlying45 rfl Tryd.sizeOf45 rfl rfl (unV_map _) ?_
 intro g w' h1 h2 h3
 exact ⟨g, h1, rfl, h2, h3⟩
theorem base_ok (w : World) (hL : Laid w) : Calls Tryd.prog 13 #[] w fun e w' => e = .returned (PT TollEc.bx.val TollEc.bY.val) ∧ Gw w w' := by
 go_enter Tryd.func13, Tryd.ntmps13
 refine ve_go ?_
 simp only [List.map_cons, List.map_nil]
 iterate 2 refine t_k ?_
 refine t_75 ?_
 iterate 3 refine t_k ?_
 refine t_s2 (by exact ev_loadx rfl (gn rfl) rfl Tryd.underlying50 rfl Tryd.sizeOf50 (hL.bx) rfl) ?_
 refine t_s2 (by exact ev_call rfl (gn rfl) rfl (en_of Tryd.func22 (by kernel_rfl) rfl) (fun w' hw' => bytesF TollEc.bx w')) ?_
 refine t_s2 (by exact ev_loadx rfl (gn rfl) rfl Tryd.underlying50 rfl Tryd.sizeOf50 (hL.bY) rfl) ?_
 refine t_s2 (by exact ev_call rfl (gn rfl) rfl (en_of Tryd.func22 (by kernel_rfl) rfl) (fun w' hw' => bytesF TollEc.bY w')) ?_
 refine t_s2 (by exact ev_build rfl (gn rfl) rfl (built24_2 _ _)) ?_
 refine t_44 ?_
 refine t_k ?_
 refine vret ?_
 refine post_ret (res1 Tryd.results13 (rv_cell rfl rfl Tryd.underlying26 rfl Tryd.sizeOf26 rfl rfl)) ?_
 intro w' hg
 exact ⟨rfl, hg⟩
theorem order_ok (w : World) (hL : Laid w) : Calls Tryd.prog 45 #[] w fun e w' => e = .returned (B32 TollEc.nn) ∧ Gw w w' := by
 go_enter Tryd.func45, Tryd.ntmps45
 refine ve_go ?_
 simp only [List.map_cons, List.map_nil]
 iterate 2 refine t_k ?_
 refine t_s2 (by exact ev_alloc rfl rfl (gn rfl) Tryd.zeroValue23) ?_
 iterate 3 refine t_k ?_
 refine t_s2 (by exact ev_loadx rfl (gn rfl) rfl Tryd.underlying50 rfl Tryd.sizeOf50 (hL.nn) rfl) ?_
 refine t_s2 (by exact ev_call rfl (gn rfl) rfl (en_of Tryd.func22 (by kernel_rfl) rfl) (fun w' hw' => bytesN TollEc.nn w')) ?_
 refine t_s2 (by exact ev_store rfl (gn rfl) rfl rfl rfl Tryd.sizeOf23 rfl (by simp) rfl) ?_
 refine t_k ?_
 refine vret ?_
 refine post_ret (res1 Tryd.results45 (rv_cell rfl rfl Tryd.underlying23 rfl Tryd.sizeOf23 rfl rfl)) ?_
 intro w' hg
 exact ⟨rfl, hg⟩
end Go.Proofs.YtafbhakmkbehiaaDoor
end
section
namespace Go.Proofs.YtafbhakmkbehiaaDoor
open Go.RowKit Go.Toll TollMont
open TollEc (F pp cb Jp Pt jdouble jadd)
set_option maxRecDepth 100000
theorem eq_items2 {P : Program} {e : TypeId} {k k' : IntKind} (he : P.underlying e = some (.int k')) (d : Nat) (zs ys : List Int) (w : World) : ∀ (is : List Nat), (∀ j ∈ is, j < zs.length ∧ j < ys.length) →
    (Op.eqItems (d + 1) e 1 (zs.map (Value.int k)).toArray (ys.map (Value.int k)).toArray is).run P w = .ok (is.all fun j => zs.getD j 0 == ys.getD j 0) w
  | [], _ => by simp [Op.eqItems]
  | j :: is, h => by
    obtain ⟨hz, hy⟩ := h j (by simp)
    have hp : (part e (zs.map (Value.int k)).toArray (j * 1)).run P w = .ok (.int k zs[j]) w := by
      simp [part, run_isAgg he, isAggD, hz]
    have hq : (part e (ys.map (Value.int k)).toArray (j * 1)).run P w = .ok (.int k ys[j]) w := by
      simp [part, run_isAgg he, isAggD, hy]
    have hi := run_equalIn_int w d e k k' zs[j] ys[j] he
    have ih := eq_items2 (k := k) he d zs ys w is fun i hi => h i (by simp [hi])
    simp only [Op.eqItems, Sem.run_bind, hp, hq, Result.andThen_ok, hi, List.all_cons, List.getD_eq_getElem?_getD, List.getElem?_eq_getElem hz, List.getElem?_eq_getElem hy, Option.getD_some]
    by_cases hc : zs[j] = ys[j]
    · simp only [hc, beq_self_eq_true, Bool.not_true, Bool.false_eq_true, if_false, Bool.true_and]
      simpa only [List.getD_eq_getElem?_getD] using ih
    · simp [hc]
def blist (n : Nat) : List Int := (List.range 32).map fun i => ((byt n i : Nat) : Int)
theorem bytes8_inj {a c : Nat} (ha : a < W) (hc : c < W) (h : ∀ i, i < 8 → a / 2 ^ (56 - 8 * i) % 256 = c / 2 ^ (56 - 8 * i) % 256) : a = c := by
  have h0 : a / 72057594037927936 % 256 = c / 72057594037927936 % 256 := h 0 (by decide)
  have h1 : a / 281474976710656 % 256 = c / 281474976710656 % 256 := h 1 (by decide)
  have h2 : a / 1099511627776 % 256 = c / 1099511627776 % 256 := h 2 (by decide)
  have h3 : a / 4294967296 % 256 = c / 4294967296 % 256 := h 3 (by decide)
  have h4 : a / 16777216 % 256 = c / 16777216 % 256 := h 4 (by decide)
  have h5 : a / 65536 % 256 = c / 65536 % 256 := h 5 (by decide)
  have h6 : a / 256 % 256 = c / 256 % 256 := h 6 (by decide)
  have h7 : a / 1 % 256 = c / 1 % 256 := h 7 (by decide)
  simp only [W] at ha hc
  clear h
  omega
theorem bytes_inj {x y : Nat} (hx : x < R) (hy : y < R) (h : ∀ i, i < 32 → byt x i = byt y i) : x = y := by
  have g : ∀ g, g < 4 → lim x (3 - g) = lim y (3 - g) := fun g hg => by
    refine bytes8_inj (lim_lt _ _) (lim_lt _ _) fun i hi => ?_
    have := h (8 * g + i) (by omega)
    unfold byt at this
    rwa [show (8 * g + i) / 8 = g by omega, show (8 * g + i) % 8 = i by omega] at this
  exact lim_inj hx hy (g 3 (by omega)) (g 2 (by omega)) (g 1 (by omega)) (g 0 (by omega))
theorem eqB_all {x y : Nat} (hx : x < R) (hy : y < R) : ((List.range 32).all fun j => (blist x).getD j 0 == (blist y).getD j 0) = decide (x = y) := by
  rw [Bool.eq_iff_iff, List.all_eq_true, decide_eq_true_iff]
  constructor
  · intro h
    refine bytes_inj hx hy fun i hi => ?_
    have := h i (by simpa using hi)
    simp [blist, hi] at this
    omega
  · rintro rfl i _
    exact beq_self_eq_true _
theorem eqB2 (d : Nat) {x y : Nat} (hx : x < R) (hy : y < R) (w : World) : (Op.equalIn (d + 2) 23 (.agg #[.int .u8 (byt x 0 : Nat), .int .u8 (byt x 1 : Nat), .int .u8 (byt x 2 : Nat), .int .u8 (byt x 3 : Nat), .int .u8 (byt x 4 : Nat), .int .u8 (byt x 5 : Nat), .int .u8 (byt x 6 : Nat), .int .u8 (byt x 7 : Nat), .int .u8 (byt x 8 : Nat), .int .u8 (byt x 9 : Nat), .int .u8 (byt x 10 : Nat), .int .u8 (byt x 11 : Nat), .int .u8 (byt x 12 : Nat), .int .u8 (byt x 13 : Nat), .int .u8 (byt x 14 : Nat), .int .u8 (byt x 15 : Nat), .int .u8 (byt x 16 : Nat), .int .u8 (byt x 17 : Nat), .int .u8 (byt x 18 : Nat), .int .u8 (byt x 19 : Nat), .int .u8 (byt x 20 : Nat), .int .u8 (byt x 21 : Nat), .int .u8 (byt x 22 : Nat), .int .u8 (byt x 23 : Nat), .int .u8 (byt x 24 : Nat), .int .u8 (byt x 25 : Nat), .int .u8 (byt x 26 : Nat), .int .u8 (byt x 27 : Nat), .int .u8 (byt x 28 : Nat), .int .u8 (byt x 29 : Nat), .int .u8 (byt x 30 : Nat), .int .u8 (byt x 31 : Nat)]) (.agg #[.int .u8 (byt y 0 : Nat), .int .u8 (byt y 1 : Nat), .int .u8 (byt y 2 : Nat), .int .u8 (byt y 3 : Nat), .int .u8 (byt y 4 : Nat), .int .u8 (byt y 5 : Nat), .int .u8 (byt y 6 : Nat), .int .u8 (byt y 7 : Nat), .int .u8 (byt y 8 : Nat), .int .u8 (byt y 9 : Nat), .int .u8 (byt y 10 : Nat), .int .u8 (byt y 11 : Nat), .int .u8 (byt y 12 : Nat), .int .u8 (byt y 13 : Nat), .int .u8 (byt y 14 : Nat), .int .u8 (byt y 15 : Nat), .int .u8 (byt y 16 : Nat), .int .u8 (byt y 17 : Nat), .int .u8 (byt y 18 : Nat), .int .u8 (byt y 19 : Nat), .int .u8 (byt y 20 : Nat), .int .u8 (byt y 21 : Nat), .int .u8 (byt y 22 : Nat), .int .u8 (byt y 23 : Nat), .int .u8 (byt y 24 : Nat), .int .u8 (byt y 25 : Nat), .int .u8 (byt y 26 : Nat), .int .u8 (byt y 27 : Nat), .int .u8 (byt y 28 : Nat), .int .u8 (byt y 29 : Nat), .int .u8 (byt y 30 : Nat), .int .u8 (byt y 31 : Nat)])).run Tryd.prog w = .ok (decide (x = y)) w := by
  have h := eq_items2 (k := .u8) Tryd.underlying5 d (blist x) (blist y) w (List.range 32) (by intro j hj; simp [blist] at *; exact hj)
  rw [eqB_all hx hy] at h
  show (Op.equalIn (d + 2) 23 (.agg ((blist x).map (Value.int .u8)).toArray) (.agg ((blist y).map (Value.int .u8)).toArray)).run Tryd.prog w = _
  rw [run_equalIn_array w (d + 1) _ _ Tryd.underlying23 (i := Tryd.prog.types[5]) rfl, show Tryd.prog.cellsOf 5 = 1 by kernel_rfl]
  exact h
theorem eq_b32 {x y : Nat} (hx : x < R) (hy : y < R) (p q : Operand) (w : World) : (do eqGuard .eql 23 p q (B32 x) (B32 y); binOp .eql 23 (B32 x) (B32 y) : Sem Value).run Tryd.prog w = .ok (.bool (decide (x = y))) w := by
  unfold B32
  go_simp
  rw [eqB2 _ hx hy]
  rfl
theorem eq_pt {x y x' y' : Nat} (hx : x < R) (hy : y < R) (hx' : x' < R) (hy' : y' < R) (p q : Operand) (w : World) : (do eqGuard .eql 26 p q (PT x y) (PT x' y'); binOp .eql 26 (PT x y) (PT x' y') : Sem Value).run Tryd.prog w = .ok (.bool (decide (x = x' ∧ y = y'))) w := by
  unfold PT
  go_simp
  rw [eqB2 _ hx hx']
  by_cases h : x = x'
  · simp [h, eqB2 _ hy hy', Result.andThen]
    by_cases h2 : y = y' <;> simp [h2]
  · simp [h, Result.andThen]
def onF (x y : F) : Bool := decide (y * y = (x * x - 3) * x + cb)
theorem onF_iff {x y : F} : onF x y = true ↔ TollEc.onE x y := by
  unfold onF TollEc.onE
  rw [decide_eq_true_iff, show (x * x - 3) * x + cb = x * x * x - 3 * x + cb by grind -lia]
def onB (x y : Nat) : Bool := if h : x < pp ∧ y < pp then onF ⟨x, h.1⟩ ⟨y, h.2⟩ else false
theorem on_ok {b x y : Nat} (hx : x < R) (hy : y < R) (w : World) (ha : At w b pp) (hL : Laid w) : Calls Tryd.prog 16 #[FV b, PT x y] w fun e w' => e = .returned (.bool (onB x y)) ∧ Gw w w' := by
  by_cases h1 : x < pp
  · by_cases h2 : y < pp
    · have h := on_f (b := b) ⟨x, h1⟩ ⟨y, h2⟩ w ha hL
      rw [show onB x y = onF ⟨x, h1⟩ ⟨y, h2⟩ from dif_pos ⟨h1, h2⟩]; exact h
    · rw [show onB x y = false from dif_neg (fun c => h2 c.2)]; exact on_y hx hy w ha hL h1 h2
  · rw [show onB x y = false from dif_neg (fun c => h1 c.1)]; exact on_x hx hy w ha hL h1
def toP (x y : Nat) : Pt := if h : x < pp ∧ y < pp then (if onF ⟨x, h.1⟩ ⟨y, h.2⟩ then .aff ⟨x, h.1⟩ ⟨y, h.2⟩ else .inf) else .inf
def liftJ (x y : Nat) : Jp := if h : x < pp ∧ y < pp then (if onF ⟨x, h.1⟩ ⟨y, h.2⟩ then ⟨⟨x, h.1⟩, ⟨y, h.2⟩, 1⟩ else ⟨0, 0, 0⟩) else ⟨0, 0, 0⟩
theorem lift_ok {b x y : Nat} (hx : x < R) (hy : y < R) (w : World) (ha : At w b pp) (hL : Laid w) : Calls Tryd.prog 37 #[FV b, PT x y] w fun e w' => e = .returned (TF (liftJ x y)) ∧ Gw w w' := by
  have hon := fun (w' : World) (hw : Gw w w') => on_ok hx hy w' (ha.gw hw) (hL.gw hw)
  by_cases h : x < pp ∧ y < pp
  · by_cases h2 : onF ⟨x, h.1⟩ ⟨y, h.2⟩ = true
    · have e : onB x y = true := (dif_pos h).trans h2
      rw [e] at hon
      rw [show liftJ x y = ⟨⟨x, h.1⟩, ⟨y, h.2⟩, 1⟩ from (dif_pos h).trans (if_pos h2)]
      exact lift_yes ⟨x, h.1⟩ ⟨y, h.2⟩ w hon
    · have e : onB x y = false := (dif_pos h).trans (by simpa using h2)
      rw [e] at hon
      rw [show liftJ x y = ⟨0, 0, 0⟩ from (dif_pos h).trans (if_neg h2)]
      exact lift_no w hon
  · have e : onB x y = false := dif_neg h
    rw [e] at hon
    rw [show liftJ x y = ⟨0, 0, 0⟩ from dif_neg h]
    exact lift_no w hon
theorem lift_rep (x y : Nat) : (liftJ x y).rep = toP x y := by
  unfold liftJ toP
  split
  · split
    · exact TollEc.rep_one _ _
    · exact TollEc.rep_inf rfl
  · exact TollEc.rep_inf rfl
theorem toP_on (x y : Nat) : (toP x y).on := by
  unfold toP
  split
  · split
    · rename_i h; exact onF_iff.1 h
    · exact True.intro
  · exact True.intro
def xv : Pt → Nat
  | .inf => 0
  | .aff x _ => x.val
def yv : Pt → Nat
  | .inf => 0
  | .aff _ y => y.val
def PV (p : Pt) : Value := PT (xv p) (yv p)
theorem xv_lt (p : Pt) : xv p < R := by cases p with | inf => decide | aff x y => exact val_lt x
theorem yv_lt (p : Pt) : yv p < R := by cases p with | inf => decide | aff x y => exact val_lt y
theorem toP_PV {p : Pt} (h : p.on) : toP (xv p) (yv p) = p := by
  cases p with
  | inf =>
    have : onF ⟨0, by decide⟩ ⟨0, by decide⟩ = false := by decide +kernel
    exact (dif_pos ⟨by decide, by decide⟩).trans (if_neg (fun c => Bool.false_ne_true (this.symm.trans c)))
  | aff x y => exact (dif_pos ⟨x.isLt, y.isLt⟩).trans (if_pos (onF_iff.2 h))
theorem drop_ok {b : Nat} (j : Jp) (w : World) (ha : At w b pp) : Calls Tryd.prog 35 #[FV b, TF j] w fun e w' => e = .returned (PV j.rep) ∧ Gw w w' := by
  obtain ⟨x, y, z⟩ := j
  by_cases h : z = 0
  · subst h
    rw [TollEc.rep_inf rfl]; exact drop_inf x y w ha
  · obtain ⟨i, hi⟩ := TollEc.inv_ex z h
    rw [TollEc.rep_of (j := ⟨x, y, z⟩) hi]
    exact drop_aff x y z i _ _ _ _ w ha hi rfl rfl rfl rfl
end Go.Proofs.YtafbhakmkbehiaaDoor
end
section
namespace Go.Proofs.YtafbhakmkbehiaaDoor
open Go.RowKit Go.Toll TollMont
open TollEc (F pp cb Jp Pt jdouble jadd)
set_option maxHeartbeats 4000000
set_option maxRecDepth 100000
theorem eq_pt0 {x y : Nat} (hx : x = 0) (hy : y = 0) (p q : Operand) (w : World) : (do eqGuard .eql 26 p q (PT x y) (.agg #[.int .u8 0, .int .u8 0, .int .u8 0, .int .u8 0, .int .u8 0, .int .u8 0, .int .u8 0, .int .u8 0, .int .u8 0, .int .u8 0, .int .u8 0, .int .u8 0, .int .u8 0, .int .u8 0, .int .u8 0, .int .u8 0, .int .u8 0, .int .u8 0, .int .u8 0, .int .u8 0, .int .u8 0, .int .u8 0, .int .u8 0, .int .u8 0, .int .u8 0, .int .u8 0, .int .u8 0, .int .u8 0, .int .u8 0, .int .u8 0, .int .u8 0, .int .u8 0, .int .u8 0, .int .u8 0, .int .u8 0, .int .u8 0, .int .u8 0, .int .u8 0, .int .u8 0, .int .u8 0, .int .u8 0, .int .u8 0, .int .u8 0, .int .u8 0, .int .u8 0, .int .u8 0, .int .u8 0, .int .u8 0, .int .u8 0, .int .u8 0, .int .u8 0, .int .u8 0, .int .u8 0, .int .u8 0, .int .u8 0, .int .u8 0, .int .u8 0, .int .u8 0, .int .u8 0, .int .u8 0, .int .u8 0, .int .u8 0, .int .u8 0, .int .u8 0]); binOp .eql 26 (PT x y) (.agg #[.int .u8 0, .int .u8 0, .int .u8 0, .int .u8 0, .int .u8 0, .int .u8 0, .int .u8 0, .int .u8 0, .int .u8 0, .int .u8 0, .int .u8 0, .int .u8 0, .int .u8 0, .int .u8 0, .int .u8 0, .int .u8 0, .int .u8 0, .int .u8 0, .int .u8 0, .int .u8 0, .int .u8 0, .int .u8 0, .int .u8 0, .int .u8 0, .int .u8 0, .int .u8 0, .int .u8 0, .int .u8 0, .int .u8 0, .int .u8 0, .int .u8 0, .int .u8 0, .int .u8 0, .int .u8 0, .int .u8 0, .int .u8 0, .int .u8 0, .int .u8 0, .int .u8 0, .int .u8 0, .int .u8 0, .int .u8 0, .int .u8 0, .int .u8 0, .int .u8 0, .int .u8 0, .int .u8 0, .int .u8 0, .int .u8 0, .int .u8 0, .int .u8 0, .int .u8 0, .int .u8 0, .int .u8 0, .int .u8 0, .int .u8 0, .int .u8 0, .int .u8 0, .int .u8 0, .int .u8 0, .int .u8 0, .int .u8 0, .int .u8 0, .int .u8 0]) : Sem Value).run Tryd.prog w = .ok (.bool true) w := by
  subst hx hy
  have := eq_pt (x := 0) (y := 0) (x' := 0) (y' := 0) (by decide) (by decide) (by decide) (by decide) p q w
  exact this
theorem eq_ptn {x y : Nat} (hx : x < R) (hy : y < R) (h : ¬ (x = 0 ∧ y = 0)) (p q : Operand) (w : World) : (do eqGuard .eql 26 p q (PT x y) (.agg #[.int .u8 0, .int .u8 0, .int .u8 0, .int .u8 0, .int .u8 0, .int .u8 0, .int .u8 0, .int .u8 0, .int .u8 0, .int .u8 0, .int .u8 0, .int .u8 0, .int .u8 0, .int .u8 0, .int .u8 0, .int .u8 0, .int .u8 0, .int .u8 0, .int .u8 0, .int .u8 0, .int .u8 0, .int .u8 0, .int .u8 0, .int .u8 0, .int .u8 0, .int .u8 0, .int .u8 0, .int .u8 0, .int .u8 0, .int .u8 0, .int .u8 0, .int .u8 0, .int .u8 0, .int .u8 0, .int .u8 0, .int .u8 0, .int .u8 0, .int .u8 0, .int .u8 0, .int .u8 0, .int .u8 0, .int .u8 0, .int .u8 0, .int .u8 0, .int .u8 0, .int .u8 0, .int .u8 0, .int .u8 0, .int .u8 0, .int .u8 0, .int .u8 0, .int .u8 0, .int .u8 0, .int .u8 0, .int .u8 0, .int .u8 0, .int .u8 0, .int .u8 0, .int .u8 0, .int .u8 0, .int .u8 0, .int .u8 0, .int .u8 0, .int .u8 0]); binOp .eql 26 (PT x y) (.agg #[.int .u8 0, .int .u8 0, .int .u8 0, .int .u8 0, .int .u8 0, .int .u8 0, .int .u8 0, .int .u8 0, .int .u8 0, .int .u8 0, .int .u8 0, .int .u8 0, .int .u8 0, .int .u8 0, .int .u8 0, .int .u8 0, .int .u8 0, .int .u8 0, .int .u8 0, .int .u8 0, .int .u8 0, .int .u8 0, .int .u8 0, .int .u8 0, .int .u8 0, .int .u8 0, .int .u8 0, .int .u8 0, .int .u8 0, .int .u8 0, .int .u8 0, .int .u8 0, .int .u8 0, .int .u8 0, .int .u8 0, .int .u8 0, .int .u8 0, .int .u8 0, .int .u8 0, .int .u8 0, .int .u8 0, .int .u8 0, .int .u8 0, .int .u8 0, .int .u8 0, .int .u8 0, .int .u8 0, .int .u8 0, .int .u8 0, .int .u8 0, .int .u8 0, .int .u8 0, .int .u8 0, .int .u8 0, .int .u8 0, .int .u8 0, .int .u8 0, .int .u8 0, .int .u8 0, .int .u8 0, .int .u8 0, .int .u8 0, .int .u8 0, .int .u8 0]) : Sem Value).run Tryd.prog w = .ok (.bool false) w := by
  have := eq_pt (x' := 0) (y' := 0) hx hy (by decide) (by decide) p q w
  rw [decide_eq_false h] at this
  exact this
theorem bitN {n k : Nat} (hk : k < 256) (w : World) : Calls Tryd.prog 39 #[N n, .int .i64 (((k + 1 : Nat) : Int) - 1)] w fun e w' => e = .returned (.int .i64 (n / 2 ^ k % 2 : Nat)) ∧ Gw w w' := by
  rw [show ((k + 1 : Nat) : Int) - 1 = (k : Int) by omega]; exact bit_ok n k hk w
theorem lad_t {n k : Nat} {t r : Jp} (hk : k < 256) (hb : n / 2 ^ k % 2 = 1) (hr : r = TollEc.ladder n t (256 - (k + 1))) : jadd (jdouble r) t = TollEc.ladder n t (256 - k) := by
  rw [hr, show 256 - k = (256 - (k + 1)) + 1 by omega]
  show _ = (if n / 2 ^ (255 - (256 - (k + 1))) % 2 = 1 then _ else _)
  rw [show 255 - (256 - (k + 1)) = k by omega, if_pos hb]
theorem lad_f {n k : Nat} {t r : Jp} (hk : k < 256) (hb : ¬ n / 2 ^ k % 2 = 1) (hr : r = TollEc.ladder n t (256 - (k + 1))) : jdouble r = TollEc.ladder n t (256 - k) := by
  rw [hr, show 256 - k = (256 - (k + 1)) + 1 by omega]
  show _ = (if n / 2 ^ (255 - (256 - (k + 1))) % 2 = 1 then _ else _)
  rw [show 255 - (256 - (k + 1)) = k by omega, if_neg hb]
theorem Add_ok {x y x' y' : Nat} (hx : x < R) (hy : y < R) (hx' : x' < R) (hy' : y' < R) (w : World) (hL : Laid w) : Calls Tryd.prog 11 #[PT x y, PT x' y'] w fun e w' => e = .returned (PV (jadd (liftJ x y) (liftJ x' y')).rep) ∧ Gw w w' := by
 go_enter Tryd.func11, Tryd.ntmps11
 refine ve_go ?_
 simp only [List.map_cons, List.map_nil]
 iterate 4 refine t_k2 ?_
 refine t_75 ?_
 iterate 3 refine t_k ?_
 refine t_s2 (by exact ev_callnewf rfl rfl (gn rfl) rfl (en_of Tryd.func15 (by kernel_rfl) rfl) (modc pp) 80 (fun w' hw' => newField_ok w' (hL.gw hw'))) ?_
 refine t_s2 (by exact ev_alloc rfl rfl (gn rfl) Tryd.zeroValue45) ?_
 refine t_s2 (by exact ev_storeap rfl (gn rfl) rfl rfl rfl Tryd.sizeOf45 (by simp)) ?_
 iterate 3 refine t_k ?_
 iterate 3 refine t_34 ?_
 refine t_28 ?_
 refine t_s2 (by exact ev_callp [6] rfl (gn rfl) rfl (en_of Tryd.func37 (by kernel_rfl) rfl) (fun ρ w' hs => lift_ok hx hy w' (at_own hs (by simp) rfl) (hL.gw hs.1))) ?_
 refine t_34 ?_
 refine t_28 ?_
 refine t_s2 (by exact ev_callp [6] rfl (gn rfl) rfl (en_of Tryd.func37 (by kernel_rfl) rfl) (fun ρ w' hs => lift_ok hx' hy' w' (at_own hs (by simp) rfl) (hL.gw hs.1))) ?_
 refine t_s2 (by exact ev_callp [6] rfl (gn rfl) rfl (en_of Tryd.func36 (by kernel_rfl) rfl) (fun ρ w' hs => add_ok2 _ _ w' (at_own hs (by simp) rfl))) ?_
 refine t_s2 (by exact ev_callp [6] rfl (gn rfl) rfl (en_of Tryd.func35 (by kernel_rfl) rfl) (fun ρ w' hs => drop_ok _ w' (at_own hs (by simp) rfl))) ?_
 refine t_44 ?_
 refine t_k ?_
 refine vret ?_
 refine post_ret (res1 Tryd.results11 (rv_cell rfl rfl Tryd.underlying26 rfl Tryd.sizeOf26 rfl rfl)) ?_
 intro w' hg
 exact ⟨rfl, hg⟩
theorem Times_core {n x y : Nat} (hn : n < R) (hx : x < R) (hy : y < R) (w : World) (hL : Laid w) : Calls Tryd.prog 12 #[B32 n, PT x y] w fun e w' => e = .returned (PV (TollEc.ladder n (liftJ x y) 256).rep) ∧ Gw w w' := by
 go_enter Tryd.func12, Tryd.ntmps12
 refine ve_go ?_
 simp only [List.map_cons, List.map_nil]
 iterate 4 refine t_k2 ?_
 refine t_75 ?_
 iterate 3 refine t_k ?_
 refine t_s2 (by exact ev_callnewf rfl rfl (gn rfl) rfl (en_of Tryd.func15 (by kernel_rfl) rfl) (modc pp) 80 (fun w' hw' => newField_ok w' (hL.gw hw'))) ?_
 refine t_s2 (by exact ev_alloc rfl rfl (gn rfl) Tryd.zeroValue45) ?_
 refine t_s2 (by exact ev_storeap rfl (gn rfl) rfl rfl rfl Tryd.sizeOf45 (by simp)) ?_
 iterate 3 refine t_k ?_
 refine t_19 ?_
 refine t_s2 (by exact ev_call rfl (gn rfl) rfl (en_of Tryd.func20 (by kernel_rfl) rfl) (fun w' hw' => ofN n hn w')) ?_
 refine t_34 ?_
 refine t_28 ?_
 refine t_s2 (by exact ev_callp [10] rfl (gn rfl) rfl (en_of Tryd.func37 (by kernel_rfl) rfl) (fun ρ w' hs => lift_ok hx hy w' (at_own hs (by simp) rfl) (hL.gw hs.1))) ?_
 refine t_13 ?_
 refine t_36 ?_
 refine t_11 ?_
 refine t_27 ?_
 iterate 3 refine t_k ?_
 refine t_36 ?_
 iterate 7 refine t_k2 ?_
 obtain ⟨t, ht⟩ : ∃ t, t = liftJ x y := ⟨_, rfl⟩
 rw [← ht]
 refine vloop_inv (fun i s => ∃ (r : Jp), i ≤ 256 ∧ r = TollEc.ladder n t (256 - i) ∧ s.fr = [.v (B32 n), .v (PT x y), .p 2 0, .p 3 0, .p 4 0, .p 5 0, .p 6 0, .p 7 0, .p 8 0, .v (.int .i64 ((i : Int) - 1)), .ap 10 0, s.fr.getD 11 default, s.fr.getD 12 default, s.fr.getD 13 default, s.fr.getD 14 default, s.fr.getD 15 default, s.fr.getD 16 default, s.fr.getD 17 default, s.fr.getD 18 default, s.fr.getD 19 default, s.fr.getD 20 default, s.fr.getD 21 default, s.fr.getD 22 default, s.fr.getD 23 default, s.fr.getD 24 default, s.fr.getD 25 default, s.fr.getD 26 default, s.fr.getD 27 default, s.fr.getD 28 default, s.fr.getD 29 default, s.fr.getD 30 default, s.fr.getD 31 default, s.fr.getD 32 default, s.fr.getD 33 default] ∧ s.mem = memOf [(8, ([.v (.int .u64 (lv r.x 0 : Nat)), .v (.int .u64 (lv r.x 1 : Nat)), .v (.int .u64 (lv r.x 2 : Nat)), .v (.int .u64 (lv r.x 3 : Nat)), .v (.int .u64 (lv r.y 0 : Nat)), .v (.int .u64 (lv r.y 1 : Nat)), .v (.int .u64 (lv r.y 2 : Nat)), .v (.int .u64 (lv r.y 3 : Nat)), .v (.int .u64 (lv r.z 0 : Nat)), .v (.int .u64 (lv r.z 1 : Nat)), .v (.int .u64 (lv r.z 2 : Nat)), .v (.int .u64 (lv r.z 3 : Nat))], 70)), (7, ([.v (.int .u64 (lv t.x 0 : Nat)), .v (.int .u64 (lv t.x 1 : Nat)), .v (.int .u64 (lv t.x 2 : Nat)), .v (.int .u64 (lv t.x 3 : Nat)), .v (.int .u64 (lv t.y 0 : Nat)), .v (.int .u64 (lv t.y 1 : Nat)), .v (.int .u64 (lv t.y 2 : Nat)), .v (.int .u64 (lv t.y 3 : Nat)), .v (.int .u64 (lv t.z 0 : Nat)), .v (.int .u64 (lv t.z 1 : Nat)), .v (.int .u64 (lv t.z 2 : Nat)), .v (.int .u64 (lv t.z 3 : Nat))], 70)), (6, ([.v (.int .u64 (lim n 0 : Nat)), .v (.int .u64 (lim n 1 : Nat)), .v (.int .u64 (lim n 2 : Nat)), .v (.int .u64 (lim n 3 : Nat))], 50)), (5, ([.p 10 0], 45)), (10, ((modc pp).map SV.v, 80)), (4, ([.v (.int .u8 0), .v (.int .u8 0), .v (.int .u8 0), .v (.int .u8 0), .v (.int .u8 0), .v (.int .u8 0), .v (.int .u8 0), .v (.int .u8 0), .v (.int .u8 0), .v (.int .u8 0), .v (.int .u8 0), .v (.int .u8 0), .v (.int .u8 0), .v (.int .u8 0), .v (.int .u8 0), .v (.int .u8 0), .v (.int .u8 0), .v (.int .u8 0), .v (.int .u8 0), .v (.int .u8 0), .v (.int .u8 0), .v (.int .u8 0), .v (.int .u8 0), .v (.int .u8 0), .v (.int .u8 0), .v (.int .u8 0), .v (.int .u8 0), .v (.int .u8 0), .v (.int .u8 0), .v (.int .u8 0), .v (.int .u8 0), .v (.int .u8 0), .v (.int .u8 0), .v (.int .u8 0), .v (.int .u8 0), .v (.int .u8 0), .v (.int .u8 0), .v (.int .u8 0), .v (.int .u8 0), .v (.int .u8 0), .v (.int .u8 0), .v (.int .u8 0), .v (.int .u8 0), .v (.int .u8 0), .v (.int .u8 0), .v (.int .u8 0), .v (.int .u8 0), .v (.int .u8 0), .v (.int .u8 0), .v (.int .u8 0), .v (.int .u8 0), .v (.int .u8 0), .v (.int .u8 0), .v (.int .u8 0), .v (.int .u8 0), .v (.int .u8 0), .v (.int .u8 0), .v (.int .u8 0), .v (.int .u8 0), .v (.int .u8 0), .v (.int .u8 0), .v (.int .u8 0), .v (.int .u8 0), .v (.int .u8 0)], 26)), (3, ([.v (.int .u8 (byt x 0 : Nat)), .v (.int .u8 (byt x 1 : Nat)), .v (.int .u8 (byt x 2 : Nat)), .v (.int .u8 (byt x 3 : Nat)), .v (.int .u8 (byt x 4 : Nat)), .v (.int .u8 (byt x 5 : Nat)), .v (.int .u8 (byt x 6 : Nat)), .v (.int .u8 (byt x 7 : Nat)), .v (.int .u8 (byt x 8 : Nat)), .v (.int .u8 (byt x 9 : Nat)), .v (.int .u8 (byt x 10 : Nat)), .v (.int .u8 (byt x 11 : Nat)), .v (.int .u8 (byt x 12 : Nat)), .v (.int .u8 (byt x 13 : Nat)), .v (.int .u8 (byt x 14 : Nat)), .v (.int .u8 (byt x 15 : Nat)), .v (.int .u8 (byt x 16 : Nat)), .v (.int .u8 (byt x 17 : Nat)), .v (.int .u8 (byt x 18 : Nat)), .v (.int .u8 (byt x 19 : Nat)), .v (.int .u8 (byt x 20 : Nat)), .v (.int .u8 (byt x 21 : Nat)), .v (.int .u8 (byt x 22 : Nat)), .v (.int .u8 (byt x 23 : Nat)), .v (.int .u8 (byt x 24 : Nat)), .v (.int .u8 (byt x 25 : Nat)), .v (.int .u8 (byt x 26 : Nat)), .v (.int .u8 (byt x 27 : Nat)), .v (.int .u8 (byt x 28 : Nat)), .v (.int .u8 (byt x 29 : Nat)), .v (.int .u8 (byt x 30 : Nat)), .v (.int .u8 (byt x 31 : Nat)), .v (.int .u8 (byt y 0 : Nat)), .v (.int .u8 (byt y 1 : Nat)), .v (.int .u8 (byt y 2 : Nat)), .v (.int .u8 (byt y 3 : Nat)), .v (.int .u8 (byt y 4 : Nat)), .v (.int .u8 (byt y 5 : Nat)), .v (.int .u8 (byt y 6 : Nat)), .v (.int .u8 (byt y 7 : Nat)), .v (.int .u8 (byt y 8 : Nat)), .v (.int .u8 (byt y 9 : Nat)), .v (.int .u8 (byt y 10 : Nat)), .v (.int .u8 (byt y 11 : Nat)), .v (.int .u8 (byt y 12 : Nat)), .v (.int .u8 (byt y 13 : Nat)), .v (.int .u8 (byt y 14 : Nat)), .v (.int .u8 (byt y 15 : Nat)), .v (.int .u8 (byt y 16 : Nat)), .v (.int .u8 (byt y 17 : Nat)), .v (.int .u8 (byt y 18 : Nat)), .v (.int .u8 (byt y 19 : Nat)), .v (.int .u8 (byt y 20 : Nat)), .v (.int .u8 (byt y 21 : Nat)), .v (.int .u8 (byt y 22 : Nat)), .v (.int .u8 (byt y 23 : Nat)), .v (.int .u8 (byt y 24 : Nat)), .v (.int .u8 (byt y 25 : Nat)), .v (.int .u8 (byt y 26 : Nat)), .v (.int .u8 (byt y 27 : Nat)), .v (.int .u8 (byt y 28 : Nat)), .v (.int .u8 (byt y 29 : Nat)), .v (.int .u8 (byt y 30 : Nat)), .v (.int .u8 (byt y 31 : Nat))], 26)), (2, ([.v (.int .u8 (byt n 0 : Nat)), .v (.int .u8 (byt n 1 : Nat)), .v (.int .u8 (byt n 2 : Nat)), .v (.int .u8 (byt n 3 : Nat)), .v (.int .u8 (byt n 4 : Nat)), .v (.int .u8 (byt n 5 : Nat)), .v (.int .u8 (byt n 6 : Nat)), .v (.int .u8 (byt n 7 : Nat)), .v (.int .u8 (byt n 8 : Nat)), .v (.int .u8 (byt n 9 : Nat)), .v (.int .u8 (byt n 10 : Nat)), .v (.int .u8 (byt n 11 : Nat)), .v (.int .u8 (byt n 12 : Nat)), .v (.int .u8 (byt n 13 : Nat)), .v (.int .u8 (byt n 14 : Nat)), .v (.int .u8 (byt n 15 : Nat)), .v (.int .u8 (byt n 16 : Nat)), .v (.int .u8 (byt n 17 : Nat)), .v (.int .u8 (byt n 18 : Nat)), .v (.int .u8 (byt n 19 : Nat)), .v (.int .u8 (byt n 20 : Nat)), .v (.int .u8 (byt n 21 : Nat)), .v (.int .u8 (byt n 22 : Nat)), .v (.int .u8 (byt n 23 : Nat)), .v (.int .u8 (byt n 24 : Nat)), .v (.int .u8 (byt n 25 : Nat)), .v (.int .u8 (byt n 26 : Nat)), .v (.int .u8 (byt n 27 : Nat)), .v (.int .u8 (byt n 28 : Nat)), .v (.int .u8 (byt n 29 : Nat)), .v (.int .u8 (byt n 30 : Nat)), .v (.int .u8 (byt n 31 : Nat))], 23))]) ?_ 256 ?_
 rotate_left
 · exact ⟨⟨0, 0, 0⟩, Nat.le_refl _, rfl, rfl, rfl⟩
 rintro i ⟨fr, mm⟩ ⟨r, hi, hr, hfr, hmm⟩
 obtain ⟨f, hf⟩ : ∃ f : Nat → SV, fr = [.v (B32 n), .v (PT x y), .p 2 0, .p 3 0, .p 4 0, .p 5 0, .p 6 0, .p 7 0, .p 8 0, .v (.int .i64 ((i : Int) - 1)), .ap 10 0, f 11, f 12, f 13, f 14, f 15, f 16, f 17, f 18, f 19, f 20, f 21, f 22, f 23, f 24, f 25, f 26, f 27, f 28, f 29, f 30, f 31, f 32, f 33] := ⟨fun i => fr.getD i default, hfr⟩
 clear hfr
 simp only at hmm
 subst hf hmm
 cases i with
 | succ k =>
   have hk : k < 256 := by omega
   have hdn : IntKind.i64.wrap (((k + 1 : Nat) : Int) - 1 - 1) = (k : Int) - 1 := by rw [i64w (by omega) (by omega)]; omega
   have hge : decide ((0 : Int) ≤ ((k + 1 : Nat) : Int) - 1) = true := decide_eq_true (by omega)
   by_cases hb : n / 2 ^ k % 2 = 1
   · have he : decide (((n / 2 ^ k % 2 : Nat) : Int) = 1) = true := decide_eq_true (by omega)
     iterate 4 refine t_k2 ?_
     refine t_s2 (by exact ev_geq (p := true) rfl (gn rfl) rfl rfl hge) ?_
     iterate 7 refine t_k ?_
     refine t_34 ?_
     refine t_21 ?_
     refine t_s2 (by exact ev_callp [10] rfl (gn rfl) rfl (en_of Tryd.func38 (by kernel_rfl) rfl) (fun ρ w' hs => double_ok _ w' (at_own hs (by simp) rfl))) ?_
     refine t_27 ?_
     iterate 3 refine t_k ?_
     refine t_0 ?_
     refine t_k2 ?_
     refine t_s2 (by exact ev_call rfl (gn rfl) rfl (en_of Tryd.func39 (by kernel_rfl) rfl) (fun w' hw' => bitN hk w')) ?_
     refine t_s2 (by exact ev_eql (p := true) rfl (gn rfl) rfl rfl he) ?_
     iterate 3 refine t_k ?_
     refine t_34 ?_
     iterate 2 refine t_21 ?_
     refine t_s2 (by exact ev_callp [10] rfl (gn rfl) rfl (en_of Tryd.func36 (by kernel_rfl) rfl) (fun ρ w' hs => add_ok2 _ _ w' (at_own hs (by simp) rfl))) ?_
     refine t_27 ?_
     iterate 3 refine t_k2 ?_
     refine t_s2 (by exact ev_sub rfl (gn rfl) rfl rfl hdn) ?_
     iterate 2 refine t_k2 ?_
     exact ⟨k, by omega, _, by omega, lad_t hk hb hr, rfl, rfl⟩
   · have he : decide (((n / 2 ^ k % 2 : Nat) : Int) = 1) = false := decide_eq_false (by omega)
     iterate 4 refine t_k2 ?_
     refine t_s2 (by exact ev_geq (p := true) rfl (gn rfl) rfl rfl hge) ?_
     iterate 7 refine t_k ?_
     refine t_34 ?_
     refine t_21 ?_
     refine t_s2 (by exact ev_callp [10] rfl (gn rfl) rfl (en_of Tryd.func38 (by kernel_rfl) rfl) (fun ρ w' hs => double_ok _ w' (at_own hs (by simp) rfl))) ?_
     refine t_27 ?_
     iterate 3 refine t_k ?_
     refine t_0 ?_
     refine t_k2 ?_
     refine t_s2 (by exact ev_call rfl (gn rfl) rfl (en_of Tryd.func39 (by kernel_rfl) rfl) (fun w' hw' => bitN hk w')) ?_
     refine t_s2 (by exact ev_eql (p := false) rfl (gn rfl) rfl rfl he) ?_
     iterate 5 refine t_k2 ?_
     refine t_s2 (by exact ev_sub rfl (gn rfl) rfl rfl hdn) ?_
     iterate 2 refine t_k2 ?_
     exact ⟨k, by omega, _, by omega, lad_f hk hb hr, rfl, rfl⟩
 | zero =>
   iterate 4 refine t_k2 ?_
   refine t_s2 (by exact ev_geq (p := false) rfl (gn rfl) rfl rfl (by decide)) ?_
   iterate 2 refine t_k ?_
   refine vexit ?_
   change VOk _ _ _ _ _
   change VOk _ _ _ _ _
   iterate 2 refine t_k ?_
   refine t_34 ?_
   refine t_21 ?_
   refine t_s2 (by exact ev_callp [10] rfl (gn rfl) rfl (en_of Tryd.func35 (by kernel_rfl) rfl) (fun ρ w' hs => drop_ok _ w' (at_own hs (by simp) rfl))) ?_
   refine t_44 ?_
   refine t_k ?_
   refine vret ?_
   refine post_ret (res1 Tryd.results12 (rv_cell rfl rfl Tryd.underlying26 rfl Tryd.sizeOf26 rfl rfl)) ?_
   intro w' hg
   exact ⟨by rw [hr, ht]; exact rfl, hg⟩
end Go.Proofs.YtafbhakmkbehiaaDoor
end
section
namespace Go.Proofs.YtafbhakmkbehiaaDoor
open Go.RowKit Go.Toll TollMont
open TollEc (F pp cb Jp Pt jdouble jadd smul add base nn)
set_option maxHeartbeats 4000000
set_option maxRecDepth 100000
theorem nPV (p : Pt) : Value.cells (PV p) = #[.int .u8 (byt (xv p) 0 : Nat), .int .u8 (byt (xv p) 1 : Nat), .int .u8 (byt (xv p) 2 : Nat), .int .u8 (byt (xv p) 3 : Nat), .int .u8 (byt (xv p) 4 : Nat), .int .u8 (byt (xv p) 5 : Nat), .int .u8 (byt (xv p) 6 : Nat), .int .u8 (byt (xv p) 7 : Nat), .int .u8 (byt (xv p) 8 : Nat), .int .u8 (byt (xv p) 9 : Nat), .int .u8 (byt (xv p) 10 : Nat), .int .u8 (byt (xv p) 11 : Nat), .int .u8 (byt (xv p) 12 : Nat), .int .u8 (byt (xv p) 13 : Nat), .int .u8 (byt (xv p) 14 : Nat), .int .u8 (byt (xv p) 15 : Nat), .int .u8 (byt (xv p) 16 : Nat), .int .u8 (byt (xv p) 17 : Nat), .int .u8 (byt (xv p) 18 : Nat), .int .u8 (byt (xv p) 19 : Nat), .int .u8 (byt (xv p) 20 : Nat), .int .u8 (byt (xv p) 21 : Nat), .int .u8 (byt (xv p) 22 : Nat), .int .u8 (byt (xv p) 23 : Nat), .int .u8 (byt (xv p) 24 : Nat), .int .u8 (byt (xv p) 25 : Nat), .int .u8 (byt (xv p) 26 : Nat), .int .u8 (byt (xv p) 27 : Nat), .int .u8 (byt (xv p) 28 : Nat), .int .u8 (byt (xv p) 29 : Nat), .int .u8 (byt (xv p) 30 : Nat), .int .u8 (byt (xv p) 31 : Nat), .int .u8 (byt (yv p) 0 : Nat), .int .u8 (byt (yv p) 1 : Nat), .int .u8 (byt (yv p) 2 : Nat), .int .u8 (byt (yv p) 3 : Nat), .int .u8 (byt (yv p) 4 : Nat), .int .u8 (byt (yv p) 5 : Nat), .int .u8 (byt (yv p) 6 : Nat), .int .u8 (byt (yv p) 7 : Nat), .int .u8 (byt (yv p) 8 : Nat), .int .u8 (byt (yv p) 9 : Nat), .int .u8 (byt (yv p) 10 : Nat), .int .u8 (byt (yv p) 11 : Nat), .int .u8 (byt (yv p) 12 : Nat), .int .u8 (byt (yv p) 13 : Nat), .int .u8 (byt (yv p) 14 : Nat), .int .u8 (byt (yv p) 15 : Nat), .int .u8 (byt (yv p) 16 : Nat), .int .u8 (byt (yv p) 17 : Nat), .int .u8 (byt (yv p) 18 : Nat), .int .u8 (byt (yv p) 19 : Nat), .int .u8 (byt (yv p) 20 : Nat), .int .u8 (byt (yv p) 21 : Nat), .int .u8 (byt (yv p) 22 : Nat), .int .u8 (byt (yv p) 23 : Nat), .int .u8 (byt (yv p) 24 : Nat), .int .u8 (byt (yv p) 25 : Nat), .int .u8 (byt (yv p) 26 : Nat), .int .u8 (byt (yv p) 27 : Nat), .int .u8 (byt (yv p) 28 : Nat), .int .u8 (byt (yv p) 29 : Nat), .int .u8 (byt (yv p) 30 : Nat), .int .u8 (byt (yv p) 31 : Nat)] := rfl
theorem nm3 : type_of% nm2 ∧ type_of% nPV := ⟨nm2, nPV⟩
theorem b_shrF (x : Nat) (s : Int) (h0 : 0 ≤ s) (h1 : s < 64) (p q : Operand) (w : World) : (do eqGuard .shr 48 p q (.int .u64 (x : Nat)) (.int .i64 s); binOp .shr 48 (.int .u64 (x : Nat)) (.int .i64 s) : Sem Value).run Tryd.prog w = .ok (.int .u64 (shrF x s : Nat)) w := b_shrk x s h0 h1 p q w
theorem b_lwF (x : Nat) (w : World) : (convert 48 5 (.int .u64 (x : Nat))).run Tryd.prog w = .ok (.int .u8 (lwF x : Nat)) w := b_cvb x w
theorem AddX {x y x' y' : Nat} (hx : x < R) (hy : y < R) (hx' : x' < R) (hy' : y' < R) {s : Pt} (h : add (toP x y) (toP x' y') = s) (w : World) (hL : Laid w) : Calls Tryd.prog 11 #[PT x y, PT x' y'] w fun e w' => e = .returned (PV s) ∧ Gw w w' := by
  have := Add_ok hx hy hx' hy' w hL
  rw [TollEc.jadd_rep _ _ (by rw [lift_rep]; exact toP_on _ _) (by rw [lift_rep]; exact toP_on _ _), lift_rep, lift_rep, h] at this
  exact this
theorem AddE {p q s : Pt} (h : add p q = s) (hp : p.on) (hq : q.on) (w : World) (hL : Laid w) : Calls Tryd.prog 11 #[PV p, PV q] w fun e w' => e = .returned (PV s) ∧ Gw w w' :=
  AddX (xv_lt p) (yv_lt p) (xv_lt q) (yv_lt q) (by rw [toP_PV hp, toP_PV hq]; exact h) w hL
theorem TimesX {n x y : Nat} (hn : n < R) (hx : x < R) (hy : y < R) {s : Pt} (h : smul n (toP x y) = s) (w : World) (hL : Laid w) : Calls Tryd.prog 12 #[B32 n, PT x y] w fun e w' => e = .returned (PV s) ∧ Gw w w' := by
  have := Times_core hn hx hy w hL
  rw [TollEc.ladder_all n (show n < 2 ^ 256 from hn) _ (by rw [lift_rep]; exact toP_on _ _), lift_rep, h] at this
  exact this
theorem TimesE {n : Nat} {p s : Pt} (hn : n < R) (h : smul n p = s) (hp : p.on) (w : World) (hL : Laid w) : Calls Tryd.prog 12 #[B32 n, PV p] w fun e w' => e = .returned (PV s) ∧ Gw w w' :=
  TimesX hn (xv_lt p) (yv_lt p) (by rw [toP_PV hp]; exact h) w hL
theorem baseP (w : World) (hL : Laid w) : Calls Tryd.prog 13 #[] w fun e w' => e = .returned (PV base) ∧ Gw w w' := base_ok w hL
theorem mdn : Md nn := ⟨by decide, by decide, by decide⟩
theorem eqP_inf (a b : Operand) (w : World) : (do eqGuard .eql 26 a b (PV .inf) (.agg #[.int .u8 0, .int .u8 0, .int .u8 0, .int .u8 0, .int .u8 0, .int .u8 0, .int .u8 0, .int .u8 0, .int .u8 0, .int .u8 0, .int .u8 0, .int .u8 0, .int .u8 0, .int .u8 0, .int .u8 0, .int .u8 0, .int .u8 0, .int .u8 0, .int .u8 0, .int .u8 0, .int .u8 0, .int .u8 0, .int .u8 0, .int .u8 0, .int .u8 0, .int .u8 0, .int .u8 0, .int .u8 0, .int .u8 0, .int .u8 0, .int .u8 0, .int .u8 0, .int .u8 0, .int .u8 0, .int .u8 0, .int .u8 0, .int .u8 0, .int .u8 0, .int .u8 0, .int .u8 0, .int .u8 0, .int .u8 0, .int .u8 0, .int .u8 0, .int .u8 0, .int .u8 0, .int .u8 0, .int .u8 0, .int .u8 0, .int .u8 0, .int .u8 0, .int .u8 0, .int .u8 0, .int .u8 0, .int .u8 0, .int .u8 0, .int .u8 0, .int .u8 0, .int .u8 0, .int .u8 0, .int .u8 0, .int .u8 0, .int .u8 0, .int .u8 0]); binOp .eql 26 (PV .inf) (.agg #[.int .u8 0, .int .u8 0, .int .u8 0, .int .u8 0, .int .u8 0, .int .u8 0, .int .u8 0, .int .u8 0, .int .u8 0, .int .u8 0, .int .u8 0, .int .u8 0, .int .u8 0, .int .u8 0, .int .u8 0, .int .u8 0, .int .u8 0, .int .u8 0, .int .u8 0, .int .u8 0, .int .u8 0, .int .u8 0, .int .u8 0, .int .u8 0, .int .u8 0, .int .u8 0, .int .u8 0, .int .u8 0, .int .u8 0, .int .u8 0, .int .u8 0, .int .u8 0, .int .u8 0, .int .u8 0, .int .u8 0, .int .u8 0, .int .u8 0, .int .u8 0, .int .u8 0, .int .u8 0, .int .u8 0, .int .u8 0, .int .u8 0, .int .u8 0, .int .u8 0, .int .u8 0, .int .u8 0, .int .u8 0, .int .u8 0, .int .u8 0, .int .u8 0, .int .u8 0, .int .u8 0, .int .u8 0, .int .u8 0, .int .u8 0, .int .u8 0, .int .u8 0, .int .u8 0, .int .u8 0, .int .u8 0, .int .u8 0, .int .u8 0, .int .u8 0]) : Sem Value).run Tryd.prog w = .ok (.bool true) w := eq_pt0 rfl rfl a b w
theorem pv_zero {p : Pt} (h : p.on) : (xv p = 0 ∧ yv p = 0) ↔ p = .inf := by
  cases p with
  | inf => exact ⟨fun _ => rfl, fun _ => ⟨rfl, rfl⟩⟩
  | aff x y =>
    refine ⟨fun ⟨a, b⟩ => ?_, fun c => by cases c⟩
    have hx : x = ⟨0, by decide⟩ := Fin.ext a
    have hy : y = ⟨0, by decide⟩ := Fin.ext b
    subst hx hy
    exact absurd (onF_iff.2 h) (by decide +kernel)
theorem eqP_ninf {p : Pt} (hp : p.on) (h : p ≠ .inf) (a b : Operand) (w : World) : (do eqGuard .eql 26 a b (PV p) (.agg #[.int .u8 0, .int .u8 0, .int .u8 0, .int .u8 0, .int .u8 0, .int .u8 0, .int .u8 0, .int .u8 0, .int .u8 0, .int .u8 0, .int .u8 0, .int .u8 0, .int .u8 0, .int .u8 0, .int .u8 0, .int .u8 0, .int .u8 0, .int .u8 0, .int .u8 0, .int .u8 0, .int .u8 0, .int .u8 0, .int .u8 0, .int .u8 0, .int .u8 0, .int .u8 0, .int .u8 0, .int .u8 0, .int .u8 0, .int .u8 0, .int .u8 0, .int .u8 0, .int .u8 0, .int .u8 0, .int .u8 0, .int .u8 0, .int .u8 0, .int .u8 0, .int .u8 0, .int .u8 0, .int .u8 0, .int .u8 0, .int .u8 0, .int .u8 0, .int .u8 0, .int .u8 0, .int .u8 0, .int .u8 0, .int .u8 0, .int .u8 0, .int .u8 0, .int .u8 0, .int .u8 0, .int .u8 0, .int .u8 0, .int .u8 0, .int .u8 0, .int .u8 0, .int .u8 0, .int .u8 0, .int .u8 0, .int .u8 0, .int .u8 0, .int .u8 0]); binOp .eql 26 (PV p) (.agg #[.int .u8 0, .int .u8 0, .int .u8 0, .int .u8 0, .int .u8 0, .int .u8 0, .int .u8 0, .int .u8 0, .int .u8 0, .int .u8 0, .int .u8 0, .int .u8 0, .int .u8 0, .int .u8 0, .int .u8 0, .int .u8 0, .int .u8 0, .int .u8 0, .int .u8 0, .int .u8 0, .int .u8 0, .int .u8 0, .int .u8 0, .int .u8 0, .int .u8 0, .int .u8 0, .int .u8 0, .int .u8 0, .int .u8 0, .int .u8 0, .int .u8 0, .int .u8 0, .int .u8 0, .int .u8 0, .int .u8 0, .int .u8 0, .int .u8 0, .int .u8 0, .int .u8 0, .int .u8 0, .int .u8 0, .int .u8 0, .int .u8 0, .int .u8 0, .int .u8 0, .int .u8 0, .int .u8 0, .int .u8 0, .int .u8 0, .int .u8 0, .int .u8 0, .int .u8 0, .int .u8 0, .int .u8 0, .int .u8 0, .int .u8 0, .int .u8 0, .int .u8 0, .int .u8 0, .int .u8 0, .int .u8 0, .int .u8 0, .int .u8 0, .int .u8 0]) : Sem Value).run Tryd.prog w = .ok (.bool false) w :=
  eq_ptn (xv_lt p) (yv_lt p) (fun c => h ((pv_zero hp).1 c)) a b w
theorem rbytes_ok (n : Nat) (w : World) : Calls Tryd.prog 33 #[N n] w fun e w' => e = .returned (B32 n) ∧ Gw w w' := by
 go_enter Tryd.func33, Tryd.ntmps33
 refine ve_go ?_
 simp only [List.map_cons, List.map_nil]
 iterate 3 refine t_k3 ?_
 refine t_s3 (by exact ev_alloc rfl rfl (gn rfl) Tryd.zeroValue23) ?_
 iterate 3 refine t_k ?_
 refine t_s3 (by exact ev_alloc rfl rfl (gn rfl) Tryd.zeroValue23) ?_
 iterate 7 refine t_k3 ?_
 refine vloop 33 ?_
 iterate 32
   change VOk _ _ _ _ _
   iterate 4 refine t_k3 ?_
   refine t_25 ?_
   iterate 8 refine t_k3 ?_
   iterate 2 refine t_25 ?_
   refine t_s3 (by first | exact ev_index rfl (gn rfl) rfl rfl Tryd.underlying49 Tryd.sizeOf48 (by decide) (by decide) | exact ev_indexx rfl (gn rfl) rfl rfl Tryd.underlying49 Tryd.sizeOf48 (by decide) (by decide)) ?_
   refine t_s3 (by first | exact ev_load1 rfl (gn rfl) rfl rfl Tryd.underlying48 rfl rfl | exact ev_loadx1 rfl (gn rfl) rfl Tryd.underlying48 rfl (by first | assumption | exact hm 0 _ rfl | exact hm 1 _ rfl | exact hm 2 _ rfl | exact hm 3 _ rfl)) ?_
   refine t_k3 ?_
   iterate 3 refine t_25 ?_
   refine t_s3 (by exact ev_bin rfl (gn rfl) rfl rfl (fun w => b_shrF _ _ (by decide) (by decide) _ _ w)) ?_
   refine t_s3 (by exact ev_conv rfl (gn rfl) rfl (fun w => b_lwF _ w)) ?_
   refine t_s3 (by first | exact ev_index rfl (gn rfl) rfl rfl Tryd.underlying23 Tryd.sizeOf5 (by decide) (by decide) | exact ev_indexx rfl (gn rfl) rfl rfl Tryd.underlying23 Tryd.sizeOf5 (by decide) (by decide)) ?_
   refine t_s3 (by exact ev_store rfl (gn rfl) rfl rfl rfl Tryd.sizeOf5 rfl (by simp) rfl) ?_
   iterate 3 refine t_k3 ?_
   refine t_25 ?_
   iterate 2 refine t_k3 ?_
 change VOk _ _ _ _ _
 iterate 4 refine t_k3 ?_
 refine t_25 ?_
 iterate 2 refine t_k ?_
 refine vexit ?_
 change VOk _ _ _ _ _
 iterate 2 refine t_k ?_
 refine t_s3 (by first | exact ev_load rfl (gn rfl) rfl rfl Tryd.underlying23 rfl Tryd.sizeOf23 rfl rfl | exact ev_loadx rfl (gn rfl) rfl Tryd.underlying23 rfl Tryd.sizeOf23 (by assumption) rfl) ?_
 refine t_s3 (by exact ev_store rfl (gn rfl) rfl rfl rfl Tryd.sizeOf23 rfl (by simp) rfl) ?_
 refine t_k ?_
 refine vret ?_
 refine post_ret (res1 Tryd.results33 (rv_cell rfl rfl Tryd.underlying23 rfl Tryd.sizeOf23 rfl rfl)) ?_
 intro w' hg
 exact ⟨rfl, hg⟩
theorem lims_c13 : lim (TollEc.bx.val) 0 = 17627433388654248598 ∧ lim (TollEc.bx.val) 1 = 8575836109218198432 ∧ lim (TollEc.bx.val) 2 = 17923454489921339634 ∧ lim (TollEc.bx.val) 3 = 7716867327612699207 := by decide +kernel
theorem lims_c14 : lim (TollEc.bY.val) 0 = 14678990851816772085 ∧ lim (TollEc.bY.val) 1 = 3156516839386865358 ∧ lim (TollEc.bY.val) 2 = 10297457778147434006 ∧ lim (TollEc.bY.val) 3 = 5756518291402817435 := by decide +kernel
theorem built_c16 : Tryd.prog.built 49 [(0, .int .u64 17562291160714782033), (1, .int .u64 13611842547513532036), (2, .int .u64 18446744073709551615), (3, .int .u64 18446744069414584320)] = some #[.int .u64 17562291160714782033, .int .u64 13611842547513532036, .int .u64 18446744073709551615, .int .u64 18446744069414584320] := by kernel_rfl
theorem lims_c16 : lim (nn) 0 = 17562291160714782033 ∧ lim (nn) 1 = 13611842547513532036 ∧ lim (nn) 2 = 18446744073709551615 ∧ lim (nn) 3 = 18446744069414584320 := by decide +kernel
theorem const_c16 (w : World) : Calls Tryd.prog 30 #[] w fun e w' => e = .returned (.agg #[.int .u64 17562291160714782033, .int .u64 13611842547513532036, .int .u64 18446744073709551615, .int .u64 18446744069414584320]) ∧ Gw w w' := by
 go_enter Tryd.func30, Tryd.ntmps30
 refine ve_go ?_
 simp only [List.map_cons, List.map_nil]
 iterate 2 refine t_k ?_
 refine t_s3 (by exact ev_alloc rfl rfl (gn rfl) Tryd.zeroValue49) ?_
 iterate 3 refine t_k ?_
 refine t_s3 (by exact ev_build rfl (gn rfl) rfl built_c16) ?_
 refine t_s3 (by exact ev_store rfl (gn rfl) rfl rfl rfl Tryd.sizeOf49 rfl (by simp) rfl) ?_
 refine t_k ?_
 refine vret ?_
 refine post_ret (res1 Tryd.results30 (rv_cell rfl rfl Tryd.underlying49 rfl Tryd.sizeOf49 rfl rfl)) ?_
 intro w' hg
 exact ⟨rfl, hg⟩
theorem c_N (w : World) : Calls Tryd.prog 30 #[] w fun e w' => e = .returned (N (nn)) ∧ Gw w w' := by
  have h := const_c16 w
  obtain ⟨e0, e1, e2, e3⟩ := lims_c16
  have e : (.agg #[.int .u64 17562291160714782033, .int .u64 13611842547513532036, .int .u64 18446744073709551615, .int .u64 18446744069414584320] : Value) = N (nn) := by unfold N; rw [e0, e1, e2, e3]; rfl
  rw [e] at h; exact h
theorem lims_c28 : lim (pp) 0 = 18446744073709551615 ∧ lim (pp) 1 = 4294967295 ∧ lim (pp) 2 = 0 ∧ lim (pp) 3 = 18446744069414584321 := by decide +kernel
theorem lims_c39 : lim (cb.val) 0 = 4309448131093880907 ∧ lim (cb.val) 1 = 7285987128567378166 ∧ lim (cb.val) 2 = 12964664127075681980 ∧ lim (cb.val) 3 = 6540974713487397863 := by decide +kernel
end Go.Proofs.YtafbhakmkbehiaaDoor
end
section
namespace Go.Proofs.YtafbhakmkbehiaaDoor
open Go.RowKit Go.Toll TollMont
open TollEc (F pp cb Jp Pt jdouble jadd smul add base nn neg)
set_option maxHeartbeats 4000000
set_option maxRecDepth 100000
theorem built29_0 : Tryd.prog.built 49 [] = some #[.int .u64 0, .int .u64 0, .int .u64 0, .int .u64 0] := by kernel_rfl
theorem rofN (n : Nat) (hn : n < R) (w : World) : Calls Tryd.prog 29 #[B32 n] w fun e w' => e = .returned (N n) ∧ Gw w w' := by
  have h := rof_ok (lw_lt (lim n 3) 56) (lw_lt (lim n 3) 48) (lw_lt (lim n 3) 40) (lw_lt (lim n 3) 32) (lw_lt (lim n 3) 24) (lw_lt (lim n 3) 16) (lw_lt (lim n 3) 8) (lw_lt (lim n 3) 0) (lw_lt (lim n 2) 56) (lw_lt (lim n 2) 48) (lw_lt (lim n 2) 40) (lw_lt (lim n 2) 32) (lw_lt (lim n 2) 24) (lw_lt (lim n 2) 16) (lw_lt (lim n 2) 8) (lw_lt (lim n 2) 0) (lw_lt (lim n 1) 56) (lw_lt (lim n 1) 48) (lw_lt (lim n 1) 40) (lw_lt (lim n 1) 32) (lw_lt (lim n 1) 24) (lw_lt (lim n 1) 16) (lw_lt (lim n 1) 8) (lw_lt (lim n 1) 0) (lw_lt (lim n 0) 56) (lw_lt (lim n 0) 48) (lw_lt (lim n 0) 40) (lw_lt (lim n 0) 32) (lw_lt (lim n 0) 24) (lw_lt (lim n 0) 16) (lw_lt (lim n 0) 8) (lw_lt (lim n 0) 0) w
  have e : num32 (lwF (shrF (lim n 3) 56)) (lwF (shrF (lim n 3) 48)) (lwF (shrF (lim n 3) 40)) (lwF (shrF (lim n 3) 32)) (lwF (shrF (lim n 3) 24)) (lwF (shrF (lim n 3) 16)) (lwF (shrF (lim n 3) 8)) (lwF (shrF (lim n 3) 0)) (lwF (shrF (lim n 2) 56)) (lwF (shrF (lim n 2) 48)) (lwF (shrF (lim n 2) 40)) (lwF (shrF (lim n 2) 32)) (lwF (shrF (lim n 2) 24)) (lwF (shrF (lim n 2) 16)) (lwF (shrF (lim n 2) 8)) (lwF (shrF (lim n 2) 0)) (lwF (shrF (lim n 1) 56)) (lwF (shrF (lim n 1) 48)) (lwF (shrF (lim n 1) 40)) (lwF (shrF (lim n 1) 32)) (lwF (shrF (lim n 1) 24)) (lwF (shrF (lim n 1) 16)) (lwF (shrF (lim n 1) 8)) (lwF (shrF (lim n 1) 0)) (lwF (shrF (lim n 0) 56)) (lwF (shrF (lim n 0) 48)) (lwF (shrF (lim n 0) 40)) (lwF (shrF (lim n 0) 32)) (lwF (shrF (lim n 0) 24)) (lwF (shrF (lim n 0) 16)) (lwF (shrF (lim n 0) 8)) (lwF (shrF (lim n 0) 0)) = n := by
    unfold num32
    rw [word8_of _ (lim_lt n 0), word8_of _ (lim_lt n 1), word8_of _ (lim_lt n 2), word8_of _ (lim_lt n 3), Nat.mul_zero, Nat.add_zero]
    exact (lim_sum4 hn).symm
  rw [e] at h
  exact h
end Go.Proofs.YtafbhakmkbehiaaDoor
end
