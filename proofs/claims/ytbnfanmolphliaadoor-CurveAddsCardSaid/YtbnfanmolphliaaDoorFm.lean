import Derived.Test.YtbnfanmolphliaaDoorFl
/-! The document's Add, of points, by contract. -/
namespace Go.Proofs.YtbnfanmolphliaaDoor
open Go.RowKit Go.Toll TollMont
open TollEc (F pp cb Jp Pt add neg)
theorem radd_aff {x1 y1 x2 y2 : F} (h1 : TollEc.onE x1 y1) (h2 : TollEc.onE x2 y2) (n1 : ¬ (x1 = 0 ∧ y1 = 0)) (n2 : ¬ (x2 = 0 ∧ y2 = 0)) (w : World) :
    Calls Tryd.prog 25 #[NF x1, NF y1, NF x2, NF y2] w fun e w' => e = .returned (.tuple #[N (xv (add (.aff x1 y1) (.aff x2 y2))), N (yv (add (.aff x1 y1) (.aff x2 y2)))]) ∧ Gw w w' := by
  by_cases hx : x1 = x2
  · by_cases hs : y1 + y2 = 0
    · have e : add (.aff x1 y1) (.aff x2 y2) = .inf := if_pos ⟨hx, hs⟩
      rw [e]
      show Calls Tryd.prog 25 #[NF x1, NF y1, NF x2, NF y2] w fun e w' => e = .returned (.tuple #[N 0, N 0]) ∧ Gw w w'
      rw [N_zero]
      by_cases a : x1 = 0 <;> by_cases c : x2 = 0
      · exact radd_inf_yy x1 y1 x2 y2 w a (fun b => n1 ⟨a, b⟩) c (fun d => n2 ⟨c, d⟩) hx hs
      · exact radd_inf_yx x1 y1 x2 y2 w a (fun b => n1 ⟨a, b⟩) c hx hs
      · exact radd_inf_xy x1 y1 x2 y2 w a c (fun d => n2 ⟨c, d⟩) hx hs
      · exact radd_inf_xx x1 y1 x2 y2 w a c hx hs
    · subst hx
      obtain rfl : y2 = y1 := by
        rcases TollEc.aff_or h1 h2 with h | h
        · exact (Pt.aff.inj h).2
        · exfalso; apply hs
          have := (Pt.aff.inj h).2
          rw [this]; grind -lia
      obtain ⟨i, hi⟩ := TollEc.inv_ex _ hs
      rw [TollEc.add_tan (s := 3 * (x1 * x1 - 1) * i) hs (by grind -lia)]
      by_cases a : x1 = 0 <;> by_cases c : x1 = 0
      · exact radd_tan_yy x1 y2 x1 y2 i _ _ _ _ _ _ _ _ _ _ _ w a (fun b => n1 ⟨a, b⟩) c (fun d => n2 ⟨c, d⟩) rfl hs rfl rfl rfl rfl hi rfl rfl rfl rfl rfl rfl rfl
      · exact radd_tan_yx x1 y2 x1 y2 i _ _ _ _ _ _ _ _ _ _ _ w a (fun b => n1 ⟨a, b⟩) c rfl hs rfl rfl rfl rfl hi rfl rfl rfl rfl rfl rfl rfl
      · exact radd_tan_xy x1 y2 x1 y2 i _ _ _ _ _ _ _ _ _ _ _ w a c (fun d => n2 ⟨c, d⟩) rfl hs rfl rfl rfl rfl hi rfl rfl rfl rfl rfl rfl rfl
      · exact radd_tan_xx x1 y2 x1 y2 i _ _ _ _ _ _ _ _ _ _ _ w a c rfl hs rfl rfl rfl rfl hi rfl rfl rfl rfl rfl rfl rfl
  · have h0 : x2 - x1 ≠ 0 := fun h => hx (by grind -lia)
    obtain ⟨i, hi⟩ := TollEc.inv_ex _ h0
    rw [TollEc.add_chord (s := (y2 - y1) * i) hx (by grind -lia)]
    by_cases a : x1 = 0 <;> by_cases c : x2 = 0
    · exact radd_ne_yy x1 y1 x2 y2 i _ _ _ _ _ _ _ w a (fun b => n1 ⟨a, b⟩) c (fun d => n2 ⟨c, d⟩) hx hi rfl rfl rfl rfl rfl rfl rfl
    · exact radd_ne_yx x1 y1 x2 y2 i _ _ _ _ _ _ _ w a (fun b => n1 ⟨a, b⟩) c hx hi rfl rfl rfl rfl rfl rfl rfl
    · exact radd_ne_xy x1 y1 x2 y2 i _ _ _ _ _ _ _ w a c (fun d => n2 ⟨c, d⟩) hx hi rfl rfl rfl rfl rfl rfl rfl
    · exact radd_ne_xx x1 y1 x2 y2 i _ _ _ _ _ _ _ w a c hx hi rfl rfl rfl rfl rfl rfl rfl
def xf : Pt → F
  | .inf => 0
  | .aff x _ => x
def yf : Pt → F
  | .inf => 0
  | .aff _ y => y
theorem N_xf (p : Pt) : N (xv p) = NF (xf p) := by cases p with | inf => exact rfl | aff x y => exact rfl
theorem N_yf (p : Pt) : N (yv p) = NF (yf p) := by cases p with | inf => exact rfl | aff x y => exact rfl
theorem nz_on {x y : F} (h : TollEc.onE x y) : ¬ (x = 0 ∧ y = 0) := fun ⟨a, b⟩ => by
  have := (pv_zero (p := .aff x y) h).1 ⟨congrArg Fin.val a, congrArg Fin.val b⟩
  cases this
theorem radd_pt {p q s : Pt} (hs : add p q = s) (hp : p.on) (hq : q.on) (w : World) :
    Calls Tryd.prog 25 #[N (xv p), N (yv p), N (xv q), N (yv q)] w fun e w' => e = .returned (.tuple #[N (xv s), N (yv s)]) ∧ Gw w w' := by
  subst hs
  cases p with
  | inf =>
    rw [TollEc.inf_add, N_xf, N_yf, N_xf, N_yf]
    exact radd_p (xf .inf) (yf .inf) (xf q) (yf q) w rfl rfl
  | aff x1 y1 =>
    have n1 := nz_on hp
    cases q with
    | inf =>
      rw [TollEc.add_inf, N_xf (.aff x1 y1), N_yf (.aff x1 y1), N_xf .inf, N_yf .inf]
      by_cases a : x1 = 0
      · exact radd_q_y (xf (.aff x1 y1)) (yf (.aff x1 y1)) (xf .inf) (yf .inf) w a (fun b => n1 ⟨a, b⟩) rfl rfl
      · exact radd_q_x (xf (.aff x1 y1)) (yf (.aff x1 y1)) (xf .inf) (yf .inf) w a rfl rfl
    | aff x2 y2 => exact radd_aff hp hq n1 (nz_on hq) w
end Go.Proofs.YtbnfanmolphliaaDoor
