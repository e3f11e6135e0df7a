import Derived.Test.YtbnfanmolphliaaDoorFe
/-! Points of bytes: what they are, and when two are one; on, lift, drop by contract. -/
namespace Go.Proofs.YtbnfanmolphliaaDoor
open Go.RowKit Go.Toll TollMont
open TollEc (F pp cb Jp Pt jdouble jadd)
set_option maxRecDepth 100000
theorem eq_items2 {P : Program} {e : TypeId} {k k' : IntKind} (he : P.underlying e = some (.int k')) (d : Nat) (zs ys : List Int) (w : World) : ∀ (is : List Nat), (∀ j ∈ is, j < zs.length ∧ j < ys.length) →
    (Op.eqItems (d + 1) e 1 (zs.map (Value.int k)).toArray (ys.map (Value.int k)).toArray is).run P w = .ok (is.all fun j => zs.getD j 0 == ys.getD j 0) w
  | [], _ => by simp [Op.eqItems]
  | j :: is, h => by
    obtain ⟨hz, hy⟩ := h j (by simp)
    have hp : (part e (zs.map (Value.int k)).toArray (j * 1)).run P w = .ok (.int k zs[j]) w := by
      simp [part, run_isAgg he, isAggD, hz]
    have hq : (part e (ys.map (Value.int k)).toArray (j * 1)).run P w = .ok (.int k ys[j]) w := by
      simp [part, run_isAgg he, isAggD, hy]
    have hi := run_equalIn_int w d e k k' zs[j] ys[j] he
    have ih := eq_items2 (k := k) he d zs ys w is fun i hi => h i (by simp [hi])
    simp only [Op.eqItems, Sem.run_bind, hp, hq, Result.andThen_ok, hi, List.all_cons, List.getD_eq_getElem?_getD, List.getElem?_eq_getElem hz, List.getElem?_eq_getElem hy, Option.getD_some]
    by_cases hc : zs[j] = ys[j]
    · simp only [hc, beq_self_eq_true, Bool.not_true, Bool.false_eq_true, if_false, Bool.true_and]
      simpa only [List.getD_eq_getElem?_getD] using ih
    · simp [hc]
def blist (n : Nat) : List Int := (List.range 32).map fun i => ((byt n i : Nat) : Int)
theorem B32_list (n : Nat) : B32 n = .agg ((blist n).map (Value.int .u8)).toArray := rfl
theorem bytes8_inj {a c : Nat} (ha : a < W) (hc : c < W) (h : ∀ i, i < 8 → a / 2 ^ (56 - 8 * i) % 256 = c / 2 ^ (56 - 8 * i) % 256) : a = c := by
  have h0 : a / 72057594037927936 % 256 = c / 72057594037927936 % 256 := h 0 (by decide)
  have h1 : a / 281474976710656 % 256 = c / 281474976710656 % 256 := h 1 (by decide)
  have h2 : a / 1099511627776 % 256 = c / 1099511627776 % 256 := h 2 (by decide)
  have h3 : a / 4294967296 % 256 = c / 4294967296 % 256 := h 3 (by decide)
  have h4 : a / 16777216 % 256 = c / 16777216 % 256 := h 4 (by decide)
  have h5 : a / 65536 % 256 = c / 65536 % 256 := h 5 (by decide)
  have h6 : a / 256 % 256 = c / 256 % 256 := h 6 (by decide)
  have h7 : a / 1 % 256 = c / 1 % 256 := h 7 (by decide)
  simp only [W] at ha hc
  clear h
  omega
theorem bytes_inj {x y : Nat} (hx : x < R) (hy : y < R) (h : ∀ i, i < 32 → byt x i = byt y i) : x = y := by
  have g : ∀ g, g < 4 → lim x (3 - g) = lim y (3 - g) := fun g hg => by
    refine bytes8_inj (lim_lt _ _) (lim_lt _ _) fun i hi => ?_
    have := h (8 * g + i) (by omega)
    unfold byt at this
    rwa [show (8 * g + i) / 8 = g by omega, show (8 * g + i) % 8 = i by omega] at this
  exact lim_inj hx hy (g 3 (by omega)) (g 2 (by omega)) (g 1 (by omega)) (g 0 (by omega))
theorem eqB_all {x y : Nat} (hx : x < R) (hy : y < R) : ((List.range 32).all fun j => (blist x).getD j 0 == (blist y).getD j 0) = decide (x = y) := by
  rw [Bool.eq_iff_iff, List.all_eq_true, decide_eq_true_iff]
  constructor
  · intro h
    refine bytes_inj hx hy fun i hi => ?_
    have := h i (by simpa using hi)
    simp [blist, hi] at this
    omega
  · rintro rfl i _
    exact beq_self_eq_true _
theorem eqB2 (d : Nat) {x y : Nat} (hx : x < R) (hy : y < R) (w : World) : (Op.equalIn (d + 2) 22 (.agg #[.int .u8 (byt x 0 : Nat), .int .u8 (byt x 1 : Nat), .int .u8 (byt x 2 : Nat), .int .u8 (byt x 3 : Nat), .int .u8 (byt x 4 : Nat), .int .u8 (byt x 5 : Nat), .int .u8 (byt x 6 : Nat), .int .u8 (byt x 7 : Nat), .int .u8 (byt x 8 : Nat), .int .u8 (byt x 9 : Nat), .int .u8 (byt x 10 : Nat), .int .u8 (byt x 11 : Nat), .int .u8 (byt x 12 : Nat), .int .u8 (byt x 13 : Nat), .int .u8 (byt x 14 : Nat), .int .u8 (byt x 15 : Nat), .int .u8 (byt x 16 : Nat), .int .u8 (byt x 17 : Nat), .int .u8 (byt x 18 : Nat), .int .u8 (byt x 19 : Nat), .int .u8 (byt x 20 : Nat), .int .u8 (byt x 21 : Nat), .int .u8 (byt x 22 : Nat), .int .u8 (byt x 23 : Nat), .int .u8 (byt x 24 : Nat), .int .u8 (byt x 25 : Nat), .int .u8 (byt x 26 : Nat), .int .u8 (byt x 27 : Nat), .int .u8 (byt x 28 : Nat), .int .u8 (byt x 29 : Nat), .int .u8 (byt x 30 : Nat), .int .u8 (byt x 31 : Nat)]) (.agg #[.int .u8 (byt y 0 : Nat), .int .u8 (byt y 1 : Nat), .int .u8 (byt y 2 : Nat), .int .u8 (byt y 3 : Nat), .int .u8 (byt y 4 : Nat), .int .u8 (byt y 5 : Nat), .int .u8 (byt y 6 : Nat), .int .u8 (byt y 7 : Nat), .int .u8 (byt y 8 : Nat), .int .u8 (byt y 9 : Nat), .int .u8 (byt y 10 : Nat), .int .u8 (byt y 11 : Nat), .int .u8 (byt y 12 : Nat), .int .u8 (byt y 13 : Nat), .int .u8 (byt y 14 : Nat), .int .u8 (byt y 15 : Nat), .int .u8 (byt y 16 : Nat), .int .u8 (byt y 17 : Nat), .int .u8 (byt y 18 : Nat), .int .u8 (byt y 19 : Nat), .int .u8 (byt y 20 : Nat), .int .u8 (byt y 21 : Nat), .int .u8 (byt y 22 : Nat), .int .u8 (byt y 23 : Nat), .int .u8 (byt y 24 : Nat), .int .u8 (byt y 25 : Nat), .int .u8 (byt y 26 : Nat), .int .u8 (byt y 27 : Nat), .int .u8 (byt y 28 : Nat), .int .u8 (byt y 29 : Nat), .int .u8 (byt y 30 : Nat), .int .u8 (byt y 31 : Nat)])).run Tryd.prog w = .ok (decide (x = y)) w := by
  have h := eq_items2 (k := .u8) Tryd.underlying5 d (blist x) (blist y) w (List.range 32) (by intro j hj; simp [blist] at *; exact hj)
  rw [eqB_all hx hy] at h
  show (Op.equalIn (d + 2) 22 (.agg ((blist x).map (Value.int .u8)).toArray) (.agg ((blist y).map (Value.int .u8)).toArray)).run Tryd.prog w = _
  rw [run_equalIn_array w (d + 1) _ _ Tryd.underlying22 (i := Tryd.prog.types[5]) rfl, show Tryd.prog.cellsOf 5 = 1 by kernel_rfl]
  exact h
theorem eq_b32 {x y : Nat} (hx : x < R) (hy : y < R) (p q : Operand) (w : World) : (do eqGuard .eql 22 p q (B32 x) (B32 y); binOp .eql 22 (B32 x) (B32 y) : Sem Value).run Tryd.prog w = .ok (.bool (decide (x = y))) w := by
  unfold B32
  go_simp
  rw [eqB2 _ hx hy]
  rfl
theorem eq_pt {x y x' y' : Nat} (hx : x < R) (hy : y < R) (hx' : x' < R) (hy' : y' < R) (p q : Operand) (w : World) : (do eqGuard .eql 24 p q (PT x y) (PT x' y'); binOp .eql 24 (PT x y) (PT x' y') : Sem Value).run Tryd.prog w = .ok (.bool (decide (x = x' ∧ y = y'))) w := by
  unfold PT
  go_simp
  rw [eqB2 _ hx hx']
  by_cases h : x = x'
  · simp [h, eqB2 _ hy hy', Result.andThen]
    by_cases h2 : y = y' <;> simp [h2]
  · simp [h, Result.andThen]
def onF (x y : F) : Bool := decide (y * y = (x * x - 3) * x + cb)
theorem onF_iff {x y : F} : onF x y = true ↔ TollEc.onE x y := by
  unfold onF TollEc.onE
  rw [decide_eq_true_iff, show (x * x - 3) * x + cb = x * x * x - 3 * x + cb by grind -lia]
def onB (x y : Nat) : Bool := if h : x < pp ∧ y < pp then onF ⟨x, h.1⟩ ⟨y, h.2⟩ else false
theorem on_ok {b x y : Nat} (hx : x < R) (hy : y < R) (w : World) (ha : At w b pp) (hL : Laid w) : Calls Tryd.prog 36 #[FV b, PT x y] w fun e w' => e = .returned (.bool (onB x y)) ∧ Gw w w' := by
  by_cases h1 : x < pp
  · by_cases h2 : y < pp
    · have h := on_f (b := b) ⟨x, h1⟩ ⟨y, h2⟩ w ha hL
      rw [show onB x y = onF ⟨x, h1⟩ ⟨y, h2⟩ from dif_pos ⟨h1, h2⟩]; exact h
    · rw [show onB x y = false from dif_neg (fun c => h2 c.2)]; exact on_y hx hy w ha hL h1 h2
  · rw [show onB x y = false from dif_neg (fun c => h1 c.1)]; exact on_x hx hy w ha hL h1
/-- the point that bytes tell: what isn't one is infinity. -/
def toP (x y : Nat) : Pt := if h : x < pp ∧ y < pp then (if onF ⟨x, h.1⟩ ⟨y, h.2⟩ then .aff ⟨x, h.1⟩ ⟨y, h.2⟩ else .inf) else .inf
def liftJ (x y : Nat) : Jp := if h : x < pp ∧ y < pp then (if onF ⟨x, h.1⟩ ⟨y, h.2⟩ then ⟨⟨x, h.1⟩, ⟨y, h.2⟩, 1⟩ else ⟨0, 0, 0⟩) else ⟨0, 0, 0⟩
theorem lift_ok {b x y : Nat} (hx : x < R) (hy : y < R) (w : World) (ha : At w b pp) (hL : Laid w) : Calls Tryd.prog 41 #[FV b, PT x y] w fun e w' => e = .returned (TF (liftJ x y)) ∧ Gw w w' := by
  have hon := fun (w' : World) (hw : Gw w w') => on_ok hx hy w' (ha.gw hw) (hL.gw hw)
  by_cases h : x < pp ∧ y < pp
  · by_cases h2 : onF ⟨x, h.1⟩ ⟨y, h.2⟩ = true
    · have e : onB x y = true := (dif_pos h).trans h2
      rw [e] at hon
      rw [show liftJ x y = ⟨⟨x, h.1⟩, ⟨y, h.2⟩, 1⟩ from (dif_pos h).trans (if_pos h2)]
      exact lift_yes ⟨x, h.1⟩ ⟨y, h.2⟩ w hon
    · have e : onB x y = false := (dif_pos h).trans (by simpa using h2)
      rw [e] at hon
      rw [show liftJ x y = ⟨0, 0, 0⟩ from (dif_pos h).trans (if_neg h2)]
      exact lift_no w hon
  · have e : onB x y = false := dif_neg h
    rw [e] at hon
    rw [show liftJ x y = ⟨0, 0, 0⟩ from dif_neg h]
    exact lift_no w hon
theorem lift_rep (x y : Nat) : (liftJ x y).rep = toP x y := by
  unfold liftJ toP
  split
  · split
    · exact TollEc.rep_one _ _
    · exact TollEc.rep_inf rfl
  · exact TollEc.rep_inf rfl
theorem toP_on (x y : Nat) : (toP x y).on := by
  unfold toP
  split
  · split
    · rename_i h; exact onF_iff.1 h
    · exact True.intro
  · exact True.intro
def xv : Pt → Nat
  | .inf => 0
  | .aff x _ => x.val
def yv : Pt → Nat
  | .inf => 0
  | .aff _ y => y.val
def PV (p : Pt) : Value := PT (xv p) (yv p)
theorem xv_lt (p : Pt) : xv p < R := by cases p with | inf => decide | aff x y => exact val_lt x
theorem yv_lt (p : Pt) : yv p < R := by cases p with | inf => decide | aff x y => exact val_lt y
theorem not_on_zero : onB 0 0 = false := by decide +kernel
theorem toP_PV {p : Pt} (h : p.on) : toP (xv p) (yv p) = p := by
  cases p with
  | inf =>
    have : onF ⟨0, by decide⟩ ⟨0, by decide⟩ = false := by decide +kernel
    exact (dif_pos ⟨by decide, by decide⟩).trans (if_neg (fun c => Bool.false_ne_true (this.symm.trans c)))
  | aff x y => exact (dif_pos ⟨x.isLt, y.isLt⟩).trans (if_pos (onF_iff.2 h))
theorem drop_ok {b : Nat} (j : Jp) (w : World) (ha : At w b pp) : Calls Tryd.prog 45 #[FV b, TF j] w fun e w' => e = .returned (PV j.rep) ∧ Gw w w' := by
  obtain ⟨x, y, z⟩ := j
  by_cases h : z = 0
  · subst h
    rw [TollEc.rep_inf rfl]; exact drop_inf x y w ha
  · obtain ⟨i, hi⟩ := TollEc.inv_ex z h
    rw [TollEc.rep_of (j := ⟨x, y, z⟩) hi]
    exact drop_aff x y z i _ _ _ _ w ha hi rfl rfl rfl rfl
end Go.Proofs.YtbnfanmolphliaaDoor
