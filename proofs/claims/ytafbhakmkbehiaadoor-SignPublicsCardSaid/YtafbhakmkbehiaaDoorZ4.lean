import Derived.Test.YtafbhakmkbehiaaDoorZ3
section
namespace Go.Proofs.YtafbhakmkbehiaaDoor
open Go.RowKit Go.Toll TollMont
open TollEc (F pp cb Jp Pt jdouble jadd)
set_option maxRecDepth 100000
theorem eq_items2 {P : Program} {e : TypeId} {k k' : IntKind} (he : P.underlying e = some (.int k')) (d : Nat) (zs ys : List Int) (w : World) : ∀ (is : List Nat), (∀ j ∈ is, j < zs.length ∧ j < ys.length) →
    (Op.eqItems (d + 1) e 1 (zs.map (Value.int k)).toArray (ys.map (Value.int k)).toArray is).run P w = .ok (is.all fun j => zs.getD j 0 == ys.getD j 0) w
  | [], _ => by simp [Op.eqItems]
  | j :: is, h => by
    obtain ⟨hz, hy⟩ := h j (by simp)
    have hp : (part e (zs.map (Value.int k)).toArray (j * 1)).run P w = .ok (.int k zs[j]) w := by
      simp [part, run_isAgg he, isAggD, hz]
    have hq : (part e (ys.map (Value.int k)).toArray (j * 1)).run P w = .ok (.int k ys[j]) w := by
      simp [part, run_isAgg he, isAggD, hy]
    have hi := run_equalIn_int w d e k k' zs[j] ys[j] he
    have ih := eq_items2 (k := k) he d zs ys w is fun i hi => h i (by simp [hi])
    simp only [Op.eqItems, Sem.run_bind, hp, hq, Result.andThen_ok, hi, List.all_cons, List.getD_eq_getElem?_getD, List.getElem?_eq_getElem hz, List.getElem?_eq_getElem hy, Option.getD_some]
    by_cases hc : zs[j] = ys[j]
    · simp only [hc, beq_self_eq_true, Bool.not_true, Bool.false_eq_true, if_false, Bool.true_and]
      simpa only [List.getD_eq_getElem?_getD] using ih
    · simp [hc]
def blist (n : Nat) : List Int := (List.range 32).map fun i => ((byt n i : Nat) : Int)
theorem bytes8_inj {a c : Nat} (ha : a < W) (hc : c < W) (h : ∀ i, i < 8 → a / 2 ^ (56 - 8 * i) % 256 = c / 2 ^ (56 - 8 * i) % 256) : a = c := by
  have h0 : a / 72057594037927936 % 256 = c / 72057594037927936 % 256 := h 0 (by decide)
  have h1 : a / 281474976710656 % 256 = c / 281474976710656 % 256 := h 1 (by decide)
  have h2 : a / 1099511627776 % 256 = c / 1099511627776 % 256 := h 2 (by decide)
  have h3 : a / 4294967296 % 256 = c / 4294967296 % 256 := h 3 (by decide)
  have h4 : a / 16777216 % 256 = c / 16777216 % 256 := h 4 (by decide)
  have h5 : a / 65536 % 256 = c / 65536 % 256 := h 5 (by decide)
  have h6 : a / 256 % 256 = c / 256 % 256 := h 6 (by decide)
  have h7 : a / 1 % 256 = c / 1 % 256 := h 7 (by decide)
  simp only [W] at ha hc
  clear h
  omega
theorem bytes_inj {x y : Nat} (hx : x < R) (hy : y < R) (h : ∀ i, i < 32 → byt x i = byt y i) : x = y := by
  have g : ∀ g, g < 4 → lim x (3 - g) = lim y (3 - g) := fun g hg => by
    refine bytes8_inj (lim_lt _ _) (lim_lt _ _) fun i hi => ?_
    have := h (8 * g + i) (by omega)
    unfold byt at this
    rwa [show (8 * g + i) / 8 = g by omega, show (8 * g + i) % 8 = i by omega] at this
  exact lim_inj hx hy (g 3 (by omega)) (g 2 (by omega)) (g 1 (by omega)) (g 0 (by omega))
theorem eqB_all {x y : Nat} (hx : x < R) (hy : y < R) : ((List.range 32).all fun j => (blist x).getD j 0 == (blist y).getD j 0) = decide (x = y) := by
  rw [Bool.eq_iff_iff, List.all_eq_true, decide_eq_true_iff]
  constructor
  · intro h
    refine bytes_inj hx hy fun i hi => ?_
    have := h i (by simpa using hi)
    simp [blist, hi] at this
    omega
  · rintro rfl i _
    exact beq_self_eq_true _
theorem eqB2 (d : Nat) {x y : Nat} (hx : x < R) (hy : y < R) (w : World) : (Op.equalIn (d + 2) 23 (.agg #[.int .u8 (byt x 0 : Nat), .int .u8 (byt x 1 : Nat), .int .u8 (byt x 2 : Nat), .int .u8 (byt x 3 : Nat), .int .u8 (byt x 4 : Nat), .int .u8 (byt x 5 : Nat), .int .u8 (byt x 6 : Nat), .int .u8 (byt x 7 : Nat), .int .u8 (byt x 8 : Nat), .int .u8 (byt x 9 : Nat), .int .u8 (byt x 10 : Nat), .int .u8 (byt x 11 : Nat), .int .u8 (byt x 12 : Nat), .int .u8 (byt x 13 : Nat), .int .u8 (byt x 14 : Nat), .int .u8 (byt x 15 : Nat), .int .u8 (byt x 16 : Nat), .int .u8 (byt x 17 : Nat), .int .u8 (byt x 18 : Nat), .int .u8 (byt x 19 : Nat), .int .u8 (byt x 20 : Nat), .int .u8 (byt x 21 : Nat), .int .u8 (byt x 22 : Nat), .int .u8 (byt x 23 : Nat), .int .u8 (byt x 24 : Nat), .int .u8 (byt x 25 : Nat), .int .u8 (byt x 26 : Nat), .int .u8 (byt x 27 : Nat), .int .u8 (byt x 28 : Nat), .int .u8 (byt x 29 : Nat), .int .u8 (byt x 30 : Nat), .int .u8 (byt x 31 : Nat)]) (.agg #[.int .u8 (byt y 0 : Nat), .int .u8 (byt y 1 : Nat), .int .u8 (byt y 2 : Nat), .int .u8 (byt y 3 : Nat), .int .u8 (byt y 4 : Nat), .int .u8 (byt y 5 : Nat), .int .u8 (byt y 6 : Nat), .int .u8 (byt y 7 : Nat), .int .u8 (byt y 8 : Nat), .int .u8 (byt y 9 : Nat), .int .u8 (byt y 10 : Nat), .int .u8 (byt y 11 : Nat), .int .u8 (byt y 12 : Nat), .int .u8 (byt y 13 : Nat), .int .u8 (byt y 14 : Nat), .int .u8 (byt y 15 : Nat), .int .u8 (byt y 16 : Nat), .int .u8 (byt y 17 : Nat), .int .u8 (byt y 18 : Nat), .int .u8 (byt y 19 : Nat), .int .u8 (byt y 20 : Nat), .int .u8 (byt y 21 : Nat), .int .u8 (byt y 22 : Nat), .int .u8 (byt y 23 : Nat), .int .u8 (byt y 24 : Nat), .int .u8 (byt y 25 : Nat), .int .u8 (byt y 26 : Nat), .int .u8 (byt y 27 : Nat), .int .u8 (byt y 28 : Nat), .int .u8 (byt y 29 : Nat), .int .u8 (byt y 30 : Nat), .int .u8 (byt y 31 : Nat)])).run Tryd.prog w = .ok (decide (x = y)) w := by
  have h := eq_items2 (k := .u8) Tryd.underlying5 d (blist x) (blist y) w (List.range 32) (by intro j hj; simp [blist] at *; exact hj)
  rw [eqB_all hx hy] at h
  show (Op.equalIn (d + 2) 23 (.agg ((blist x).map (Value.int .u8)).toArray) (.agg ((blist y).map (Value.int .u8)).toArray)).run Tryd.prog w = _
  rw [run_equalIn_array w (d + 1) _ _ Tryd.underlying23 (i := Tryd.prog.types[5]) rfl, show Tryd.prog.cellsOf 5 = 1 by kernel_rfl]
  exact h
theorem eq_pt {x y x' y' : Nat} (hx : x < R) (hy : y < R) (hx' : x' < R) (hy' : y' < R) (p q : Operand) (w : World) : (do eqGuard .eql 26 p q (PT x y) (PT x' y'); binOp .eql 26 (PT x y) (PT x' y') : Sem Value).run Tryd.prog w = .ok (.bool (decide (x = x' ∧ y = y'))) w := by
  unfold PT
  go_simp
  rw [eqB2 _ hx hx']
  by_cases h : x = x'
  · simp [h, eqB2 _ hy hy', Result.andThen]
    by_cases h2 : y = y' <;> simp [h2]
  · simp [h, Result.andThen]
def onF (x y : F) : Bool := decide (y * y = (x * x - 3) * x + cb)
theorem onF_iff {x y : F} : onF x y = true ↔ TollEc.onE x y := by
  unfold onF TollEc.onE
  rw [decide_eq_true_iff, show (x * x - 3) * x + cb = x * x * x - 3 * x + cb by grind -lia]
def onB (x y : Nat) : Bool := if h : x < pp ∧ y < pp then onF ⟨x, h.1⟩ ⟨y, h.2⟩ else false
theorem on_ok {b x y : Nat} (hx : x < R) (hy : y < R) (w : World) (ha : At w b pp) (hL : Laid w) : Calls Tryd.prog 16 #[FV b, PT x y] w fun e w' => e = .returned (.bool (onB x y)) ∧ Gw w w' := by
  by_cases h1 : x < pp
  · by_cases h2 : y < pp
    · have h := on_f (b := b) ⟨x, h1⟩ ⟨y, h2⟩ w ha hL
      rw [show onB x y = onF ⟨x, h1⟩ ⟨y, h2⟩ from dif_pos ⟨h1, h2⟩]; exact h
    · rw [show onB x y = false from dif_neg (fun c => h2 c.2)]; exact on_y hx hy w ha hL h1 h2
  · rw [show onB x y = false from dif_neg (fun c => h1 c.1)]; exact on_x hx hy w ha hL h1
def toP (x y : Nat) : Pt := if h : x < pp ∧ y < pp then (if onF ⟨x, h.1⟩ ⟨y, h.2⟩ then .aff ⟨x, h.1⟩ ⟨y, h.2⟩ else .inf) else .inf
def liftJ (x y : Nat) : Jp := if h : x < pp ∧ y < pp then (if onF ⟨x, h.1⟩ ⟨y, h.2⟩ then ⟨⟨x, h.1⟩, ⟨y, h.2⟩, 1⟩ else ⟨0, 0, 0⟩) else ⟨0, 0, 0⟩
theorem lift_ok {b x y : Nat} (hx : x < R) (hy : y < R) (w : World) (ha : At w b pp) (hL : Laid w) : Calls Tryd.prog 37 #[FV b, PT x y] w fun e w' => e = .returned (TF (liftJ x y)) ∧ Gw w w' := by
  have hon := fun (w' : World) (hw : Gw w w') => on_ok hx hy w' (ha.gw hw) (hL.gw hw)
  by_cases h : x < pp ∧ y < pp
  · by_cases h2 : onF ⟨x, h.1⟩ ⟨y, h.2⟩ = true
    · have e : onB x y = true := (dif_pos h).trans h2
      rw [e] at hon
      rw [show liftJ x y = ⟨⟨x, h.1⟩, ⟨y, h.2⟩, 1⟩ from (dif_pos h).trans (if_pos h2)]
      exact lift_yes ⟨x, h.1⟩ ⟨y, h.2⟩ w hon
    · have e : onB x y = false := (dif_pos h).trans (by simpa using h2)
      rw [e] at hon
      rw [show liftJ x y = ⟨0, 0, 0⟩ from (dif_pos h).trans (if_neg h2)]
      exact lift_no w hon
  · have e : onB x y = false := dif_neg h
    rw [e] at hon
    rw [show liftJ x y = ⟨0, 0, 0⟩ from dif_neg h]
    exact lift_no w hon
theorem lift_rep (x y : Nat) : (liftJ x y).rep = toP x y := by
  unfold liftJ toP
  split
  · split
    · exact TollEc.rep_one _ _
    · exact TollEc.rep_inf rfl
  · exact TollEc.rep_inf rfl
theorem toP_on (x y : Nat) : (toP x y).on := by
  unfold toP
  split
  · split
    · rename_i h; exact onF_iff.1 h
    · exact True.intro
  · exact True.intro
def xv : Pt → Nat
  | .inf => 0
  | .aff x _ => x.val
def yv : Pt → Nat
  | .inf => 0
  | .aff _ y => y.val
def PV (p : Pt) : Value := PT (xv p) (yv p)
theorem xv_lt (p : Pt) : xv p < R := by cases p with | inf => decide | aff x y => exact val_lt x
theorem yv_lt (p : Pt) : yv p < R := by cases p with | inf => decide | aff x y => exact val_lt y
theorem toP_PV {p : Pt} (h : p.on) : toP (xv p) (yv p) = p := by
  cases p with
  | inf =>
    have : onF ⟨0, by decide⟩ ⟨0, by decide⟩ = false := by decide +kernel
    exact (dif_pos ⟨by decide, by decide⟩).trans (if_neg (fun c => Bool.false_ne_true (this.symm.trans c)))
  | aff x y => exact (dif_pos ⟨x.isLt, y.isLt⟩).trans (if_pos (onF_iff.2 h))
theorem drop_ok {b : Nat} (j : Jp) (w : World) (ha : At w b pp) : Calls Tryd.prog 35 #[FV b, TF j] w fun e w' => e = .returned (PV j.rep) ∧ Gw w w' := by
  obtain ⟨x, y, z⟩ := j
  by_cases h : z = 0
  · subst h
    rw [TollEc.rep_inf rfl]; exact drop_inf x y w ha
  · obtain ⟨i, hi⟩ := TollEc.inv_ex z h
    rw [TollEc.rep_of (j := ⟨x, y, z⟩) hi]
    exact drop_aff x y z i _ _ _ _ w ha hi rfl rfl rfl rfl
end Go.Proofs.YtafbhakmkbehiaaDoor
end
section
namespace Go.Proofs.YtafbhakmkbehiaaDoor
open Go.RowKit Go.Toll TollMont
open TollEc (F pp cb Jp Pt jdouble jadd)
set_option maxHeartbeats 4000000
set_option maxRecDepth 100000
theorem eq_pt0 {x y : Nat} (hx : x = 0) (hy : y = 0) (p q : Operand) (w : World) : (do eqGuard .eql 26 p q (PT x y) (.agg #[.int .u8 0, .int .u8 0, .int .u8 0, .int .u8 0, .int .u8 0, .int .u8 0, .int .u8 0, .int .u8 0, .int .u8 0, .int .u8 0, .int .u8 0, .int .u8 0, .int .u8 0, .int .u8 0, .int .u8 0, .int .u8 0, .int .u8 0, .int .u8 0, .int .u8 0, .int .u8 0, .int .u8 0, .int .u8 0, .int .u8 0, .int .u8 0, .int .u8 0, .int .u8 0, .int .u8 0, .int .u8 0, .int .u8 0, .int .u8 0, .int .u8 0, .int .u8 0, .int .u8 0, .int .u8 0, .int .u8 0, .int .u8 0, .int .u8 0, .int .u8 0, .int .u8 0, .int .u8 0, .int .u8 0, .int .u8 0, .int .u8 0, .int .u8 0, .int .u8 0, .int .u8 0, .int .u8 0, .int .u8 0, .int .u8 0, .int .u8 0, .int .u8 0, .int .u8 0, .int .u8 0, .int .u8 0, .int .u8 0, .int .u8 0, .int .u8 0, .int .u8 0, .int .u8 0, .int .u8 0, .int .u8 0, .int .u8 0, .int .u8 0, .int .u8 0]); binOp .eql 26 (PT x y) (.agg #[.int .u8 0, .int .u8 0, .int .u8 0, .int .u8 0, .int .u8 0, .int .u8 0, .int .u8 0, .int .u8 0, .int .u8 0, .int .u8 0, .int .u8 0, .int .u8 0, .int .u8 0, .int .u8 0, .int .u8 0, .int .u8 0, .int .u8 0, .int .u8 0, .int .u8 0, .int .u8 0, .int .u8 0, .int .u8 0, .int .u8 0, .int .u8 0, .int .u8 0, .int .u8 0, .int .u8 0, .int .u8 0, .int .u8 0, .int .u8 0, .int .u8 0, .int .u8 0, .int .u8 0, .int .u8 0, .int .u8 0, .int .u8 0, .int .u8 0, .int .u8 0, .int .u8 0, .int .u8 0, .int .u8 0, .int .u8 0, .int .u8 0, .int .u8 0, .int .u8 0, .int .u8 0, .int .u8 0, .int .u8 0, .int .u8 0, .int .u8 0, .int .u8 0, .int .u8 0, .int .u8 0, .int .u8 0, .int .u8 0, .int .u8 0, .int .u8 0, .int .u8 0, .int .u8 0, .int .u8 0, .int .u8 0, .int .u8 0, .int .u8 0, .int .u8 0]) : Sem Value).run Tryd.prog w = .ok (.bool true) w := by
  subst hx hy
  have := eq_pt (x := 0) (y := 0) (x' := 0) (y' := 0) (by decide) (by decide) (by decide) (by decide) p q w
  exact this
theorem eq_ptn {x y : Nat} (hx : x < R) (hy : y < R) (h : ¬ (x = 0 ∧ y = 0)) (p q : Operand) (w : World) : (do eqGuard .eql 26 p q (PT x y) (.agg #[.int .u8 0, .int .u8 0, .int .u8 0, .int .u8 0, .int .u8 0, .int .u8 0, .int .u8 0, .int .u8 0, .int .u8 0, .int .u8 0, .int .u8 0, .int .u8 0, .int .u8 0, .int .u8 0, .int .u8 0, .int .u8 0, .int .u8 0, .int .u8 0, .int .u8 0, .int .u8 0, .int .u8 0, .int .u8 0, .int .u8 0, .int .u8 0, .int .u8 0, .int .u8 0, .int .u8 0, .int .u8 0, .int .u8 0, .int .u8 0, .int .u8 0, .int .u8 0, .int .u8 0, .int .u8 0, .int .u8 0, .int .u8 0, .int .u8 0, .int .u8 0, .int .u8 0, .int .u8 0, .int .u8 0, .int .u8 0, .int .u8 0, .int .u8 0, .int .u8 0, .int .u8 0, .int .u8 0, .int .u8 0, .int .u8 0, .int .u8 0, .int .u8 0, .int .u8 0, .int .u8 0, .int .u8 0, .int .u8 0, .int .u8 0, .int .u8 0, .int .u8 0, .int .u8 0, .int .u8 0, .int .u8 0, .int .u8 0, .int .u8 0, .int .u8 0]); binOp .eql 26 (PT x y) (.agg #[.int .u8 0, .int .u8 0, .int .u8 0, .int .u8 0, .int .u8 0, .int .u8 0, .int .u8 0, .int .u8 0, .int .u8 0, .int .u8 0, .int .u8 0, .int .u8 0, .int .u8 0, .int .u8 0, .int .u8 0, .int .u8 0, .int .u8 0, .int .u8 0, .int .u8 0, .int .u8 0, .int .u8 0, .int .u8 0, .int .u8 0, .int .u8 0, .int .u8 0, .int .u8 0, .int .u8 0, .int .u8 0, .int .u8 0, .int .u8 0, .int .u8 0, .int .u8 0, .int .u8 0, .int .u8 0, .int .u8 0, .int .u8 0, .int .u8 0, .int .u8 0, .int .u8 0, .int .u8 0, .int .u8 0, .int .u8 0, .int .u8 0, .int .u8 0, .int .u8 0, .int .u8 0, .int .u8 0, .int .u8 0, .int .u8 0, .int .u8 0, .int .u8 0, .int .u8 0, .int .u8 0, .int .u8 0, .int .u8 0, .int .u8 0, .int .u8 0, .int .u8 0, .int .u8 0, .int .u8 0, .int .u8 0, .int .u8 0, .int .u8 0, .int .u8 0]) : Sem Value).run Tryd.prog w = .ok (.bool false) w := by
  have := eq_pt (x' := 0) (y' := 0) hx hy (by decide) (by decide) p q w
  rw [decide_eq_false h] at this
  exact this
theorem bitN {n k : Nat} (hk : k < 256) (w : World) : Calls Tryd.prog 39 #[N n, .int .i64 (((k + 1 : Nat) : Int) - 1)] w fun e w' => e = .returned (.int .i64 (n / 2 ^ k % 2 : Nat)) ∧ Gw w w' := by
  rw [show ((k + 1 : Nat) : Int) - 1 = (k : Int) by omega]; exact bit_ok n k hk w
theorem lad_t {n k : Nat} {t r : Jp} (hk : k < 256) (hb : n / 2 ^ k % 2 = 1) (hr : r = TollEc.ladder n t (256 - (k + 1))) : jadd (jdouble r) t = TollEc.ladder n t (256 - k) := by
  rw [hr, show 256 - k = (256 - (k + 1)) + 1 by omega]
  show _ = (if n / 2 ^ (255 - (256 - (k + 1))) % 2 = 1 then _ else _)
  rw [show 255 - (256 - (k + 1)) = k by omega, if_pos hb]
theorem lad_f {n k : Nat} {t r : Jp} (hk : k < 256) (hb : ¬ n / 2 ^ k % 2 = 1) (hr : r = TollEc.ladder n t (256 - (k + 1))) : jdouble r = TollEc.ladder n t (256 - k) := by
  rw [hr, show 256 - k = (256 - (k + 1)) + 1 by omega]
  show _ = (if n / 2 ^ (255 - (256 - (k + 1))) % 2 = 1 then _ else _)
  rw [show 255 - (256 - (k + 1)) = k by omega, if_neg hb]
theorem Add_ok {x y x' y' : Nat} (hx : x < R) (hy : y < R) (hx' : x' < R) (hy' : y' < R) (w : World) (hL : Laid w) : Calls Tryd.prog 11 #[PT x y, PT x' y'] w fun e w' => e = .returned (PV (jadd (liftJ x y) (liftJ x' y')).rep) ∧ Gw w w' := by
 go_enter Tryd.func11, Tryd.ntmps11
 refine ve_go ?_
 simp only [List.map_cons, List.map_nil]
 iterate 4 refine t_k2 ?_
 refine t_75 ?_
 iterate 3 refine t_k ?_
 refine t_s2 (by exact ev_callnewf rfl rfl (gn rfl) rfl (en_of Tryd.func15 (by kernel_rfl) rfl) (modc pp) 80 (fun w' hw' => newField_ok w' (hL.gw hw'))) ?_
 refine t_s2 (by exact ev_alloc rfl rfl (gn rfl) Tryd.zeroValue45) ?_
 refine t_s2 (by exact ev_storeap rfl (gn rfl) rfl rfl rfl Tryd.sizeOf45 (by simp)) ?_
 iterate 3 refine t_k ?_
 iterate 3 refine t_34 ?_
 refine t_28 ?_
 refine t_s2 (by exact ev_callp [6] rfl (gn rfl) rfl (en_of Tryd.func37 (by kernel_rfl) rfl) (fun ρ w' hs => lift_ok hx hy w' (at_own hs (by simp) rfl) (hL.gw hs.1))) ?_
 refine t_34 ?_
 refine t_28 ?_
 refine t_s2 (by exact ev_callp [6] rfl (gn rfl) rfl (en_of Tryd.func37 (by kernel_rfl) rfl) (fun ρ w' hs => lift_ok hx' hy' w' (at_own hs (by simp) rfl) (hL.gw hs.1))) ?_
 refine t_s2 (by exact ev_callp [6] rfl (gn rfl) rfl (en_of Tryd.func36 (by kernel_rfl) rfl) (fun ρ w' hs => add_ok2 _ _ w' (at_own hs (by simp) rfl))) ?_
 refine t_s2 (by exact ev_callp [6] rfl (gn rfl) rfl (en_of Tryd.func35 (by kernel_rfl) rfl) (fun ρ w' hs => drop_ok _ w' (at_own hs (by simp) rfl))) ?_
 refine t_44 ?_
 refine t_k ?_
 refine vret ?_
 refine post_ret (res1 Tryd.results11 (rv_cell rfl rfl Tryd.underlying26 rfl Tryd.sizeOf26 rfl rfl)) ?_
 intro w' hg
 exact ⟨rfl, hg⟩
theorem Times_core {n x y : Nat} (hn : n < R) (hx : x < R) (hy : y < R) (w : World) (hL : Laid w) : Calls Tryd.prog 12 #[B32 n, PT x y] w fun e w' => e = .returned (PV (TollEc.ladder n (liftJ x y) 256).rep) ∧ Gw w w' := by
 go_enter Tryd.func12, Tryd.ntmps12
 refine ve_go ?_
 simp only [List.map_cons, List.map_nil]
 iterate 4 refine t_k2 ?_
 refine t_75 ?_
 iterate 3 refine t_k ?_
 refine t_s2 (by exact ev_callnewf rfl rfl (gn rfl) rfl (en_of Tryd.func15 (by kernel_rfl) rfl) (modc pp) 80 (fun w' hw' => newField_ok w' (hL.gw hw'))) ?_
 refine t_s2 (by exact ev_alloc rfl rfl (gn rfl) Tryd.zeroValue45) ?_
 refine t_s2 (by exact ev_storeap rfl (gn rfl) rfl rfl rfl Tryd.sizeOf45 (by simp)) ?_
 iterate 3 refine t_k ?_
 refine t_19 ?_
 refine t_s2 (by exact ev_call rfl (gn rfl) rfl (en_of Tryd.func20 (by kernel_rfl) rfl) (fun w' hw' => ofN n hn w')) ?_
 refine t_34 ?_
 refine t_28 ?_
 refine t_s2 (by exact ev_callp [10] rfl (gn rfl) rfl (en_of Tryd.func37 (by kernel_rfl) rfl) (fun ρ w' hs => lift_ok hx hy w' (at_own hs (by simp) rfl) (hL.gw hs.1))) ?_
 refine t_13 ?_
 refine t_36 ?_
 refine t_11 ?_
 refine t_27 ?_
 iterate 3 refine t_k ?_
 refine t_36 ?_
 iterate 7 refine t_k2 ?_
 obtain ⟨t, ht⟩ : ∃ t, t = liftJ x y := ⟨_, rfl⟩
 rw [← ht]
 refine vloop_inv (fun i s => ∃ (r : Jp), i ≤ 256 ∧ r = TollEc.ladder n t (256 - i) ∧ s.fr = [.v (B32 n), .v (PT x y), .p 2 0, .p 3 0, .p 4 0, .p 5 0, .p 6 0, .p 7 0, .p 8 0, .v (.int .i64 ((i : Int) - 1)), .ap 10 0, s.fr.getD 11 default, s.fr.getD 12 default, s.fr.getD 13 default, s.fr.getD 14 default, s.fr.getD 15 default, s.fr.getD 16 default, s.fr.getD 17 default, s.fr.getD 18 default, s.fr.getD 19 default, s.fr.getD 20 default, s.fr.getD 21 default, s.fr.getD 22 default, s.fr.getD 23 default, s.fr.getD 24 default, s.fr.getD 25 default, s.fr.getD 26 default, s.fr.getD 27 default, s.fr.getD 28 default, s.fr.getD 29 default, s.fr.getD 30 default, s.fr.getD 31 default, s.fr.getD 32 default, s.fr.getD 33 default] ∧ s.mem = memOf [(8, ([.v (.int .u64 (lv r.x 0 : Nat)), .v (.int .u64 (lv r.x 1 : Nat)), .v (.int .u64 (lv r.x 2 : Nat)), .v (.int .u64 (lv r.x 3 : Nat)), .v (.int .u64 (lv r.y 0 : Nat)), .v (.int .u64 (lv r.y 1 : Nat)), .v (.int .u64 (lv r.y 2 : Nat)), .v (.int .u64 (lv r.y 3 : Nat)), .v (.int .u64 (lv r.z 0 : Nat)), .v (.int .u64 (lv r.z 1 : Nat)), .v (.int .u64 (lv r.z 2 : Nat)), .v (.int .u64 (lv r.z 3 : Nat))], 70)), (7, ([.v (.int .u64 (lv t.x 0 : Nat)), .v (.int .u64 (lv t.x 1 : Nat)), .v (.int .u64 (lv t.x 2 : Nat)), .v (.int .u64 (lv t.x 3 : Nat)), .v (.int .u64 (lv t.y 0 : Nat)), .v (.int .u64 (lv t.y 1 : Nat)), .v (.int .u64 (lv t.y 2 : Nat)), .v (.int .u64 (lv t.y 3 : Nat)), .v (.int .u64 (lv t.z 0 : Nat)), .v (.int .u64 (lv t.z 1 : Nat)), .v (.int .u64 (lv t.z 2 : Nat)), .v (.int .u64 (lv t.z 3 : Nat))], 70)), (6, ([.v (.int .u64 (lim n 0 : Nat)), .v (.int .u64 (lim n 1 : Nat)), .v (.int .u64 (lim n 2 : Nat)), .v (.int .u64 (lim n 3 : Nat))], 50)), (5, ([.p 10 0], 45)), (10, ((modc pp).map SV.v, 80)), (4, ([.v (.int .u8 0), .v (.int .u8 0), .v (.int .u8 0), .v (.int .u8 0), .v (.int .u8 0), .v (.int .u8 0), .v (.int .u8 0), .v (.int .u8 0), .v (.int .u8 0), .v (.int .u8 0), .v (.int .u8 0), .v (.int .u8 0), .v (.int .u8 0), .v (.int .u8 0), .v (.int .u8 0), .v (.int .u8 0), .v (.int .u8 0), .v (.int .u8 0), .v (.int .u8 0), .v (.int .u8 0), .v (.int .u8 0), .v (.int .u8 0), .v (.int .u8 0), .v (.int .u8 0), .v (.int .u8 0), .v (.int .u8 0), .v (.int .u8 0), .v (.int .u8 0), .v (.int .u8 0), .v (.int .u8 0), .v (.int .u8 0), .v (.int .u8 0), .v (.int .u8 0), .v (.int .u8 0), .v (.int .u8 0), .v (.int .u8 0), .v (.int .u8 0), .v (.int .u8 0), .v (.int .u8 0), .v (.int .u8 0), .v (.int .u8 0), .v (.int .u8 0), .v (.int .u8 0), .v (.int .u8 0), .v (.int .u8 0), .v (.int .u8 0), .v (.int .u8 0), .v (.int .u8 0), .v (.int .u8 0), .v (.int .u8 0), .v (.int .u8 0), .v (.int .u8 0), .v (.int .u8 0), .v (.int .u8 0), .v (.int .u8 0), .v (.int .u8 0), .v (.int .u8 0), .v (.int .u8 0), .v (.int .u8 0), .v (.int .u8 0), .v (.int .u8 0), .v (.int .u8 0), .v (.int .u8 0), .v (.int .u8 0)], 26)), (3, ([.v (.int .u8 (byt x 0 : Nat)), .v (.int .u8 (byt x 1 : Nat)), .v (.int .u8 (byt x 2 : Nat)), .v (.int .u8 (byt x 3 : Nat)), .v (.int .u8 (byt x 4 : Nat)), .v (.int .u8 (byt x 5 : Nat)), .v (.int .u8 (byt x 6 : Nat)), .v (.int .u8 (byt x 7 : Nat)), .v (.int .u8 (byt x 8 : Nat)), .v (.int .u8 (byt x 9 : Nat)), .v (.int .u8 (byt x 10 : Nat)), .v (.int .u8 (byt x 11 : Nat)), .v (.int .u8 (byt x 12 : Nat)), .v (.int .u8 (byt x 13 : Nat)), .v (.int .u8 (byt x 14 : Nat)), .v (.int .u8 (byt x 15 : Nat)), .v (.int .u8 (byt x 16 : Nat)), .v (.int .u8 (byt x 17 : Nat)), .v (.int .u8 (byt x 18 : Nat)), .v (.int .u8 (byt x 19 : Nat)), .v (.int .u8 (byt x 20 : Nat)), .v (.int .u8 (byt x 21 : Nat)), .v (.int .u8 (byt x 22 : Nat)), .v (.int .u8 (byt x 23 : Nat)), .v (.int .u8 (byt x 24 : Nat)), .v (.int .u8 (byt x 25 : Nat)), .v (.int .u8 (byt x 26 : Nat)), .v (.int .u8 (byt x 27 : Nat)), .v (.int .u8 (byt x 28 : Nat)), .v (.int .u8 (byt x 29 : Nat)), .v (.int .u8 (byt x 30 : Nat)), .v (.int .u8 (byt x 31 : Nat)), .v (.int .u8 (byt y 0 : Nat)), .v (.int .u8 (byt y 1 : Nat)), .v (.int .u8 (byt y 2 : Nat)), .v (.int .u8 (byt y 3 : Nat)), .v (.int .u8 (byt y 4 : Nat)), .v (.int .u8 (byt y 5 : Nat)), .v (.int .u8 (byt y 6 : Nat)), .v (.int .u8 (byt y 7 : Nat)), .v (.int .u8 (byt y 8 : Nat)), .v (.int .u8 (byt y 9 : Nat)), .v (.int .u8 (byt y 10 : Nat)), .v (.int .u8 (byt y 11 : Nat)), .v (.int .u8 (byt y 12 : Nat)), .v (.int .u8 (byt y 13 : Nat)), .v (.int .u8 (byt y 14 : Nat)), .v (.int .u8 (byt y 15 : Nat)), .v (.int .u8 (byt y 16 : Nat)), .v (.int .u8 (byt y 17 : Nat)), .v (.int .u8 (byt y 18 : Nat)), .v (.int .u8 (byt y 19 : Nat)), .v (.int .u8 (byt y 20 : Nat)), .v (.int .u8 (byt y 21 : Nat)), .v (.int .u8 (byt y 22 : Nat)), .v (.int .u8 (byt y 23 : Nat)), .v (.int .u8 (byt y 24 : Nat)), .v (.int .u8 (byt y 25 : Nat)), .v (.int .u8 (byt y 26 : Nat)), .v (.int .u8 (byt y 27 : Nat)), .v (.int .u8 (byt y 28 : Nat)), .v (.int .u8 (byt y 29 : Nat)), .v (.int .u8 (byt y 30 : Nat)), .v (.int .u8 (byt y 31 : Nat))], 26)), (2, ([.v (.int .u8 (byt n 0 : Nat)), .v (.int .u8 (byt n 1 : Nat)), .v (.int .u8 (byt n 2 : Nat)), .v (.int .u8 (byt n 3 : Nat)), .v (.int .u8 (byt n 4 : Nat)), .v (.int .u8 (byt n 5 : Nat)), .v (.int .u8 (byt n 6 : Nat)), .v (.int .u8 (byt n 7 : Nat)), .v (.int .u8 (byt n 8 : Nat)), .v (.int .u8 (byt n 9 : Nat)), .v (.int .u8 (byt n 10 : Nat)), .v (.int .u8 (byt n 11 : Nat)), .v (.int .u8 (byt n 12 : Nat)), .v (.int .u8 (byt n 13 : Nat)), .v (.int .u8 (byt n 14 : Nat)), .v (.int .u8 (byt n 15 : Nat)), .v (.int .u8 (byt n 16 : Nat)), .v (.int .u8 (byt n 17 : Nat)), .v (.int .u8 (byt n 18 : Nat)), .v (.int .u8 (byt n 19 : Nat)), .v (.int .u8 (byt n 20 : Nat)), .v (.int .u8 (byt n 21 : Nat)), .v (.int .u8 (byt n 22 : Nat)), .v (.int .u8 (byt n 23 : Nat)), .v (.int .u8 (byt n 24 : Nat)), .v (.int .u8 (byt n 25 : Nat)), .v (.int .u8 (byt n 26 : Nat)), .v (.int .u8 (byt n 27 : Nat)), .v (.int .u8 (byt n 28 : Nat)), .v (.int .u8 (byt n 29 : Nat)), .v (.int .u8 (byt n 30 : Nat)), .v (.int .u8 (byt n 31 : Nat))], 23))]) ?_ 256 ?_
 rotate_left
 · exact ⟨⟨0, 0, 0⟩, Nat.le_refl _, rfl, rfl, rfl⟩
 rintro i ⟨fr, mm⟩ ⟨r, hi, hr, hfr, hmm⟩
 obtain ⟨f, hf⟩ : ∃ f : Nat → SV, fr = [.v (B32 n), .v (PT x y), .p 2 0, .p 3 0, .p 4 0, .p 5 0, .p 6 0, .p 7 0, .p 8 0, .v (.int .i64 ((i : Int) - 1)), .ap 10 0, f 11, f 12, f 13, f 14, f 15, f 16, f 17, f 18, f 19, f 20, f 21, f 22, f 23, f 24, f 25, f 26, f 27, f 28, f 29, f 30, f 31, f 32, f 33] := ⟨fun i => fr.getD i default, hfr⟩
 clear hfr
 simp only at hmm
 subst hf hmm
 cases i with
 | succ k =>
   have hk : k < 256 := by omega
   have hdn : IntKind.i64.wrap (((k + 1 : Nat) : Int) - 1 - 1) = (k : Int) - 1 := by rw [i64w (by omega) (by omega)]; omega
   have hge : decide ((0 : Int) ≤ ((k + 1 : Nat) : Int) - 1) = true := decide_eq_true (by omega)
   by_cases hb : n / 2 ^ k % 2 = 1
   · have he : decide (((n / 2 ^ k % 2 : Nat) : Int) = 1) = true := decide_eq_true (by omega)
     iterate 4 refine t_k2 ?_
     refine t_s2 (by exact ev_geq (p := true) rfl (gn rfl) rfl rfl hge) ?_
     iterate 7 refine t_k ?_
     refine t_34 ?_
     refine t_21 ?_
     refine t_s2 (by exact ev_callp [10] rfl (gn rfl) rfl (en_of Tryd.func38 (by kernel_rfl) rfl) (fun ρ w' hs => double_ok _ w' (at_own hs (by simp) rfl))) ?_
     refine t_27 ?_
     iterate 3 refine t_k ?_
     refine t_0 ?_
     refine t_k2 ?_
     refine t_s2 (by exact ev_call rfl (gn rfl) rfl (en_of Tryd.func39 (by kernel_rfl) rfl) (fun w' hw' => bitN hk w')) ?_
     refine t_s2 (by exact ev_eql (p := true) rfl (gn rfl) rfl rfl he) ?_
     iterate 3 refine t_k ?_
     refine t_34 ?_
     iterate 2 refine t_21 ?_
     refine t_s2 (by exact ev_callp [10] rfl (gn rfl) rfl (en_of Tryd.func36 (by kernel_rfl) rfl) (fun ρ w' hs => add_ok2 _ _ w' (at_own hs (by simp) rfl))) ?_
     refine t_27 ?_
     iterate 3 refine t_k2 ?_
     refine t_s2 (by exact ev_sub rfl (gn rfl) rfl rfl hdn) ?_
     iterate 2 refine t_k2 ?_
     exact ⟨k, by omega, _, by omega, lad_t hk hb hr, rfl, rfl⟩
   · have he : decide (((n / 2 ^ k % 2 : Nat) : Int) = 1) = false := decide_eq_false (by omega)
     iterate 4 refine t_k2 ?_
     refine t_s2 (by exact ev_geq (p := true) rfl (gn rfl) rfl rfl hge) ?_
     iterate 7 refine t_k ?_
     refine t_34 ?_
     refine t_21 ?_
     refine t_s2 (by exact ev_callp [10] rfl (gn rfl) rfl (en_of Tryd.func38 (by kernel_rfl) rfl) (fun ρ w' hs => double_ok _ w' (at_own hs (by simp) rfl))) ?_
     refine t_27 ?_
     iterate 3 refine t_k ?_
     refine t_0 ?_
     refine t_k2 ?_
     refine t_s2 (by exact ev_call rfl (gn rfl) rfl (en_of Tryd.func39 (by kernel_rfl) rfl) (fun w' hw' => bitN hk w')) ?_
     refine t_s2 (by exact ev_eql (p := false) rfl (gn rfl) rfl rfl he) ?_
     iterate 5 refine t_k2 ?_
     refine t_s2 (by exact ev_sub rfl (gn rfl) rfl rfl hdn) ?_
     iterate 2 refine t_k2 ?_
     exact ⟨k, by omega, _, by omega, lad_f hk hb hr, rfl, rfl⟩
 | zero =>
   iterate 4 refine t_k2 ?_
   refine t_s2 (by exact ev_geq (p := false) rfl (gn rfl) rfl rfl (by decide)) ?_
   iterate 2 refine t_k ?_
   refine vexit ?_
   change VOk _ _ _ _ _
   change VOk _ _ _ _ _
   iterate 2 refine t_k ?_
   refine t_34 ?_
   refine t_21 ?_
   refine t_s2 (by exact ev_callp [10] rfl (gn rfl) rfl (en_of Tryd.func35 (by kernel_rfl) rfl) (fun ρ w' hs => drop_ok _ w' (at_own hs (by simp) rfl))) ?_
   refine t_44 ?_
   refine t_k ?_
   refine vret ?_
   refine post_ret (res1 Tryd.results12 (rv_cell rfl rfl Tryd.underlying26 rfl Tryd.sizeOf26 rfl rfl)) ?_
   intro w' hg
   exact ⟨by rw [hr, ht]; exact rfl, hg⟩
end Go.Proofs.YtafbhakmkbehiaaDoor
end
section
namespace Go.Proofs.YtafbhakmkbehiaaDoor
open Go.RowKit Go.Toll TollMont
open TollEc (F pp cb Jp Pt jdouble jadd smul add base nn)
set_option maxHeartbeats 4000000
set_option maxRecDepth 100000
theorem nPV (p : Pt) : Value.cells (PV p) = #[.int .u8 (byt (xv p) 0 : Nat), .int .u8 (byt (xv p) 1 : Nat), .int .u8 (byt (xv p) 2 : Nat), .int .u8 (byt (xv p) 3 : Nat), .int .u8 (byt (xv p) 4 : Nat), .int .u8 (byt (xv p) 5 : Nat), .int .u8 (byt (xv p) 6 : Nat), .int .u8 (byt (xv p) 7 : Nat), .int .u8 (byt (xv p) 8 : Nat), .int .u8 (byt (xv p) 9 : Nat), .int .u8 (byt (xv p) 10 : Nat), .int .u8 (byt (xv p) 11 : Nat), .int .u8 (byt (xv p) 12 : Nat), .int .u8 (byt (xv p) 13 : Nat), .int .u8 (byt (xv p) 14 : Nat), .int .u8 (byt (xv p) 15 : Nat), .int .u8 (byt (xv p) 16 : Nat), .int .u8 (byt (xv p) 17 : Nat), .int .u8 (byt (xv p) 18 : Nat), .int .u8 (byt (xv p) 19 : Nat), .int .u8 (byt (xv p) 20 : Nat), .int .u8 (byt (xv p) 21 : Nat), .int .u8 (byt (xv p) 22 : Nat), .int .u8 (byt (xv p) 23 : Nat), .int .u8 (byt (xv p) 24 : Nat), .int .u8 (byt (xv p) 25 : Nat), .int .u8 (byt (xv p) 26 : Nat), .int .u8 (byt (xv p) 27 : Nat), .int .u8 (byt (xv p) 28 : Nat), .int .u8 (byt (xv p) 29 : Nat), .int .u8 (byt (xv p) 30 : Nat), .int .u8 (byt (xv p) 31 : Nat), .int .u8 (byt (yv p) 0 : Nat), .int .u8 (byt (yv p) 1 : Nat), .int .u8 (byt (yv p) 2 : Nat), .int .u8 (byt (yv p) 3 : Nat), .int .u8 (byt (yv p) 4 : Nat), .int .u8 (byt (yv p) 5 : Nat), .int .u8 (byt (yv p) 6 : Nat), .int .u8 (byt (yv p) 7 : Nat), .int .u8 (byt (yv p) 8 : Nat), .int .u8 (byt (yv p) 9 : Nat), .int .u8 (byt (yv p) 10 : Nat), .int .u8 (byt (yv p) 11 : Nat), .int .u8 (byt (yv p) 12 : Nat), .int .u8 (byt (yv p) 13 : Nat), .int .u8 (byt (yv p) 14 : Nat), .int .u8 (byt (yv p) 15 : Nat), .int .u8 (byt (yv p) 16 : Nat), .int .u8 (byt (yv p) 17 : Nat), .int .u8 (byt (yv p) 18 : Nat), .int .u8 (byt (yv p) 19 : Nat), .int .u8 (byt (yv p) 20 : Nat), .int .u8 (byt (yv p) 21 : Nat), .int .u8 (byt (yv p) 22 : Nat), .int .u8 (byt (yv p) 23 : Nat), .int .u8 (byt (yv p) 24 : Nat), .int .u8 (byt (yv p) 25 : Nat), .int .u8 (byt (yv p) 26 : Nat), .int .u8 (byt (yv p) 27 : Nat), .int .u8 (byt (yv p) 28 : Nat), .int .u8 (byt (yv p) 29 : Nat), .int .u8 (byt (yv p) 30 : Nat), .int .u8 (byt (yv p) 31 : Nat)] := rfl
theorem AddX {x y x' y' : Nat} (hx : x < R) (hy : y < R) (hx' : x' < R) (hy' : y' < R) {s : Pt} (h : add (toP x y) (toP x' y') = s) (w : World) (hL : Laid w) : Calls Tryd.prog 11 #[PT x y, PT x' y'] w fun e w' => e = .returned (PV s) ∧ Gw w w' := by
  have := Add_ok hx hy hx' hy' w hL
  rw [TollEc.jadd_rep _ _ (by rw [lift_rep]; exact toP_on _ _) (by rw [lift_rep]; exact toP_on _ _), lift_rep, lift_rep, h] at this
  exact this
theorem AddE {p q s : Pt} (h : add p q = s) (hp : p.on) (hq : q.on) (w : World) (hL : Laid w) : Calls Tryd.prog 11 #[PV p, PV q] w fun e w' => e = .returned (PV s) ∧ Gw w w' :=
  AddX (xv_lt p) (yv_lt p) (xv_lt q) (yv_lt q) (by rw [toP_PV hp, toP_PV hq]; exact h) w hL
theorem TimesX {n x y : Nat} (hn : n < R) (hx : x < R) (hy : y < R) {s : Pt} (h : smul n (toP x y) = s) (w : World) (hL : Laid w) : Calls Tryd.prog 12 #[B32 n, PT x y] w fun e w' => e = .returned (PV s) ∧ Gw w w' := by
  have := Times_core hn hx hy w hL
  rw [TollEc.ladder_all n (show n < 2 ^ 256 from hn) _ (by rw [lift_rep]; exact toP_on _ _), lift_rep, h] at this
  exact this
theorem TimesE {n : Nat} {p s : Pt} (hn : n < R) (h : smul n p = s) (hp : p.on) (w : World) (hL : Laid w) : Calls Tryd.prog 12 #[B32 n, PV p] w fun e w' => e = .returned (PV s) ∧ Gw w w' :=
  TimesX hn (xv_lt p) (yv_lt p) (by rw [toP_PV hp]; exact h) w hL
theorem baseP (w : World) (hL : Laid w) : Calls Tryd.prog 13 #[] w fun e w' => e = .returned (PV base) ∧ Gw w w' := base_ok w hL
theorem mdn : Md nn := ⟨by decide, by decide, by decide⟩
theorem eqP_inf (a b : Operand) (w : World) : (do eqGuard .eql 26 a b (PV .inf) (.agg #[.int .u8 0, .int .u8 0, .int .u8 0, .int .u8 0, .int .u8 0, .int .u8 0, .int .u8 0, .int .u8 0, .int .u8 0, .int .u8 0, .int .u8 0, .int .u8 0, .int .u8 0, .int .u8 0, .int .u8 0, .int .u8 0, .int .u8 0, .int .u8 0, .int .u8 0, .int .u8 0, .int .u8 0, .int .u8 0, .int .u8 0, .int .u8 0, .int .u8 0, .int .u8 0, .int .u8 0, .int .u8 0, .int .u8 0, .int .u8 0, .int .u8 0, .int .u8 0, .int .u8 0, .int .u8 0, .int .u8 0, .int .u8 0, .int .u8 0, .int .u8 0, .int .u8 0, .int .u8 0, .int .u8 0, .int .u8 0, .int .u8 0, .int .u8 0, .int .u8 0, .int .u8 0, .int .u8 0, .int .u8 0, .int .u8 0, .int .u8 0, .int .u8 0, .int .u8 0, .int .u8 0, .int .u8 0, .int .u8 0, .int .u8 0, .int .u8 0, .int .u8 0, .int .u8 0, .int .u8 0, .int .u8 0, .int .u8 0, .int .u8 0, .int .u8 0]); binOp .eql 26 (PV .inf) (.agg #[.int .u8 0, .int .u8 0, .int .u8 0, .int .u8 0, .int .u8 0, .int .u8 0, .int .u8 0, .int .u8 0, .int .u8 0, .int .u8 0, .int .u8 0, .int .u8 0, .int .u8 0, .int .u8 0, .int .u8 0, .int .u8 0, .int .u8 0, .int .u8 0, .int .u8 0, .int .u8 0, .int .u8 0, .int .u8 0, .int .u8 0, .int .u8 0, .int .u8 0, .int .u8 0, .int .u8 0, .int .u8 0, .int .u8 0, .int .u8 0, .int .u8 0, .int .u8 0, .int .u8 0, .int .u8 0, .int .u8 0, .int .u8 0, .int .u8 0, .int .u8 0, .int .u8 0, .int .u8 0, .int .u8 0, .int .u8 0, .int .u8 0, .int .u8 0, .int .u8 0, .int .u8 0, .int .u8 0, .int .u8 0, .int .u8 0, .int .u8 0, .int .u8 0, .int .u8 0, .int .u8 0, .int .u8 0, .int .u8 0, .int .u8 0, .int .u8 0, .int .u8 0, .int .u8 0, .int .u8 0, .int .u8 0, .int .u8 0, .int .u8 0, .int .u8 0]) : Sem Value).run Tryd.prog w = .ok (.bool true) w := eq_pt0 rfl rfl a b w
theorem pv_zero {p : Pt} (h : p.on) : (xv p = 0 ∧ yv p = 0) ↔ p = .inf := by
  cases p with
  | inf => exact ⟨fun _ => rfl, fun _ => ⟨rfl, rfl⟩⟩
  | aff x y =>
    refine ⟨fun ⟨a, b⟩ => ?_, fun c => by cases c⟩
    have hx : x = ⟨0, by decide⟩ := Fin.ext a
    have hy : y = ⟨0, by decide⟩ := Fin.ext b
    subst hx hy
    exact absurd (onF_iff.2 h) (by decide +kernel)
theorem eqP_ninf {p : Pt} (hp : p.on) (h : p ≠ .inf) (a b : Operand) (w : World) : (do eqGuard .eql 26 a b (PV p) (.agg #[.int .u8 0, .int .u8 0, .int .u8 0, .int .u8 0, .int .u8 0, .int .u8 0, .int .u8 0, .int .u8 0, .int .u8 0, .int .u8 0, .int .u8 0, .int .u8 0, .int .u8 0, .int .u8 0, .int .u8 0, .int .u8 0, .int .u8 0, .int .u8 0, .int .u8 0, .int .u8 0, .int .u8 0, .int .u8 0, .int .u8 0, .int .u8 0, .int .u8 0, .int .u8 0, .int .u8 0, .int .u8 0, .int .u8 0, .int .u8 0, .int .u8 0, .int .u8 0, .int .u8 0, .int .u8 0, .int .u8 0, .int .u8 0, .int .u8 0, .int .u8 0, .int .u8 0, .int .u8 0, .int .u8 0, .int .u8 0, .int .u8 0, .int .u8 0, .int .u8 0, .int .u8 0, .int .u8 0, .int .u8 0, .int .u8 0, .int .u8 0, .int .u8 0, .int .u8 0, .int .u8 0, .int .u8 0, .int .u8 0, .int .u8 0, .int .u8 0, .int .u8 0, .int .u8 0, .int .u8 0, .int .u8 0, .int .u8 0, .int .u8 0, .int .u8 0]); binOp .eql 26 (PV p) (.agg #[.int .u8 0, .int .u8 0, .int .u8 0, .int .u8 0, .int .u8 0, .int .u8 0, .int .u8 0, .int .u8 0, .int .u8 0, .int .u8 0, .int .u8 0, .int .u8 0, .int .u8 0, .int .u8 0, .int .u8 0, .int .u8 0, .int .u8 0, .int .u8 0, .int .u8 0, .int .u8 0, .int .u8 0, .int .u8 0, .int .u8 0, .int .u8 0, .int .u8 0, .int .u8 0, .int .u8 0, .int .u8 0, .int .u8 0, .int .u8 0, .int .u8 0, .int .u8 0, .int .u8 0, .int .u8 0, .int .u8 0, .int .u8 0, .int .u8 0, .int .u8 0, .int .u8 0, .int .u8 0, .int .u8 0, .int .u8 0, .int .u8 0, .int .u8 0, .int .u8 0, .int .u8 0, .int .u8 0, .int .u8 0, .int .u8 0, .int .u8 0, .int .u8 0, .int .u8 0, .int .u8 0, .int .u8 0, .int .u8 0, .int .u8 0, .int .u8 0, .int .u8 0, .int .u8 0, .int .u8 0, .int .u8 0, .int .u8 0, .int .u8 0, .int .u8 0]) : Sem Value).run Tryd.prog w = .ok (.bool false) w :=
  eq_ptn (xv_lt p) (yv_lt p) (fun c => h ((pv_zero hp).1 c)) a b w
theorem lims_c13 : lim (TollEc.bx.val) 0 = 17627433388654248598 ∧ lim (TollEc.bx.val) 1 = 8575836109218198432 ∧ lim (TollEc.bx.val) 2 = 17923454489921339634 ∧ lim (TollEc.bx.val) 3 = 7716867327612699207 := by decide +kernel
theorem lims_c14 : lim (TollEc.bY.val) 0 = 14678990851816772085 ∧ lim (TollEc.bY.val) 1 = 3156516839386865358 ∧ lim (TollEc.bY.val) 2 = 10297457778147434006 ∧ lim (TollEc.bY.val) 3 = 5756518291402817435 := by decide +kernel
theorem lims_c16 : lim (nn) 0 = 17562291160714782033 ∧ lim (nn) 1 = 13611842547513532036 ∧ lim (nn) 2 = 18446744073709551615 ∧ lim (nn) 3 = 18446744069414584320 := by decide +kernel
theorem lims_c28 : lim (pp) 0 = 18446744073709551615 ∧ lim (pp) 1 = 4294967295 ∧ lim (pp) 2 = 0 ∧ lim (pp) 3 = 18446744069414584321 := by decide +kernel
theorem lims_c39 : lim (cb.val) 0 = 4309448131093880907 ∧ lim (cb.val) 1 = 7285987128567378166 ∧ lim (cb.val) 2 = 12964664127075681980 ∧ lim (cb.val) 3 = 6540974713487397863 := by decide +kernel
end Go.Proofs.YtafbhakmkbehiaaDoor
end
