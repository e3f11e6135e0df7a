import Derived.Test.YtbnfanmolphliaaDoorFh
import Derived.Test.YtbnfanmolphliaaDoorRk
import Derived.Test.YtbnfanmolphliaaDoorRows
import Derived.LaidMore
import Derived.Stop.Joined
import Derived.Lib.LaidTab
/-! What the rows of the curve's laws share: 32 bytes opened; the laid variables. -/
namespace Go.Proofs.YtbnfanmolphliaaDoor
open Go.ChangeShapes Go.WideShapes Go.ChangeAt Go.RowKit Go.Toll Go.Lib
open TollMont (W R lim)
open TollEc (F pp cb nn)
set_option maxRecDepth 100000
theorem Tryd.own : ownKnob Tryd.prog.godebug = none := by kernel_rfl
theorem cells22 : Tryd.prog.cellsOf 22 = 32 := by kernel_rfl
theorem cells5 : Tryd.prog.cellsOf 5 = 1 := by kernel_rfl
theorem cells59 : Tryd.prog.cellsOf 59 = 4 := by kernel_rfl
theorem cells28 : Tryd.prog.cellsOf 28 = 1 := by kernel_rfl
theorem cons_of {α : Type} {n : Nat} {l : List α} (h : l.length = n + 1) : ∃ a t, l = a :: t ∧ t.length = n := by
  cases l with
  | nil => cases h
  | cons a t => exact ⟨a, t, rfl, by simpa using h⟩
theorem byte_cons {n : Nat} {l : List Int} (h : l.length = n + 1) (hw : ∀ z ∈ l, (Lit.int .u8 z).wf = true) : ∃ (b : Nat) (t : List Int), l = (b : Int) :: t ∧ b < 256 ∧ t.length = n ∧ ∀ z ∈ t, (Lit.int .u8 z).wf = true := by
  obtain ⟨a, t, rfl, ht⟩ := cons_of h
  obtain ⟨b, rfl, hb⟩ := byte_of (hw a (by simp))
  exact ⟨b, t, rfl, hb, ht, fun z hz => hw z (by simp [hz])⟩
theorem bytes32 {l : List Int} (h : l.length = 32) (hw : ∀ z ∈ l, (Lit.int .u8 z).wf = true) : ∃ b0 b1 b2 b3 b4 b5 b6 b7 b8 b9 b10 b11 b12 b13 b14 b15 b16 b17 b18 b19 b20 b21 b22 b23 b24 b25 b26 b27 b28 b29 b30 b31 : Nat, l = [(b0 : Int), (b1 : Int), (b2 : Int), (b3 : Int), (b4 : Int), (b5 : Int), (b6 : Int), (b7 : Int), (b8 : Int), (b9 : Int), (b10 : Int), (b11 : Int), (b12 : Int), (b13 : Int), (b14 : Int), (b15 : Int), (b16 : Int), (b17 : Int), (b18 : Int), (b19 : Int), (b20 : Int), (b21 : Int), (b22 : Int), (b23 : Int), (b24 : Int), (b25 : Int), (b26 : Int), (b27 : Int), (b28 : Int), (b29 : Int), (b30 : Int), (b31 : Int)] ∧ b0 < 256 ∧ b1 < 256 ∧ b2 < 256 ∧ b3 < 256 ∧ b4 < 256 ∧ b5 < 256 ∧ b6 < 256 ∧ b7 < 256 ∧ b8 < 256 ∧ b9 < 256 ∧ b10 < 256 ∧ b11 < 256 ∧ b12 < 256 ∧ b13 < 256 ∧ b14 < 256 ∧ b15 < 256 ∧ b16 < 256 ∧ b17 < 256 ∧ b18 < 256 ∧ b19 < 256 ∧ b20 < 256 ∧ b21 < 256 ∧ b22 < 256 ∧ b23 < 256 ∧ b24 < 256 ∧ b25 < 256 ∧ b26 < 256 ∧ b27 < 256 ∧ b28 < 256 ∧ b29 < 256 ∧ b30 < 256 ∧ b31 < 256 := by
  obtain ⟨b0, t0, e0, l0, h, hw⟩ := byte_cons h hw
  obtain ⟨b1, t1, e1, l1, h, hw⟩ := byte_cons h hw
  obtain ⟨b2, t2, e2, l2, h, hw⟩ := byte_cons h hw
  obtain ⟨b3, t3, e3, l3, h, hw⟩ := byte_cons h hw
  obtain ⟨b4, t4, e4, l4, h, hw⟩ := byte_cons h hw
  obtain ⟨b5, t5, e5, l5, h, hw⟩ := byte_cons h hw
  obtain ⟨b6, t6, e6, l6, h, hw⟩ := byte_cons h hw
  obtain ⟨b7, t7, e7, l7, h, hw⟩ := byte_cons h hw
  obtain ⟨b8, t8, e8, l8, h, hw⟩ := byte_cons h hw
  obtain ⟨b9, t9, e9, l9, h, hw⟩ := byte_cons h hw
  obtain ⟨b10, t10, e10, l10, h, hw⟩ := byte_cons h hw
  obtain ⟨b11, t11, e11, l11, h, hw⟩ := byte_cons h hw
  obtain ⟨b12, t12, e12, l12, h, hw⟩ := byte_cons h hw
  obtain ⟨b13, t13, e13, l13, h, hw⟩ := byte_cons h hw
  obtain ⟨b14, t14, e14, l14, h, hw⟩ := byte_cons h hw
  obtain ⟨b15, t15, e15, l15, h, hw⟩ := byte_cons h hw
  obtain ⟨b16, t16, e16, l16, h, hw⟩ := byte_cons h hw
  obtain ⟨b17, t17, e17, l17, h, hw⟩ := byte_cons h hw
  obtain ⟨b18, t18, e18, l18, h, hw⟩ := byte_cons h hw
  obtain ⟨b19, t19, e19, l19, h, hw⟩ := byte_cons h hw
  obtain ⟨b20, t20, e20, l20, h, hw⟩ := byte_cons h hw
  obtain ⟨b21, t21, e21, l21, h, hw⟩ := byte_cons h hw
  obtain ⟨b22, t22, e22, l22, h, hw⟩ := byte_cons h hw
  obtain ⟨b23, t23, e23, l23, h, hw⟩ := byte_cons h hw
  obtain ⟨b24, t24, e24, l24, h, hw⟩ := byte_cons h hw
  obtain ⟨b25, t25, e25, l25, h, hw⟩ := byte_cons h hw
  obtain ⟨b26, t26, e26, l26, h, hw⟩ := byte_cons h hw
  obtain ⟨b27, t27, e27, l27, h, hw⟩ := byte_cons h hw
  obtain ⟨b28, t28, e28, l28, h, hw⟩ := byte_cons h hw
  obtain ⟨b29, t29, e29, l29, h, hw⟩ := byte_cons h hw
  obtain ⟨b30, t30, e30, l30, h, hw⟩ := byte_cons h hw
  obtain ⟨b31, t31, e31, l31, h, hw⟩ := byte_cons h hw
  obtain rfl : t31 = [] := List.length_eq_zero_iff.1 h
  subst e31 e30 e29 e28 e27 e26 e25 e24 e23 e22 e21 e20 e19 e18 e17 e16 e15 e14 e13 e12 e11 e10 e9 e8 e7 e6 e5 e4 e3 e2 e1 e0
  exact ⟨b0, b1, b2, b3, b4, b5, b6, b7, b8, b9, b10, b11, b12, b13, b14, b15, b16, b17, b18, b19, b20, b21, b22, b23, b24, b25, b26, b27, b28, b29, b30, b31, rfl, l0, l1, l2, l3, l4, l5, l6, l7, l8, l9, l10, l11, l12, l13, l14, l15, l16, l17, l18, l19, l20, l21, l22, l23, l24, l25, l26, l27, l28, l29, l30, l31⟩
theorem b32_num {b0 b1 b2 b3 b4 b5 b6 b7 b8 b9 b10 b11 b12 b13 b14 b15 b16 b17 b18 b19 b20 b21 b22 b23 b24 b25 b26 b27 b28 b29 b30 b31 : Nat} (l0 : b0 < 256) (l1 : b1 < 256) (l2 : b2 < 256) (l3 : b3 < 256) (l4 : b4 < 256) (l5 : b5 < 256) (l6 : b6 < 256) (l7 : b7 < 256) (l8 : b8 < 256) (l9 : b9 < 256) (l10 : b10 < 256) (l11 : b11 < 256) (l12 : b12 < 256) (l13 : b13 < 256) (l14 : b14 < 256) (l15 : b15 < 256) (l16 : b16 < 256) (l17 : b17 < 256) (l18 : b18 < 256) (l19 : b19 < 256) (l20 : b20 < 256) (l21 : b21 < 256) (l22 : b22 < 256) (l23 : b23 < 256) (l24 : b24 < 256) (l25 : b25 < 256) (l26 : b26 < 256) (l27 : b27 < 256) (l28 : b28 < 256) (l29 : b29 < 256) (l30 : b30 < 256) (l31 : b31 < 256) : B32 (num32 b0 b1 b2 b3 b4 b5 b6 b7 b8 b9 b10 b11 b12 b13 b14 b15 b16 b17 b18 b19 b20 b21 b22 b23 b24 b25 b26 b27 b28 b29 b30 b31) = .agg #[.int .u8 (b0 : Nat), .int .u8 (b1 : Nat), .int .u8 (b2 : Nat), .int .u8 (b3 : Nat), .int .u8 (b4 : Nat), .int .u8 (b5 : Nat), .int .u8 (b6 : Nat), .int .u8 (b7 : Nat), .int .u8 (b8 : Nat), .int .u8 (b9 : Nat), .int .u8 (b10 : Nat), .int .u8 (b11 : Nat), .int .u8 (b12 : Nat), .int .u8 (b13 : Nat), .int .u8 (b14 : Nat), .int .u8 (b15 : Nat), .int .u8 (b16 : Nat), .int .u8 (b17 : Nat), .int .u8 (b18 : Nat), .int .u8 (b19 : Nat), .int .u8 (b20 : Nat), .int .u8 (b21 : Nat), .int .u8 (b22 : Nat), .int .u8 (b23 : Nat), .int .u8 (b24 : Nat), .int .u8 (b25 : Nat), .int .u8 (b26 : Nat), .int .u8 (b27 : Nat), .int .u8 (b28 : Nat), .int .u8 (b29 : Nat), .int .u8 (b30 : Nat), .int .u8 (b31 : Nat)] := by
  obtain ⟨h0, h1, h2, h3, _⟩ := num_parts l0 l1 l2 l3 l4 l5 l6 l7 l8 l9 l10 l11 l12 l13 l14 l15 l16 l17 l18 l19 l20 l21 l22 l23 l24 l25 l26 l27 l28 l29 l30 l31
  rw [← dn_B32, h0, h1, h2, h3]
  rw [byte0 _ _ _ _ _ _ _ _ l0 l1 l2 l3 l4 l5 l6 l7, byte1 _ _ _ _ _ _ _ _ l0 l1 l2 l3 l4 l5 l6 l7, byte2 _ _ _ _ _ _ _ _ l0 l1 l2 l3 l4 l5 l6 l7, byte3 _ _ _ _ _ _ _ _ l0 l1 l2 l3 l4 l5 l6 l7, byte4 _ _ _ _ _ _ _ _ l0 l1 l2 l3 l4 l5 l6 l7, byte5 _ _ _ _ _ _ _ _ l0 l1 l2 l3 l4 l5 l6 l7, byte6 _ _ _ _ _ _ _ _ l0 l1 l2 l3 l4 l5 l6 l7, byte7 _ _ _ _ _ _ _ _ l0 l1 l2 l3 l4 l5 l6 l7, byte0 _ _ _ _ _ _ _ _ l8 l9 l10 l11 l12 l13 l14 l15, byte1 _ _ _ _ _ _ _ _ l8 l9 l10 l11 l12 l13 l14 l15, byte2 _ _ _ _ _ _ _ _ l8 l9 l10 l11 l12 l13 l14 l15, byte3 _ _ _ _ _ _ _ _ l8 l9 l10 l11 l12 l13 l14 l15, byte4 _ _ _ _ _ _ _ _ l8 l9 l10 l11 l12 l13 l14 l15, byte5 _ _ _ _ _ _ _ _ l8 l9 l10 l11 l12 l13 l14 l15, byte6 _ _ _ _ _ _ _ _ l8 l9 l10 l11 l12 l13 l14 l15, byte7 _ _ _ _ _ _ _ _ l8 l9 l10 l11 l12 l13 l14 l15, byte0 _ _ _ _ _ _ _ _ l16 l17 l18 l19 l20 l21 l22 l23, byte1 _ _ _ _ _ _ _ _ l16 l17 l18 l19 l20 l21 l22 l23, byte2 _ _ _ _ _ _ _ _ l16 l17 l18 l19 l20 l21 l22 l23, byte3 _ _ _ _ _ _ _ _ l16 l17 l18 l19 l20 l21 l22 l23, byte4 _ _ _ _ _ _ _ _ l16 l17 l18 l19 l20 l21 l22 l23, byte5 _ _ _ _ _ _ _ _ l16 l17 l18 l19 l20 l21 l22 l23, byte6 _ _ _ _ _ _ _ _ l16 l17 l18 l19 l20 l21 l22 l23, byte7 _ _ _ _ _ _ _ _ l16 l17 l18 l19 l20 l21 l22 l23, byte0 _ _ _ _ _ _ _ _ l24 l25 l26 l27 l28 l29 l30 l31, byte1 _ _ _ _ _ _ _ _ l24 l25 l26 l27 l28 l29 l30 l31, byte2 _ _ _ _ _ _ _ _ l24 l25 l26 l27 l28 l29 l30 l31, byte3 _ _ _ _ _ _ _ _ l24 l25 l26 l27 l28 l29 l30 l31, byte4 _ _ _ _ _ _ _ _ l24 l25 l26 l27 l28 l29 l30 l31, byte5 _ _ _ _ _ _ _ _ l24 l25 l26 l27 l28 l29 l30 l31, byte6 _ _ _ _ _ _ _ _ l24 l25 l26 l27 l28 l29 l30 l31, byte7 _ _ _ _ _ _ _ _ l24 l25 l26 l27 l28 l29 l30 l31]
theorem open_b32 {H : Type} {enc : TypeId × Value → H} {w : World} {base : Nat} {sp : Nat → Bool} {held : Bool} {r : Reach} {b0 : Nat} {v : Value} {d : DataW H} {ps : List MemPlace}
    (hv : Value.okWide Tryd.prog w r b0 22 v) (hd : DataW.Trod enc Tryd.prog w base sp held 22 v d ps) :
    ∃ n, n < R ∧ v = B32 n ∧ ps = [] ∧ ∀ (w' : World) (b' : Nat) (sp' : Nat → Bool) (h' : Bool), DataW.Trod enc Tryd.prog w' b' sp' h' 22 (B32 n) d [] := by
  obtain ⟨zs, hl, rfl, rfl, rfl, hw⟩ := open_ints Tryd.underlying22 Tryd.underlying5 cells5 cells22 hv hd
  have hs := fun (w' : World) (b' : Nat) (sp' : Nat → Bool) (h' : Bool) => shut_ints (enc := enc) (w := w') (base := b') (sp := sp') (held := h') Tryd.underlying22 Tryd.underlying5 cells5 cells22 hl hw
  obtain ⟨b0, b1, b2, b3, b4, b5, b6, b7, b8, b9, b10, b11, b12, b13, b14, b15, b16, b17, b18, b19, b20, b21, b22, b23, b24, b25, b26, b27, b28, b29, b30, b31, rfl, l0, l1, l2, l3, l4, l5, l6, l7, l8, l9, l10, l11, l12, l13, l14, l15, l16, l17, l18, l19, l20, l21, l22, l23, l24, l25, l26, l27, l28, l29, l30, l31⟩ := bytes32 hl hw
  obtain ⟨_, _, _, _, hR⟩ := num_parts l0 l1 l2 l3 l4 l5 l6 l7 l8 l9 l10 l11 l12 l13 l14 l15 l16 l17 l18 l19 l20 l21 l22 l23 l24 l25 l26 l27 l28 l29 l30 l31
  refine ⟨(num32 b0 b1 b2 b3 b4 b5 b6 b7 b8 b9 b10 b11 b12 b13 b14 b15 b16 b17 b18 b19 b20 b21 b22 b23 b24 b25 b26 b27 b28 b29 b30 b31), hR, (b32_num l0 l1 l2 l3 l4 l5 l6 l7 l8 l9 l10 l11 l12 l13 l14 l15 l16 l17 l18 l19 l20 l21 l22 l23 l24 l25 l26 l27 l28 l29 l30 l31).symm, rfl, fun w' b' sp' h' => ?_⟩
  rw [b32_num l0 l1 l2 l3 l4 l5 l6 l7 l8 l9 l10 l11 l12 l13 l14 l15 l16 l17 l18 l19 l20 l21 l22 l23 l24 l25 l26 l27 l28 l29 l30 l31]
  exact hs w' b' sp' h'
theorem g_prime : Tryd.prog.globalNamed "tollgate/curve.prime" = some 3 := by kernel_rfl
theorem t_prime : (Tryd.prog.globals[3]?).map (·.type) = some 59 := by kernel_rfl
theorem l_prime : lims (pp) = [18446744073709551615, 4294967295, 0, 18446744069414584321].map (Value.int .u64) := by
  obtain ⟨e0, e1, e2, e3⟩ := lims_c28
  unfold lims; rw [e0, e1, e2, e3]; rfl
theorem g_order : Tryd.prog.globalNamed "tollgate/curve.order" = some 2 := by kernel_rfl
theorem t_order : (Tryd.prog.globals[2]?).map (·.type) = some 59 := by kernel_rfl
theorem l_order : lims (nn) = [17562291160714782033, 13611842547513532036, 18446744073709551615, 18446744069414584320].map (Value.int .u64) := by
  obtain ⟨e0, e1, e2, e3⟩ := lims_c16
  unfold lims; rw [e0, e1, e2, e3]; rfl
theorem g_coeff : Tryd.prog.globalNamed "tollgate/curve.coeff" = some 4 := by kernel_rfl
theorem t_coeff : (Tryd.prog.globals[4]?).map (·.type) = some 59 := by kernel_rfl
theorem l_coeff : lims (cb.val) = [4309448131093880907, 7285987128567378166, 12964664127075681980, 6540974713487397863].map (Value.int .u64) := by
  obtain ⟨e0, e1, e2, e3⟩ := lims_c39
  unfold lims; rw [e0, e1, e2, e3]; rfl
theorem g_baseX : Tryd.prog.globalNamed "tollgate/curve.baseX" = some 0 := by kernel_rfl
theorem t_baseX : (Tryd.prog.globals[0]?).map (·.type) = some 59 := by kernel_rfl
theorem l_baseX : lims (TollEc.bx.val) = [17627433388654248598, 8575836109218198432, 17923454489921339634, 7716867327612699207].map (Value.int .u64) := by
  obtain ⟨e0, e1, e2, e3⟩ := lims_c13
  unfold lims; rw [e0, e1, e2, e3]; rfl
theorem g_baseY : Tryd.prog.globalNamed "tollgate/curve.baseY" = some 1 := by kernel_rfl
theorem t_baseY : (Tryd.prog.globals[1]?).map (·.type) = some 59 := by kernel_rfl
theorem l_baseY : lims (TollEc.bY.val) = [14678990851816772085, 3156516839386865358, 10297457778147434006, 5756518291402817435].map (Value.int .u64) := by
  obtain ⟨e0, e1, e2, e3⟩ := lims_c14
  unfold lims; rw [e0, e1, e2, e3]; rfl
theorem cell_tab {H : Type} {enc : TypeId × Value → H} {name : String} {W : World} {g n base fuel : Nat} {sp : Nat → Bool} {held : Bool} {p : List MemPlace} {zs : List Int} {cs : Array Value} (hg : Tryd.prog.globalNamed name = some g) (hv : W.var? Tryd.prog name = some cs)
    (hd : DataW.trod enc Tryd.prog W base sp held fuel 59 cs.toList = some (tabData .u64 zs, p)) (hl : lims n = zs.map (Value.int .u64)) : ∀ (j : Nat) (v : Value), (lims n)[j]? = some v → W.cell? ⟨g, 0 + j, none⟩ = some v := fun j v hj => by
  have h1 := cells_of_tab Tryd.underlying59 Tryd.underlying28 cells28 cells59 hd
  have h2 := World.var?_cell hg hv (0 + j)
  rw [h2, Nat.zero_add]
  rw [hl, ← h1] at hj
  simpa using hj
def laidList : List (String × DataW Unit) := Rows.curveConstantsRow.laid
theorem of_laid {W : World} (h : laidMetH Tryd.prog laidList W) : Laid W := by
  unfold laidList at h
  rw [MakeChecks.laidMetH_plain _ _ _ (by kernel_rfl)] at h
  obtain ⟨ps, ⟨g0, t0, cs0, f0, p0, q0, hg0, ht0, hv0, hd0, ⟨g1, t1, cs1, f1, p1, q1, hg1, ht1, hv1, hd1, ⟨g2, t2, cs2, f2, p2, q2, hg2, ht2, hv2, hd2, ⟨g3, t3, cs3, f3, p3, q3, hg3, ht3, hv3, hd3, ⟨g4, t4, cs4, f4, p4, q4, hg4, ht4, hv4, hd4, _, _⟩, _⟩, _⟩, _⟩, _⟩, _, _⟩ := h
  obtain rfl := Option.some.inj (g_prime.symm.trans hg0)
  obtain rfl := Option.some.inj (t_prime.symm.trans ht0)
  obtain rfl := Option.some.inj (g_order.symm.trans hg1)
  obtain rfl := Option.some.inj (t_order.symm.trans ht1)
  obtain rfl := Option.some.inj (g_coeff.symm.trans hg2)
  obtain rfl := Option.some.inj (t_coeff.symm.trans ht2)
  obtain rfl := Option.some.inj (g_baseX.symm.trans hg3)
  obtain rfl := Option.some.inj (t_baseX.symm.trans ht3)
  obtain rfl := Option.some.inj (g_baseY.symm.trans hg4)
  obtain rfl := Option.some.inj (t_baseY.symm.trans ht4)
  exact ⟨cell_tab g_baseX hv3 hd3 l_baseX, cell_tab g_baseY hv4 hd4 l_baseY, cell_tab g_order hv1 hd1 l_order, cell_tab g_prime hv0 hd0 l_prime, cell_tab g_coeff hv2 hd2 l_coeff⟩
theorem door_met (os : Os) (args : Array Value) : laidMetH Tryd.prog laidList ((World.doorLaid Tryd.prog 34 os).forCall (fun _ _ => 0) ⟨#[], args, []⟩).memory :=
  laidMetH_of_parts3 (fuel := 8) (laidMet_of_run' 8 (by kernel_rfl) (by kernel_rfl)) (by kernel_rfl) (by kernel_rfl)
end Go.Proofs.YtbnfanmolphliaaDoor
