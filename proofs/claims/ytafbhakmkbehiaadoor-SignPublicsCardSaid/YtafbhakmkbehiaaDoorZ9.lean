import Derived.Test.YtafbhakmkbehiaaDoorRows
import Derived.LaidMore
import Derived.Lay
import Derived.Stop.Joined
import Derived.ChangeSlices
import Derived.Lib.LaidTab
import Derived.Test.YtafbhakmkbehiaaDoorZ8
section
namespace Go.Proofs.YtafbhakmkbehiaaDoor
open Go.ChangeShapes Go.WideShapes Go.ChangeAt Go.RowKit Go.Vx Go.Lib
open TollSha (H0)
open TollMont (R)
open TollEc (pp cb nn)
set_option maxRecDepth 100000
theorem Tryd.own : ownKnob Tryd.prog.godebug = none := by kernel_rfl
theorem plainP : Plain Tryd.prog := ⟨by kernel_rfl, by kernel_rfl, by kernel_rfl⟩
theorem cells5 : Tryd.prog.cellsOf 5 = 1 := by kernel_rfl
theorem cells23 : Tryd.prog.cellsOf 23 = 32 := by kernel_rfl
theorem cells24 : Tryd.prog.cellsOf 24 = 64 := by kernel_rfl
theorem cells39 : Tryd.prog.cellsOf 100 = 1 := by kernel_rfl
theorem cellsS : Tryd.prog.cellsOf 101 = 8 := by kernel_rfl
theorem cellsR : Tryd.prog.cellsOf 109 = 64 := by kernel_rfl
theorem cellsN : Tryd.prog.cellsOf 50 = 4 := by kernel_rfl
theorem cellsW : Tryd.prog.cellsOf 48 = 1 := by kernel_rfl
theorem byts_of {zs : List Int} (h : ∀ z ∈ zs, (Lit.int .u8 z).wf = true) : ∃ bs : List Nat, zs.map (Value.int .u8) = bs.map b8 ∧ bs.length = zs.length ∧ ∀ x ∈ bs, x < 256 := by
  refine ⟨zs.map Int.toNat, ?_, by simp, ?_⟩
  · rw [List.map_map]
    apply List.map_congr_left
    intro z hz
    have := h z hz
    simp [Lit.wf, IntKind.min, IntKind.max, IntKind.bits, IntKind.signed] at this
    simp only [Function.comp, b8]
    rw [Int.toNat_of_nonneg (by omega)]
  · intro x hx
    obtain ⟨z, hz, rfl⟩ := List.mem_map.1 hx
    have := h z hz
    simp [Lit.wf, IntKind.min, IntKind.max, IntKind.bits, IntKind.signed] at this
    omega
theorem open_b {H : Type} {enc : TypeId × Value → H} {w : World} {base : Nat} {held : Bool} {fuel : Nat} {u : Value} {x : DataW H × List MemPlace}
    (hf : DataW.trod enc Tryd.prog w base (fun _ => true) held fuel 22 [u] = some x) : ∃ bs : List Nat, SlAt w u bs.length 1 (bs.map b8) (fun _ => True) ∧ ∀ x ∈ bs, x < 256 := by
  obtain ⟨d, ps⟩ := x
  rcases Go.ChangeShapes.open_ints Tryd.underlying22 Tryd.underlying5 cells5 hf with ⟨h, _⟩ | ⟨a, len', cap', zs, h, _, h1, _, h2, _, h3, h4⟩
  · simp only [List.cons.injEq, and_true] at h
    subst h
    exact ⟨[], ⟨none, 0, rfl, Nat.le_refl _, rfl, .inl rfl⟩, fun z hz => by cases hz⟩
  · simp only [List.cons.injEq, and_true] at h
    subst h
    simp only [if_true] at h2
    obtain ⟨bs, e1, e2, e3⟩ := byts_of (zs := zs.take len') fun z hz => h4 z (List.mem_of_mem_take hz)
    have hbl : bs.length = len' := by rw [e2, List.length_take]; omega
    refine ⟨bs, ⟨_, cap', by rw [hbl], by omega, by simp, .inr ⟨a, rfl, True.intro, fun i x hx => ?_⟩⟩, e3⟩
    rw [← e1, List.getElem?_map] at hx
    cases hz : (zs.take len')[i]? with
    | none => rw [hz] at hx; cases hx
    | some y =>
      rw [hz] at hx; simp only [Option.map_some, Option.some.injEq] at hx
      rw [List.getElem?_take] at hz
      split at hz
      · have hlt := (List.getElem?_eq_some_iff.1 hz).1
        have := h3 i hlt
        rw [show zs.getD i 0 = y by simp [List.getD, hz]] at this
        rw [this, hx]
      · cases hz
theorem open_sl {H : Type} {enc : TypeId × Value → H} {w : World} {base : Nat} {held : Bool} {r : Reach} {b0 : Nat} {v : Value} {d : DataW H} {ps : List MemPlace}
    (hv : Value.okWide Tryd.prog w r b0 22 v) (hd : DataW.Trod enc Tryd.prog w base (fun _ => true) held 22 v d ps) : ∃ bs : List Nat, SlAt w v bs.length 1 (bs.map b8) (fun _ => True) ∧ ∀ x ∈ bs, x < 256 := by
  obtain ⟨ao, len, cap, rfl⟩ := okWide_slice Tryd.underlying22 hv
  obtain ⟨fuel, hf⟩ := hd
  exact open_b (u := .slice ao len cap) (by exact hf)
theorem open_32 {H : Type} {enc : TypeId × Value → H} {w : World} {base : Nat} {sp : Nat → Bool} {held : Bool} {r : Reach} {b0 : Nat} {v : Value} {d : DataW H} {ps : List MemPlace}
    (hv : Value.okWide Tryd.prog w r b0 23 v) (hd : DataW.Trod enc Tryd.prog w base sp held 23 v d ps) : ∃ n, n < R ∧ v = B32 n := by
  obtain ⟨zs, hl, rfl, rfl, rfl, hw⟩ := Go.Toll.open_ints Tryd.underlying23 Tryd.underlying5 cells5 cells23 hv hd
  obtain ⟨bs, e1, e2, e3⟩ := byts_of hw
  have hbl : bs.length = 32 := by omega
  exact ⟨TollBy.beV bs 0, beV_R hbl e3, by rw [B32_bl, bl_beV hbl e3, e1]⟩
theorem open_64 {H : Type} {enc : TypeId × Value → H} {w : World} {base : Nat} {sp : Nat → Bool} {held : Bool} {r : Reach} {b0 : Nat} {v : Value} {d : DataW H} {ps : List MemPlace}
    (hv : Value.okWide Tryd.prog w r b0 24 v) (hd : DataW.Trod enc Tryd.prog w base sp held 24 v d ps) : ∃ x y, x < R ∧ y < R ∧ v = PT x y := by
  obtain ⟨zs, hl, rfl, rfl, rfl, hw⟩ := Go.Toll.open_ints Tryd.underlying24 Tryd.underlying5 cells5 cells24 hv hd
  obtain ⟨bs, e1, e2, e3⟩ := byts_of hw
  have l1 : (bs.take 32).length = 32 := by simp; omega
  have l2 : (bs.drop 32).length = 32 := by simp; omega
  have m1 : ∀ x ∈ bs.take 32, x < 256 := fun x hx => e3 x (List.mem_of_mem_take hx)
  have m2 : ∀ x ∈ bs.drop 32, x < 256 := fun x hx => e3 x (List.mem_of_mem_drop hx)
  refine ⟨TollBy.beV (bs.take 32) 0, TollBy.beV (bs.drop 32) 0, beV_R l1 m1, beV_R l2 m2, ?_⟩
  have hp : ∀ x y, PT x y = .agg ((bl x ++ bl y).map b8).toArray := fun _ _ => rfl
  rw [hp, bl_beV l1 m1, bl_beV l2 m2, List.take_append_drop, e1]
theorem g_start : Tryd.prog.globalNamed "tollgate/hash.start" = some 5 := by kernel_rfl
theorem t_start : (Tryd.prog.globals[5]?).map (·.type) = some 101 := by kernel_rfl
theorem g_rounds : Tryd.prog.globalNamed "tollgate/hash.rounds" = some 6 := by kernel_rfl
theorem t_rounds : (Tryd.prog.globals[6]?).map (·.type) = some 109 := by kernel_rfl
theorem g_prime : Tryd.prog.globalNamed "tollgate/curve.prime" = some 2 := by kernel_rfl
theorem t_prime : (Tryd.prog.globals[2]?).map (·.type) = some 50 := by kernel_rfl
theorem l_prime : lims (pp) = [18446744073709551615, 4294967295, 0, 18446744069414584321].map (Value.int .u64) := by
  obtain ⟨e0, e1, e2, e3⟩ := lims_c28
  unfold lims; rw [e0, e1, e2, e3]; rfl
theorem g_order : Tryd.prog.globalNamed "tollgate/curve.order" = some 4 := by kernel_rfl
theorem t_order : (Tryd.prog.globals[4]?).map (·.type) = some 50 := by kernel_rfl
theorem l_order : lims (nn) = [17562291160714782033, 13611842547513532036, 18446744073709551615, 18446744069414584320].map (Value.int .u64) := by
  obtain ⟨e0, e1, e2, e3⟩ := lims_c16
  unfold lims; rw [e0, e1, e2, e3]; rfl
theorem g_coeff : Tryd.prog.globalNamed "tollgate/curve.coeff" = some 3 := by kernel_rfl
theorem t_coeff : (Tryd.prog.globals[3]?).map (·.type) = some 50 := by kernel_rfl
theorem l_coeff : lims (cb.val) = [4309448131093880907, 7285987128567378166, 12964664127075681980, 6540974713487397863].map (Value.int .u64) := by
  obtain ⟨e0, e1, e2, e3⟩ := lims_c39
  unfold lims; rw [e0, e1, e2, e3]; rfl
theorem g_baseX : Tryd.prog.globalNamed "tollgate/curve.baseX" = some 0 := by kernel_rfl
theorem t_baseX : (Tryd.prog.globals[0]?).map (·.type) = some 50 := by kernel_rfl
theorem l_baseX : lims (TollEc.bx.val) = [17627433388654248598, 8575836109218198432, 17923454489921339634, 7716867327612699207].map (Value.int .u64) := by
  obtain ⟨e0, e1, e2, e3⟩ := lims_c13
  unfold lims; rw [e0, e1, e2, e3]; rfl
theorem g_baseY : Tryd.prog.globalNamed "tollgate/curve.baseY" = some 1 := by kernel_rfl
theorem t_baseY : (Tryd.prog.globals[1]?).map (·.type) = some 50 := by kernel_rfl
theorem l_baseY : lims (TollEc.bY.val) = [14678990851816772085, 3156516839386865358, 10297457778147434006, 5756518291402817435].map (Value.int .u64) := by
  obtain ⟨e0, e1, e2, e3⟩ := lims_c14
  unfold lims; rw [e0, e1, e2, e3]; rfl
theorem cell_tabc {H : Type} {enc : TypeId × Value → H} {name : String} {W : World} {g n base fuel : Nat} {sp : Nat → Bool} {held : Bool} {p : List MemPlace} {zs : List Int} {cs : Array Value} (hg : Tryd.prog.globalNamed name = some g) (hv : W.var? Tryd.prog name = some cs)
    (hd : DataW.trod enc Tryd.prog W base sp held fuel 50 cs.toList = some (tabData .u64 zs, p)) (hl : lims n = zs.map (Value.int .u64)) : ∀ (j : Nat) (v : Value), (lims n)[j]? = some v → W.cell? ⟨g, 0 + j, none⟩ = some v := fun j v hj => by
  have h1 := cells_of_tab Tryd.underlying50 Tryd.underlying48 cellsW cellsN hd
  have h2 := World.var?_cell hg hv (0 + j)
  rw [h2, Nat.zero_add]
  rw [hl, ← h1] at hj
  simpa using hj
theorem cell_tab {H : Type} {enc : TypeId × Value → H} {name : String} {W : World} {T n g base fuel : Nat} {sp : Nat → Bool} {held : Bool} {p : List MemPlace} {zs : List Int} {cs : Array Value} (hu : Tryd.prog.underlying T = some (.array n 100)) (hc : Tryd.prog.cellsOf T = n) (hg : Tryd.prog.globalNamed name = some g) (hv : W.var? Tryd.prog name = some cs)
    (hd : DataW.trod enc Tryd.prog W base sp held fuel T cs.toList = some (tabData .u32 zs, p)) : ∀ (j : Nat) (z : Int), zs[j]? = some z → W.cell? ⟨g, j, none⟩ = some (.int .u32 z) := fun j z hj => by
  have h1 := cells_of_tab hu Tryd.underlying100 cells39 hc hd
  have h2 := World.var?_cell hg hv j
  rw [h2]
  have : (zs.map (Value.int .u32))[j]? = some (.int .u32 z) := by rw [List.getElem?_map, hj]; rfl
  rw [← h1] at this
  simpa using this
def hTab : List Int := [1779033703, 3144134277, 1013904242, 2773480762, 1359893119, 2600822924, 528734635, 1541459225]
def kTab : List Int := [1116352408, 1899447441, 3049323471, 3921009573, 961987163, 1508970993, 2453635748, 2870763221, 3624381080, 310598401, 607225278, 1426881987, 1925078388, 2162078206, 2614888103, 3248222580, 3835390401, 4022224774, 264347078, 604807628, 770255983, 1249150122, 1555081692, 1996064986, 2554220882, 2821834349, 2952996808, 3210313671, 3336571891, 3584528711, 113926993, 338241895, 666307205, 773529912, 1294757372, 1396182291, 1695183700, 1986661051, 2177026350, 2456956037, 2730485921, 2820302411, 3259730800, 3345764771, 3516065817, 3600352804, 4094571909, 275423344, 430227734, 506948616, 659060556, 883997877, 958139571, 1322822218, 1537002063, 1747873779, 1955562222, 2024104815, 2227730452, 2361852424, 2428436474, 2756734187, 3204031479, 3329325298]
theorem hTab_eq : hTab.map (Value.int .u32) = [uv H0.a, uv H0.b, uv H0.c, uv H0.d, uv H0.e, uv H0.f, uv H0.g, uv H0.h] := by kernel_rfl
theorem kTab_eq : hTab.length = 8 ∧ kTab.length = 64 ∧ kTab.map (Value.int .u32) = TollSha.K.map uv := ⟨by kernel_rfl, by kernel_rfl, by kernel_rfl⟩
def laidList : List (String × DataW Unit) := Rows.signPublicsRow.laid
theorem of_laid {W : World} (h : laidMetH Tryd.prog laidList W) : Laid W ∧ LaidK W ∧ LaidH W ∧ 6 < W.heap.size := by
  unfold laidList at h
  rw [MakeChecks.laidMetH_plain _ _ _ (by kernel_rfl)] at h
  obtain ⟨ps, ⟨g0, t0, cs0, f0, p0, q0, hg0, ht0, hv0, hd0, ⟨g1, t1, cs1, f1, p1, q1, hg1, ht1, hv1, hd1, ⟨g2, t2, cs2, f2, p2, q2, hg2, ht2, hv2, hd2, ⟨g3, t3, cs3, f3, p3, q3, hg3, ht3, hv3, hd3, ⟨g4, t4, cs4, f4, p4, q4, hg4, ht4, hv4, hd4, ⟨g5, t5, cs5, f5, p5, q5, hg5, ht5, hv5, hd5, ⟨g6, t6, cs6, f6, p6, q6, hg6, ht6, hv6, hd6, _, _⟩, _⟩, _⟩, _⟩, _⟩, _⟩, _⟩, _⟩ := h
  obtain rfl := Option.some.inj (g_start.symm.trans hg0)
  obtain rfl := Option.some.inj (t_start.symm.trans ht0)
  obtain rfl := Option.some.inj (g_rounds.symm.trans hg1)
  obtain rfl := Option.some.inj (t_rounds.symm.trans ht1)
  obtain rfl := Option.some.inj (g_prime.symm.trans hg2)
  obtain rfl := Option.some.inj (t_prime.symm.trans ht2)
  obtain rfl := Option.some.inj (g_order.symm.trans hg3)
  obtain rfl := Option.some.inj (t_order.symm.trans ht3)
  obtain rfl := Option.some.inj (g_coeff.symm.trans hg4)
  obtain rfl := Option.some.inj (t_coeff.symm.trans ht4)
  obtain rfl := Option.some.inj (g_baseX.symm.trans hg5)
  obtain rfl := Option.some.inj (t_baseX.symm.trans ht5)
  obtain rfl := Option.some.inj (g_baseY.symm.trans hg6)
  obtain rfl := Option.some.inj (t_baseY.symm.trans ht6)
  have k1 : ∀ (j : Nat) (z : Int), kTab[j]? = some z → W.cell? ⟨6, j, none⟩ = some (.int .u32 z) := cell_tab Tryd.underlying109 cellsR g_rounds hv1 hd1
  have k0 : ∀ (j : Nat) (z : Int), hTab[j]? = some z → W.cell? ⟨5, j, none⟩ = some (.int .u32 z) := cell_tab Tryd.underlying101 cellsS g_start hv0 hd0
  have hK : LaidK W := fun i hi => by
    obtain ⟨z, e⟩ : ∃ z, kTab[i]? = some z := ⟨_, List.getElem?_eq_getElem (by rw [kTab_eq.2.1]; exact hi)⟩
    have := k1 i _ e
    rw [this]
    have e2 : (kTab.map (Value.int .u32))[i]? = some (.int .u32 z) := by rw [List.getElem?_map, e]; rfl
    rw [kTab_eq.2.2, List.getElem?_map] at e2
    cases hq : TollSha.K[i]? with
    | none => rw [hq] at e2; cases e2
    | some q =>
      rw [hq] at e2
      rw [List.getD_eq_getElem?_getD, hq]
      exact e2.symm
  refine ⟨⟨cell_tabc g_baseX hv5 hd5 l_baseX, cell_tabc g_baseY hv6 hd6 l_baseY, cell_tabc g_order hv3 hd3 l_order, cell_tabc g_prime hv2 hd2 l_prime, cell_tabc g_coeff hv4 hd4 l_coeff⟩, hK, fun j v hj => ?_, World.block_lt_of_cell? _ _ (hK 0 (by omega))⟩
  rw [← hTab_eq, List.getElem?_map] at hj
  cases hq : hTab[j]? with
  | none => rw [hq] at hj; cases hj
  | some z =>
    rw [hq] at hj
    obtain rfl : Value.int .u32 z = v := by simpa using hj
    exact k0 j z hq
end Go.Proofs.YtafbhakmkbehiaaDoor
end
