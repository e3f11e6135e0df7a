import Derived.Test.YtdhklekkpkbfeaaDoorSp
import Derived.Test.YtdhklekkpkbfeaaDoorRows
import Derived.ProofKit
import Derived.OpenShut
import Derived.LaidMore
import Derived.Lay
import Derived.Stop.Joined
import Derived.ChangeSlices
import Derived.Lib.LaidTab
/-! What the row of TollgateSums needs: texts, slices of slices of bytes opened; the laid variables. -/
namespace Go.Proofs.YtdhklekkpkbfeaaDoor
open Go.ChangeShapes Go.WideShapes Go.ChangeAt Go.RowKit Go.Vx Go.Lib
open TollSha
set_option maxRecDepth 100000
theorem Tryd.own : ownKnob Tryd.prog.godebug = none := by kernel_rfl
theorem plainP : Plain Tryd.prog := ⟨by kernel_rfl, by kernel_rfl, by kernel_rfl⟩
theorem cells5 : Tryd.prog.cellsOf 5 = 1 := by kernel_rfl
theorem cells27 : Tryd.prog.cellsOf 27 = 1 := by kernel_rfl
theorem cells39 : Tryd.prog.cellsOf 39 = 1 := by kernel_rfl
theorem cells40 : Tryd.prog.cellsOf 40 = 8 := by kernel_rfl
theorem cells50 : Tryd.prog.cellsOf 50 = 64 := by kernel_rfl
def laidList : List (String × DataW Unit) := Rows.tollgateSumsRow.laid
theorem str_bytes (s : ByteArray) : ∃ b : List Nat, s = bstr b ∧ (∀ x ∈ b, x < 256) ∧ b.length = s.size := by
  refine ⟨s.data.toList.map (·.toNat), ?_, ?_, by rw [List.length_map]; rfl⟩
  · apply ByteArray.ext
    simp only [bstr, List.map_map]
    apply Array.ext'
    simp [Function.comp_def]
  · intro x hx
    obtain ⟨c, _, rfl⟩ := List.mem_map.1 hx
    exact c.toNat_lt
theorem bytes_of {zs : List Int} (h : ∀ z ∈ zs, (Lit.int .u8 z).wf = true) : ∃ bs : List Nat, zs.map (Value.int .u8) = bs.map b8 ∧ bs.length = zs.length ∧ ∀ x ∈ bs, x < 256 := by
  refine ⟨zs.map Int.toNat, ?_, by simp, ?_⟩
  · rw [List.map_map]
    apply List.map_congr_left
    intro z hz
    have := h z hz
    simp [Lit.wf, IntKind.min, IntKind.max, IntKind.bits, IntKind.signed] at this
    simp only [Function.comp, b8]
    rw [Int.toNat_of_nonneg (by omega)]
  · intro x hx
    obtain ⟨z, hz, rfl⟩ := List.mem_map.1 hx
    have := h z hz
    simp [Lit.wf, IntKind.min, IntKind.max, IntKind.bits, IntKind.signed] at this
    omega
theorem open_str {H : Type} {enc : TypeId × Value → H} {w : World} {base : Nat} {sp : Nat → Bool} {held : Bool} {r : Reach} {b0 : Nat} {v : Value} {d : DataW H} {ps : List MemPlace}
    (hv : Value.okWide Tryd.prog w r b0 9 v) (hd : DataW.Trod enc Tryd.prog w base sp held 9 v d ps) : ∃ b : List Nat, (∀ x ∈ b, x < 256) ∧ b.length ≤ maxLen ∧ v = .string (bstr b) := by
  obtain ⟨s, rfl⟩ := okWide_string Tryd.underlying9 hv
  obtain ⟨fuel, hf⟩ := hd
  cases fuel with
  | zero => simp [DataW.trod] at hf
  | succ n =>
    obtain ⟨s', e1, _, hs⟩ := DataW.trod_string Tryd.underlying9 hf
    obtain rfl : s = s' := by simpa [Value.cells] using e1
    obtain ⟨b, rfl, h8, hl⟩ := str_bytes s
    exact ⟨b, h8, by omega, rfl⟩
theorem open_b {H : Type} {enc : TypeId × Value → H} {w : World} {base : Nat} {held : Bool} {fuel : Nat} {u : Value} {x : DataW H × List MemPlace}
    (hf : DataW.trod enc Tryd.prog w base (fun _ => true) held fuel 27 [u] = some x) : ∃ bs : List Nat, SlAt w u bs.length 1 (bs.map b8) (fun _ => True) ∧ ∀ x ∈ bs, x < 256 := by
  obtain ⟨d, ps⟩ := x
  rcases Go.ChangeShapes.open_ints Tryd.underlying27 Tryd.underlying5 cells5 hf with ⟨h, _⟩ | ⟨a, len', cap', zs, h, _, h1, _, h2, _, h3, h4⟩
  · simp only [List.cons.injEq, and_true] at h
    subst h
    exact ⟨[], ⟨none, 0, rfl, Nat.le_refl _, rfl, .inl rfl⟩, fun z hz => by cases hz⟩
  · simp only [List.cons.injEq, and_true] at h
    subst h
    simp only [if_true] at h2
    obtain ⟨bs, e1, e2, e3⟩ := bytes_of (zs := zs.take len') fun z hz => h4 z (List.mem_of_mem_take hz)
    have hbl : bs.length = len' := by rw [e2, List.length_take]; omega
    refine ⟨bs, ⟨_, cap', by rw [hbl], by omega, by simp, .inr ⟨a, rfl, True.intro, fun i x hx => ?_⟩⟩, e3⟩
    rw [← e1, List.getElem?_map] at hx
    cases hz : (zs.take len')[i]? with
    | none => rw [hz] at hx; cases hx
    | some y =>
      rw [hz] at hx; simp only [Option.map_some, Option.some.injEq] at hx
      rw [List.getElem?_take] at hz
      split at hz
      · have hlt := (List.getElem?_eq_some_iff.1 hz).1
        have := h3 i hlt
        rw [show zs.getD i 0 = y by simp [List.getD, hz]] at this
        rw [this, hx]
      · cases hz
theorem parts_of {w : World} {ad : Addr} {len : Nat} (h : ∀ i, i < len → ∃ (l : List Nat) (u : Value), w.cell? (ad.add i) = some u ∧ SlAt w u l.length 1 (l.map b8) (fun _ => True) ∧ ∀ x ∈ l, x < 256) :
    ∀ j, j ≤ len → ∃ (ls : List (List Nat)) (vs : List Value), ls.length = j ∧ vs.length = j ∧ (∀ (i : Nat) (l : List Nat), ls[i]? = some l → ∃ u, vs[i]? = some u ∧ SlAt w u l.length 1 (l.map b8) (fun _ => True) ∧ ∀ x ∈ l, x < 256) ∧ ∀ i x, vs[i]? = some x → w.cell? (ad.add i) = some x
  | 0, _ => ⟨[], [], rfl, rfl, (fun i l hl => by cases hl), (fun i x hx => by cases hx)⟩
  | j + 1, hj => by
    obtain ⟨ls, vs, h1, h2, h3, h4⟩ := parts_of h j (by omega)
    obtain ⟨l, u, g1, g2, g3⟩ := h j (by omega)
    refine ⟨ls ++ [l], vs ++ [u], by simp [h1], by simp [h2], fun i k hk => ?_, fun i x hx => ?_⟩
    · by_cases hi : i < ls.length
      · rw [List.getElem?_append_left hi] at hk
        obtain ⟨u', e1, e2, e3⟩ := h3 i k hk
        exact ⟨u', by rw [List.getElem?_append_left (by omega)]; exact e1, e2, e3⟩
      · have hlt := (List.getElem?_eq_some_iff.1 hk).1
        simp only [List.length_append, List.length_singleton] at hlt
        obtain rfl : i = j := by omega
        rw [List.getElem?_append_right (by omega), h1, Nat.sub_self] at hk
        obtain rfl : l = k := by simpa using hk
        exact ⟨u, by rw [List.getElem?_append_right (by omega), h2, Nat.sub_self]; rfl, g2, g3⟩
    · by_cases hi : i < vs.length
      · rw [List.getElem?_append_left hi] at hx; exact h4 i x hx
      · have hlt := (List.getElem?_eq_some_iff.1 hx).1
        simp only [List.length_append, List.length_singleton] at hlt
        obtain rfl : i = j := by omega
        rw [List.getElem?_append_right (by omega), h2, Nat.sub_self] at hx
        obtain rfl : u = x := by simpa using hx
        exact g1
theorem open_parts {H : Type} {enc : TypeId × Value → H} {w : World} {base : Nat} {held : Bool} {r : Reach} {b0 : Nat} {v : Value} {d : DataW H} {ps : List MemPlace}
    (hv : Value.okWide Tryd.prog w r b0 22 v) (hd : DataW.Trod enc Tryd.prog w base (fun _ => true) held 22 v d ps) : ∃ (ls : List (List Nat)) (F : Nat → Prop), PartsAt w v ls F := by
  obtain ⟨ao, len, cap, rfl⟩ := okWide_slice Tryd.underlying22 hv
  obtain ⟨fuel, hf⟩ := hd
  cases fuel with
  | zero => simp [DataW.trod] at hf
  | succ n =>
  rcases DataW.trod_slice Tryd.underlying22 hf with ⟨e2, _⟩ | ⟨ad, len', cap', elems, rest, m, hm, e2, _, hb, hlc, hcm, hlen, hel, _⟩
  · simp only [Value.cells, List.cons.injEq, Value.slice.injEq, and_true] at e2
    obtain ⟨rfl, rfl, rfl⟩ := e2
    exact ⟨[], fun _ => True, [], ⟨none, 0, rfl, Nat.le_refl _, rfl, .inl rfl⟩, fun i l hl => by cases hl⟩
  · simp only [Value.cells, List.cons.injEq, Value.slice.injEq, and_true] at e2
    obtain ⟨rfl, rfl, rfl⟩ := e2
    have each : ∀ i, i < len → ∃ (l : List Nat) (u : Value), w.cell? (ad.add i) = some u ∧ SlAt w u l.length 1 (l.map b8) (fun _ => True) ∧ ∀ x ∈ l, x < 256 := by
      intro i hi
      have hy : elems[i]? = some (elems[i]'(by omega)) := List.getElem?_eq_getElem (by omega)
      have hh := hel i hi
      rw [hy, cells27, Option.bind_eq_some_iff] at hh
      obtain ⟨c, hc, ht⟩ := hh
      obtain ⟨_, hcl, hcell⟩ := World.cells?_some hc
      obtain ⟨u, rfl⟩ : ∃ u, c = [u] := by
        match c, hcl with
        | [u], _ => exact ⟨u, rfl⟩
      obtain ⟨bs, g1, g2⟩ := open_b ht
      refine ⟨bs, u, ?_, g1, g2⟩
      have := hcell 0 (by omega)
      rw [add_add, Nat.mul_one, Nat.add_zero] at this
      exact this
    obtain ⟨ls, vs, k1, k2, k3, k4⟩ := parts_of each len (Nat.le_refl _)
    subst k1
    exact ⟨ls, fun _ => True, vs, ⟨some ad, cap, rfl, hlc, by omega, .inr ⟨ad, rfl, True.intro, k4⟩⟩, k3⟩
theorem g_start : Tryd.prog.globalNamed "tollgate/hash.start" = some 0 := by kernel_rfl
theorem t_start : (Tryd.prog.globals[0]?).map (·.type) = some 40 := by kernel_rfl
theorem g_rounds : Tryd.prog.globalNamed "tollgate/hash.rounds" = some 1 := by kernel_rfl
theorem t_rounds : (Tryd.prog.globals[1]?).map (·.type) = some 50 := by kernel_rfl
theorem cell_tab {H : Type} {enc : TypeId × Value → H} {name : String} {W : World} {T n g base fuel : Nat} {sp : Nat → Bool} {held : Bool} {p : List MemPlace} {zs : List Int} {cs : Array Value} (hu : Tryd.prog.underlying T = some (.array n 39)) (hc : Tryd.prog.cellsOf T = n) (hg : Tryd.prog.globalNamed name = some g) (hv : W.var? Tryd.prog name = some cs)
    (hd : DataW.trod enc Tryd.prog W base sp held fuel T cs.toList = some (tabData .u32 zs, p)) : ∀ (j : Nat) (z : Int), zs[j]? = some z → W.cell? ⟨g, j, none⟩ = some (.int .u32 z) := fun j z hj => by
  have h1 := cells_of_tab hu Tryd.underlying39 cells39 hc hd
  have h2 := World.var?_cell hg hv j
  rw [h2]
  have : (zs.map (Value.int .u32))[j]? = some (.int .u32 z) := by rw [List.getElem?_map, hj]; rfl
  rw [← h1] at this
  simpa using this
def hTab : List Int := [1779033703, 3144134277, 1013904242, 2773480762, 1359893119, 2600822924, 528734635, 1541459225]
def kTab : List Int := [1116352408, 1899447441, 3049323471, 3921009573, 961987163, 1508970993, 2453635748, 2870763221, 3624381080, 310598401, 607225278, 1426881987, 1925078388, 2162078206, 2614888103, 3248222580, 3835390401, 4022224774, 264347078, 604807628, 770255983, 1249150122, 1555081692, 1996064986, 2554220882, 2821834349, 2952996808, 3210313671, 3336571891, 3584528711, 113926993, 338241895, 666307205, 773529912, 1294757372, 1396182291, 1695183700, 1986661051, 2177026350, 2456956037, 2730485921, 2820302411, 3259730800, 3345764771, 3516065817, 3600352804, 4094571909, 275423344, 430227734, 506948616, 659060556, 883997877, 958139571, 1322822218, 1537002063, 1747873779, 1955562222, 2024104815, 2227730452, 2361852424, 2428436474, 2756734187, 3204031479, 3329325298]
theorem hTab_eq : hTab.map (Value.int .u32) = [uv H0.a, uv H0.b, uv H0.c, uv H0.d, uv H0.e, uv H0.f, uv H0.g, uv H0.h] := by kernel_rfl
theorem kTab_eq : hTab.length = 8 ∧ kTab.length = 64 ∧ kTab.map (Value.int .u32) = TollSha.K.map uv := ⟨by kernel_rfl, by kernel_rfl, by kernel_rfl⟩
theorem of_laid {W : World} (h : laidMetH Tryd.prog laidList W) : LaidK W ∧ LaidH W ∧ 1 < W.heap.size := by
  unfold laidList at h
  rw [MakeChecks.laidMetH_plain _ _ _ (by kernel_rfl)] at h
  obtain ⟨ps, ⟨g0, t0, cs0, f0, p0, q0, hg0, ht0, hv0, hd0, ⟨g1, t1, cs1, f1, p1, q1, hg1, ht1, hv1, hd1, _, _⟩, _⟩, _⟩ := h
  obtain rfl := Option.some.inj (g_start.symm.trans hg0)
  obtain rfl := Option.some.inj (t_start.symm.trans ht0)
  obtain rfl := Option.some.inj (g_rounds.symm.trans hg1)
  obtain rfl := Option.some.inj (t_rounds.symm.trans ht1)
  have k1 : ∀ (j : Nat) (z : Int), kTab[j]? = some z → W.cell? ⟨1, j, none⟩ = some (.int .u32 z) := cell_tab Tryd.underlying50 cells50 g_rounds hv1 hd1
  have k0 : ∀ (j : Nat) (z : Int), hTab[j]? = some z → W.cell? ⟨0, j, none⟩ = some (.int .u32 z) := cell_tab Tryd.underlying40 cells40 g_start hv0 hd0
  have hK : LaidK W := fun i hi => by
    obtain ⟨z, e⟩ : ∃ z, kTab[i]? = some z := ⟨_, List.getElem?_eq_getElem (by rw [kTab_eq.2.1]; exact hi)⟩
    have := k1 i _ e
    rw [this]
    have e2 : (kTab.map (Value.int .u32))[i]? = some (.int .u32 z) := by rw [List.getElem?_map, e]; rfl
    rw [kTab_eq.2.2, List.getElem?_map] at e2
    cases hq : TollSha.K[i]? with
    | none => rw [hq] at e2; cases e2
    | some q =>
      rw [hq] at e2
      rw [List.getD_eq_getElem?_getD, hq]
      exact e2.symm
  refine ⟨hK, fun j v hj => ?_, World.block_lt_of_cell? _ _ (hK 0 (by omega))⟩
  rw [← hTab_eq, List.getElem?_map] at hj
  cases hq : hTab[j]? with
  | none => rw [hq] at hj; cases hj
  | some z =>
    rw [hq] at hj
    obtain rfl : Value.int .u32 z = v := by simpa using hj
    exact k0 j z hq
end Go.Proofs.YtdhklekkpkbfeaaDoor
