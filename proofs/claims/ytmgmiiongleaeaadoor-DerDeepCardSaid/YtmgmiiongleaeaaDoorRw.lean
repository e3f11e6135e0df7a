import Derived.Test.YtmgmiiongleaeaaDoorDr
import Derived.Test.YtmgmiiongleaeaaDoorRows
import Derived.ProofKit
import Derived.OpenShut
import Derived.LaidMore
import Derived.Lay
import Derived.Stop.Joined
import Derived.ChangeSlices
/-! What the rows of the der's laws share: nodes and slices opened; the laid variables. -/
namespace Go.Proofs.YtmgmiiongleaeaaDoor
open Go.ChangeShapes Go.WideShapes Go.ChangeAt Go.RowKit Go.Vx
set_option maxRecDepth 100000
theorem Tryd.own : ownKnob Tryd.prog.godebug = none := by kernel_rfl
theorem plainP : Plain Tryd.prog := ⟨by kernel_rfl, by kernel_rfl, by kernel_rfl⟩
theorem cells24 : Tryd.prog.cellsOf 24 = 3 := by kernel_rfl
theorem cells3 : Tryd.prog.cellsOf 3 = 1 := by kernel_rfl
theorem cells9 : Tryd.prog.cellsOf 9 = 1 := by kernel_rfl
theorem cells22 : Tryd.prog.cellsOf 22 = 1 := by kernel_rfl
theorem cells5 : Tryd.prog.cellsOf 5 = 1 := by kernel_rfl
def laidList : List (String × DataW Unit) := Rows.derWritesRow.laid
theorem str_bytes (s : ByteArray) : ∃ b : List Nat, s = bstr b ∧ (∀ x ∈ b, x < 256) ∧ b.length = s.size := by
  refine ⟨s.data.toList.map (·.toNat), ?_, ?_, by rw [List.length_map]; rfl⟩
  · apply ByteArray.ext
    simp only [bstr, List.map_map]
    apply Array.ext'
    simp [Function.comp_def]
  · intro x hx
    obtain ⟨c, _, rfl⟩ := List.mem_map.1 hx
    exact c.toNat_lt
theorem kids_of {w : World} {ad : Addr} {len : Nat} (h : ∀ i, i < len → ∃ (t : Tr) (c : List Value), (∀ j, j < 3 → w.cell? (ad.add (i * 3 + j)) = c[j]?) ∧ RN w (fun _ => True) t c ∧ t.okL) :
    ∀ j, j ≤ len → ∃ (ks : List Tr) (cs : List Value), ks.length = j ∧ cs.length = j * 3 ∧ RNs w (fun _ => True) ks cs ∧ oksL ks ∧ ∀ i x, cs[i]? = some x → w.cell? (ad.add i) = some x
  | 0, _ => ⟨[], [], rfl, rfl, rfl, True.intro, fun i x hx => by cases hx⟩
  | j + 1, hj => by
    obtain ⟨ks, cs, h1, h2, h3, h4, h5⟩ := kids_of h j (by omega)
    obtain ⟨t, c, g1, g2, g3⟩ := h j (by omega)
    have hc := RN_len g2
    refine ⟨ks ++ [t], cs ++ c, by simp [h1], by simp only [List.length_append, h2, hc]; omega, RNs_snoc g2 h3, ?_, fun i x hx => ?_⟩
    · have : ∀ {l : List Tr}, oksL l → oksL (l ++ [t]) := by
        intro l hl
        induction l with
        | nil => exact ⟨g3, True.intro⟩
        | cons a l ih => simp only [oksL] at hl; simp only [List.cons_append, oksL]; exact ⟨hl.1, ih hl.2⟩
      exact this h4
    · by_cases hi : i < cs.length
      · rw [List.getElem?_append_left hi] at hx; exact h5 i x hx
      · rw [List.getElem?_append_right (by omega)] at hx
        have hlt := (List.getElem?_eq_some_iff.1 hx).1
        have := g1 (i - cs.length) (by omega)
        rw [h2] at this hx
        rw [hx] at this
        rw [show j * 3 + (i - j * 3) = i by omega] at this
        exact this
theorem open_rn {H : Type} {enc : TypeId × Value → H} {w : World} {base : Nat} {held : Bool} : ∀ (N fuel : Nat), fuel ≤ N → ∀ (cs : List Value) (x : DataW H × List MemPlace),
    DataW.trod enc Tryd.prog w base (fun _ => true) held fuel 24 cs = some x → ∃ t : Tr, RN w (fun _ => True) t cs ∧ t.okL
  | 0, fuel, hN, cs, x, h => by
    obtain rfl : fuel = 0 := by omega
    simp [DataW.trod] at h
  | N + 1, fuel, hN, cs, x, h => by
    obtain ⟨xs, n, rfl, _, hl, hxl, hf⟩ := DataW.trod_struct Tryd.underlying24 h
    rw [cells24] at hl
    obtain ⟨a, b, c, rfl⟩ := list3 hl
    obtain ⟨y0, y1, y2, rfl⟩ := list3 (l := xs) hxl
    have h0 : DataW.trod enc Tryd.prog w base (fun _ => true) held n 3 (([a, b, c].drop 0).take (Tryd.prog.cellsOf 3)) = some y0 := hf 0 _ rfl
    have h1 : DataW.trod enc Tryd.prog w base (fun _ => true) held n 9 (([a, b, c].drop 1).take (Tryd.prog.cellsOf 9)) = some y1 := hf 1 _ rfl
    have h2 : DataW.trod enc Tryd.prog w base (fun _ => true) held n 22 (([a, b, c].drop 2).take (Tryd.prog.cellsOf 22)) = some y2 := hf 2 _ rfl
    rw [cells3] at h0
    rw [cells9] at h1
    rw [cells22] at h2
    obtain ⟨tag, e0, _, _⟩ := DataW.trod_int Tryd.underlying3 h0
    obtain ⟨s, e1, _, hs⟩ := DataW.trod_string Tryd.underlying9 h1
    obtain rfl : a = .int .i64 tag := by simpa using e0
    obtain rfl : b = .string s := by simpa using e1
    obtain ⟨bs, rfl, hb8, hbl⟩ := str_bytes s
    rcases DataW.trod_slice Tryd.underlying22 h2 with ⟨e2, _⟩ | ⟨ad, len, cap, elems, rest, m, rfl, e2, _, hb, hlc, hcm, hlen, hel, _⟩
    · obtain rfl : c = .slice none 0 0 := by simpa using e2
      refine ⟨.mk tag bs [], ?_, ?_⟩
      · simp only [RN, RNs]
        exact ⟨_, [], rfl, ⟨none, 0, rfl, Nat.le_refl _, rfl, .inl rfl⟩, rfl⟩
      · simp only [Tr.okL, oksL]
        exact ⟨hb8, by omega, by simp, True.intro⟩
    · obtain rfl : c = .slice (some ad) len cap := by simpa using e2
      have each : ∀ i, i < len → ∃ (t : Tr) (c : List Value), (∀ j, j < 3 → w.cell? (ad.add (i * 3 + j)) = c[j]?) ∧ RN w (fun _ => True) t c ∧ t.okL := by
        intro i hi
        have hy : elems[i]? = some (elems[i]'(by omega)) := List.getElem?_eq_getElem (by omega)
        have hh := hel i hi
        rw [hy, cells24, Option.bind_eq_some_iff] at hh
        obtain ⟨c, hc, ht⟩ := hh
        obtain ⟨_, _, hcell⟩ := World.cells?_some hc
        obtain ⟨t, g1, g2⟩ := open_rn N m (by omega) c _ ht
        exact ⟨t, c, fun j hj => by have := hcell j hj; rwa [add_add] at this, g1, g2⟩
      obtain ⟨ks, cs', k1, k2, k3, k4, k5⟩ := kids_of each len (Nat.le_refl _)
      subst k1
      refine ⟨.mk tag bs ks, ?_, ?_⟩
      · simp only [RN]
        exact ⟨_, cs', rfl, ⟨some ad, cap, rfl, hlc, k2, .inr ⟨ad, rfl, True.intro, k5⟩⟩, k3⟩
      · simp only [Tr.okL]
        exact ⟨hb8, by omega, by omega, k4⟩
theorem open_node {H : Type} {enc : TypeId × Value → H} {w : World} {base : Nat} {held : Bool} {r : Reach} {b0 : Nat} {v : Value} {d : DataW H} {ps : List MemPlace}
    (hv : Value.okWide Tryd.prog w r b0 24 v) (hd : DataW.Trod enc Tryd.prog w base (fun _ => true) held 24 v d ps) : ∃ (t : Tr) (x0 x1 x2 : Value), v = .agg #[x0, x1, x2] ∧ RN w (fun _ => True) t [x0, x1, x2] ∧ t.okL := by
  unfold Value.okWide at hv
  rw [Tryd.underlying24] at hv
  obtain ⟨cs, rfl, hsz, _⟩ := hv
  obtain ⟨fuel, hf⟩ := hd
  obtain ⟨t, h1, h2⟩ := open_rn fuel fuel (Nat.le_refl _) _ _ hf
  obtain ⟨x0, x1, x2, e⟩ := list3 (RN_len h1)
  refine ⟨t, x0, x1, x2, ?_, by rw [← e]; exact h1, h2⟩
  have e' : cs.toList = [x0, x1, x2] := e
  congr 1
  apply Array.ext'
  rw [e']
end Go.Proofs.YtmgmiiongleaeaaDoor
