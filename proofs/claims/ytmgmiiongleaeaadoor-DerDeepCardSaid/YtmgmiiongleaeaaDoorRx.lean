import Derived.Test.YtmgmiiongleaeaaDoorRw
/-! Arrays, numbers, texts and slices of bytes as arguments, opened. -/
namespace Go.Toll
open Go.ChangeShapes Go.WideShapes Go.ChangeAt Go.RowKit
theorem list_of {α : Type} {n : Nat} {p : Nat → α → Prop} (h : ∀ i, i < n → ∃ z, p i z) : ∃ zs : List α, zs.length = n ∧ ∀ i z, zs[i]? = some z → p i z := by
  induction n with
  | zero => exact ⟨[], rfl, fun i z hz => by simp at hz⟩
  | succ n ih =>
    obtain ⟨zs, hl, hp⟩ := ih fun i hi => h i (by omega)
    obtain ⟨z, hz⟩ := h n (by omega)
    refine ⟨zs ++ [z], by simp [hl], fun i y hy => ?_⟩
    by_cases hi : i < zs.length
    · rw [List.getElem?_append_left hi] at hy; exact hp i y hy
    · rw [List.getElem?_append_right (by omega)] at hy
      have hi0 : i - zs.length = 0 := by
        apply Classical.byContradiction; intro hne
        rw [List.getElem?_eq_none (by simp; omega)] at hy; cases hy
      rw [hi0] at hy
      simp at hy; subst hy
      obtain rfl : i = n := by omega
      exact hz

section
variable {H : Type} {enc : TypeId × Value → H} {P : Program} {w : World} {base : Nat} {sp : Nat → Bool} {held : Bool} {t e : TypeId} {n : Nat} {k : IntKind}
theorem open_ints {r : Reach} {b0 : Nat} {v : Value} {d : DataW H} {ps : List MemPlace} (ht : P.underlying t = some (.array n e)) (he : P.underlying e = some (.int k)) (hce : P.cellsOf e = 1) (hct : P.cellsOf t = n)
    (hv : Value.okWide P w r b0 t v) (hd : DataW.Trod enc P w base sp held t v d ps) :
    ∃ zs : List Int, zs.length = n ∧ v = .agg (zs.map (Value.int k)).toArray ∧ d = .agg (zs.map fun z => .lit (.int k z)) ∧ ps = [] ∧ ∀ z ∈ zs, (Lit.int k z).wf = true := by
  simp only [Value.okWide, ht] at hv
  obtain ⟨cs, rfl, hcs, _⟩ := hv
  rw [hct] at hcs
  obtain ⟨fuel, hf⟩ := hd
  obtain ⟨xs, m, rfl, hx, _, hxl, hi⟩ := DataW.trod_array ht hf
  simp only [hce, Nat.mul_one, Value.cells] at hi
  have hz : ∀ i, i < n → ∃ z : Int, cs.toList[i]? = some (.int k z) ∧ xs[i]? = some (.lit (.int k z), []) ∧ (Lit.int k z).wf = true := fun i hin => by
    have h1 := hi i hin
    rw [List.getElem?_eq_getElem (by omega)] at h1
    obtain ⟨z, h2, h3, h4⟩ := DataW.trod_int he h1
    have hic : i < cs.toList.length := by simp [hcs]; exact hin
    refine ⟨z, ?_, by rw [List.getElem?_eq_getElem (by omega), h3], h4⟩
    rw [List.drop_eq_getElem_cons hic] at h2
    simp at h2
    rw [List.getElem?_eq_getElem hic]
    simpa using h2
  obtain ⟨zs, hl, hp⟩ := list_of hz
  have e1 : cs.toList = zs.map (Value.int k) := by
    apply List.ext_getElem?
    intro i
    by_cases hin : i < n
    · obtain ⟨h1, _, _⟩ := hp i zs[i] (by simp [hl, hin])
      rw [h1]; simp [hl, hin]
    · rw [List.getElem?_eq_none (by simp [hcs]; omega), List.getElem?_eq_none (by simp [hl]; omega)]
  have e2 : xs = zs.map fun z => ((.lit (.int k z) : DataW H), ([] : List MemPlace)) := by
    apply List.ext_getElem?
    intro i
    by_cases hin : i < n
    · obtain ⟨_, h1, _⟩ := hp i zs[i] (by simp [hl, hin])
      rw [h1]; simp [hl, hin]
    · rw [List.getElem?_eq_none (by omega), List.getElem?_eq_none (by simp [hl]; omega)]
  simp only [Prod.mk.injEq] at hx
  refine ⟨zs, hl, by rw [← e1], by rw [hx.1, e2]; simp [Function.comp_def], by rw [hx.2, e2]; simp [List.flatMap_eq_nil_iff], fun z hz => ?_⟩
  obtain ⟨i, hi', rfl⟩ := List.getElem_of_mem hz
  exact (hp i zs[i] (by simp [hi'])).2.2

end
end Go.Toll
namespace Go.Proofs.YtmgmiiongleaeaaDoor
open Go.ChangeShapes Go.WideShapes Go.ChangeAt Go.RowKit Go.Vx
set_option maxRecDepth 100000
theorem cells44 : Tryd.prog.cellsOf 44 = 32 := by kernel_rfl
theorem bytes_of {zs : List Int} (h : ∀ z ∈ zs, (Lit.int .u8 z).wf = true) : ∃ bs : List Nat, zs.map (Value.int .u8) = bs.map b8 ∧ bs.length = zs.length ∧ ∀ x ∈ bs, x < 256 := by
  refine ⟨zs.map Int.toNat, ?_, by simp, ?_⟩
  · rw [List.map_map]
    apply List.map_congr_left
    intro z hz
    have := h z hz
    simp [Lit.wf, IntKind.min, IntKind.max, IntKind.bits, IntKind.signed] at this
    simp only [Function.comp, b8]
    rw [Int.toNat_of_nonneg (by omega)]
  · intro x hx
    obtain ⟨z, hz, rfl⟩ := List.mem_map.1 hx
    have := h z hz
    simp [Lit.wf, IntKind.min, IntKind.max, IntKind.bits, IntKind.signed] at this
    omega
theorem open_32 {H : Type} {enc : TypeId × Value → H} {w : World} {base : Nat} {sp : Nat → Bool} {held : Bool} {r : Reach} {b0 : Nat} {v : Value} {d : DataW H} {ps : List MemPlace}
    (hv : Value.okWide Tryd.prog w r b0 44 v) (hd : DataW.Trod enc Tryd.prog w base sp held 44 v d ps) : ∃ bs : List Nat, bs.length = 32 ∧ (∀ x ∈ bs, x < 256) ∧ v = .agg (bs.map b8).toArray := by
  obtain ⟨zs, hl, rfl, _, _, hw⟩ := Go.Toll.open_ints Tryd.underlying44 Tryd.underlying5 cells5 cells44 hv hd
  obtain ⟨bs, h1, h2, h3⟩ := bytes_of hw
  exact ⟨bs, by rw [h2, hl], h3, by rw [h1]⟩
theorem open_int64 {H : Type} {enc : TypeId × Value → H} {w : World} {base : Nat} {sp : Nat → Bool} {held : Bool} {r : Reach} {b0 : Nat} {v : Value} {d : DataW H} {ps : List MemPlace}
    (hv : Value.okWide Tryd.prog w r b0 3 v) (hd : DataW.Trod enc Tryd.prog w base sp held 3 v d ps) : ∃ z : Int, -9223372036854775808 ≤ z ∧ z ≤ 9223372036854775807 ∧ v = .int .i64 z := by
  obtain ⟨z, rfl, _, _, hw⟩ := open_int Tryd.underlying3 hv hd
  simp [Lit.wf, IntKind.min, IntKind.max, IntKind.bits, IntKind.signed] at hw
  exact ⟨z, by omega, by omega, rfl⟩
theorem open_str {H : Type} {enc : TypeId × Value → H} {w : World} {base : Nat} {sp : Nat → Bool} {held : Bool} {r : Reach} {b0 : Nat} {v : Value} {d : DataW H} {ps : List MemPlace}
    (hv : Value.okWide Tryd.prog w r b0 9 v) (hd : DataW.Trod enc Tryd.prog w base sp held 9 v d ps) : ∃ b : List Nat, (∀ x ∈ b, x < 256) ∧ b.length ≤ maxLen ∧ v = .string (bstr b) := by
  obtain ⟨s, rfl⟩ := okWide_string Tryd.underlying9 hv
  obtain ⟨fuel, hf⟩ := hd
  cases fuel with
  | zero => simp [DataW.trod] at hf
  | succ n =>
    obtain ⟨s', e1, _, hs⟩ := DataW.trod_string Tryd.underlying9 hf
    obtain rfl : s = s' := by simpa [Value.cells] using e1
    obtain ⟨b, rfl, h8, hl⟩ := str_bytes s
    exact ⟨b, h8, by omega, rfl⟩
theorem open_bytes {H : Type} {enc : TypeId × Value → H} {w : World} {base : Nat} {held : Bool} {r : Reach} {b0 : Nat} {v : Value} {d : DataW H} {ps : List MemPlace}
    (hv : Value.okWide Tryd.prog w r b0 26 v) (hd : DataW.Trod enc Tryd.prog w base (fun _ => true) held 26 v d ps) :
    ∃ (bs : List Nat) (S : Nat → Prop), SlAt w v bs.length 1 (bs.map b8) S ∧ ∀ x ∈ bs, x < 256 := by
  obtain ⟨ao, len, cap, rfl⟩ := okWide_slice Tryd.underlying26 hv
  obtain ⟨fuel, hf⟩ := hd
  rcases Go.ChangeShapes.open_ints Tryd.underlying26 Tryd.underlying5 cells5 hf with ⟨h, _⟩ | ⟨a, len', cap', zs, h, _, h1, _, h2, _, h3, h4⟩
  · simp only [Value.cells, List.cons.injEq, Value.slice.injEq, and_true] at h
    obtain ⟨rfl, rfl, rfl⟩ := h
    exact ⟨[], fun _ => False, ⟨none, 0, rfl, Nat.le_refl _, rfl, .inl rfl⟩, fun z hz => by cases hz⟩
  · simp only [Value.cells, List.cons.injEq, Value.slice.injEq, and_true] at h
    obtain ⟨rfl, rfl, rfl⟩ := h
    simp only [if_true] at h2
    obtain ⟨bs, e1, e2, e3⟩ := bytes_of (zs := zs.take len) fun z hz => h4 z (List.mem_of_mem_take hz)
    have hbl : bs.length = len := by rw [e2, List.length_take]; omega
    refine ⟨bs, fun _ => True, ⟨_, cap, by rw [hbl], by omega, by simp, .inr ⟨a, rfl, True.intro, fun i x hx => ?_⟩⟩, e3⟩
    rw [← e1, List.getElem?_map] at hx
    cases hz : (zs.take len)[i]? with
    | none => rw [hz] at hx; cases hx
    | some y =>
      rw [hz] at hx; simp only [Option.map_some, Option.some.injEq] at hx
      rw [List.getElem?_take] at hz
      split at hz
      · have hlt := (List.getElem?_eq_some_iff.1 hz).1
        have := h3 i hlt
        rw [show zs.getD i 0 = y by simp [List.getD, hz]] at this
        rw [this, hx]
      · cases hz
end Go.Proofs.YtmgmiiongleaeaaDoor
