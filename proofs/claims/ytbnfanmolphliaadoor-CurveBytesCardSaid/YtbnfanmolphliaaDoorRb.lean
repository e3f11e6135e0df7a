import Derived.Test.YtbnfanmolphliaaDoorRa
import Derived.Test.YtbnfanmolphliaaDoorVx
import Derived.ChangeSlices
/-! Slices of bytes among the arguments, opened. -/
namespace Go.Proofs.YtbnfanmolphliaaDoor
open Go.ChangeShapes Go.WideShapes Go.ChangeAt Go.RowKit Go.Vx
open TollMont (R)
theorem plainP : Plain Tryd.prog := ⟨by kernel_rfl, by kernel_rfl, by kernel_rfl⟩
theorem open_bytes {H : Type} {enc : TypeId × Value → H} {w : World} {base : Nat} {held : Bool} {r : Reach} {b0 : Nat} {v : Value} {d : DataW H} {ps : List MemPlace}
    (hv : Value.okWide Tryd.prog w r b0 48 v) (hd : DataW.Trod enc Tryd.prog w base (fun _ => true) held 48 v d ps) :
    ∃ (n : Nat) (zs : List Int) (S : Nat → Prop), SlAt w v n 1 (zs.map (Value.int .u8)) S ∧ ∀ z ∈ zs, (Lit.int .u8 z).wf = true := by
  obtain ⟨ao, len, cap, rfl⟩ := okWide_slice Tryd.underlying48 hv
  obtain ⟨fuel, hf⟩ := hd
  rcases Go.ChangeShapes.open_ints Tryd.underlying48 Tryd.underlying5 cells5 hf with ⟨h, _⟩ | ⟨a, len', cap', zs, h, _, h1, _, h2, _, h3, h4⟩
  · simp only [Value.cells, List.cons.injEq, Value.slice.injEq, and_true] at h
    obtain ⟨rfl, rfl, rfl⟩ := h
    exact ⟨0, [], fun _ => False, ⟨none, 0, rfl, Nat.le_refl _, rfl, .inl rfl⟩, fun z hz => by cases hz⟩
  · simp only [Value.cells, List.cons.injEq, Value.slice.injEq, and_true] at h
    obtain ⟨rfl, rfl, rfl⟩ := h
    simp only [if_true] at h2
    refine ⟨len, zs.take len, fun _ => True, ⟨_, cap, rfl, h1, by simp; omega, .inr ⟨a, rfl, True.intro, fun i x hx => ?_⟩⟩, fun z hz => h4 z (List.mem_of_mem_take hz)⟩
    rw [List.getElem?_map] at hx
    cases hz : (zs.take len)[i]? with
    | none => rw [hz] at hx; cases hx
    | some y =>
      rw [hz] at hx; simp only [Option.map_some, Option.some.injEq] at hx
      rw [List.getElem?_take] at hz
      split at hz
      · have hlt := (List.getElem?_eq_some_iff.1 hz).1
        have := h3 i hlt
        rw [show zs.getD i 0 = y by simp [List.getD, hz]] at this
        rw [this, hx]
      · cases hz
end Go.Proofs.YtbnfanmolphliaaDoor
