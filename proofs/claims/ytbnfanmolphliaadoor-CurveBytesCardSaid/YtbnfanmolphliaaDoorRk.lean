import Derived.Test.YtbnfanmolphliaaDoorGw
import Derived.ProofKit
import Derived.OpenShut
import Derived.Lib.LaidTab
/-! Arrays of integers as arguments: opened and shut. -/
namespace Go.Toll
open Go.ChangeShapes Go.WideShapes Go.ChangeAt Go.RowKit
theorem list_of {α : Type} {n : Nat} {p : Nat → α → Prop} (h : ∀ i, i < n → ∃ z, p i z) : ∃ zs : List α, zs.length = n ∧ ∀ i z, zs[i]? = some z → p i z := by
  induction n with
  | zero => exact ⟨[], rfl, fun i z hz => by simp at hz⟩
  | succ n ih =>
    obtain ⟨zs, hl, hp⟩ := ih fun i hi => h i (by omega)
    obtain ⟨z, hz⟩ := h n (by omega)
    refine ⟨zs ++ [z], by simp [hl], fun i y hy => ?_⟩
    by_cases hi : i < zs.length
    · rw [List.getElem?_append_left hi] at hy; exact hp i y hy
    · rw [List.getElem?_append_right (by omega)] at hy
      have hi0 : i - zs.length = 0 := by
        apply Classical.byContradiction; intro hne
        rw [List.getElem?_eq_none (by simp; omega)] at hy; cases hy
      rw [hi0] at hy
      simp at hy; subst hy
      obtain rfl : i = n := by omega
      exact hz
section
variable {H : Type} {enc : TypeId × Value → H} {P : Program} {w : World} {base : Nat} {sp : Nat → Bool} {held : Bool} {t e : TypeId} {n : Nat} {k : IntKind}
theorem open_ints {r : Reach} {b0 : Nat} {v : Value} {d : DataW H} {ps : List MemPlace} (ht : P.underlying t = some (.array n e)) (he : P.underlying e = some (.int k)) (hce : P.cellsOf e = 1) (hct : P.cellsOf t = n)
    (hv : Value.okWide P w r b0 t v) (hd : DataW.Trod enc P w base sp held t v d ps) :
    ∃ zs : List Int, zs.length = n ∧ v = .agg (zs.map (Value.int k)).toArray ∧ d = .agg (zs.map fun z => .lit (.int k z)) ∧ ps = [] ∧ ∀ z ∈ zs, (Lit.int k z).wf = true := by
  simp only [Value.okWide, ht] at hv
  obtain ⟨cs, rfl, hcs, _⟩ := hv
  rw [hct] at hcs
  obtain ⟨fuel, hf⟩ := hd
  obtain ⟨xs, m, rfl, hx, _, hxl, hi⟩ := DataW.trod_array ht hf
  simp only [hce, Nat.mul_one, Value.cells] at hi
  have hz : ∀ i, i < n → ∃ z : Int, cs.toList[i]? = some (.int k z) ∧ xs[i]? = some (.lit (.int k z), []) ∧ (Lit.int k z).wf = true := fun i hin => by
    have h1 := hi i hin
    rw [List.getElem?_eq_getElem (by omega)] at h1
    obtain ⟨z, h2, h3, h4⟩ := DataW.trod_int he h1
    have hic : i < cs.toList.length := by simp [hcs]; exact hin
    refine ⟨z, ?_, by rw [List.getElem?_eq_getElem (by omega), h3], h4⟩
    rw [List.drop_eq_getElem_cons hic] at h2
    simp at h2
    rw [List.getElem?_eq_getElem hic]
    simpa using h2
  obtain ⟨zs, hl, hp⟩ := list_of hz
  have e1 : cs.toList = zs.map (Value.int k) := by
    apply List.ext_getElem?
    intro i
    by_cases hin : i < n
    · obtain ⟨h1, _, _⟩ := hp i zs[i] (by simp [hl, hin])
      rw [h1]; simp [hl, hin]
    · rw [List.getElem?_eq_none (by simp [hcs]; omega), List.getElem?_eq_none (by simp [hl]; omega)]
  have e2 : xs = zs.map fun z => ((.lit (.int k z) : DataW H), ([] : List MemPlace)) := by
    apply List.ext_getElem?
    intro i
    by_cases hin : i < n
    · obtain ⟨_, h1, _⟩ := hp i zs[i] (by simp [hl, hin])
      rw [h1]; simp [hl, hin]
    · rw [List.getElem?_eq_none (by omega), List.getElem?_eq_none (by simp [hl]; omega)]
  simp only [Prod.mk.injEq] at hx
  refine ⟨zs, hl, by rw [← e1], by rw [hx.1, e2]; simp [Function.comp_def], by rw [hx.2, e2]; simp [List.flatMap_eq_nil_iff], fun z hz => ?_⟩
  obtain ⟨i, hi', rfl⟩ := List.getElem_of_mem hz
  exact (hp i zs[i] (by simp [hi'])).2.2
theorem mapM_all {α β : Type} (f : α → Option β) (g : α → β) : ∀ (l : List α), (∀ x ∈ l, f x = some (g x)) → l.mapM f = some (l.map g)
  | [], _ => rfl
  | x :: l, h => by
    rw [List.mapM_cons, h x (by simp), mapM_all f g l fun y hy => h y (by simp [hy])]
    rfl
theorem shut_ints (ht : P.underlying t = some (.array n e)) (he : P.underlying e = some (.int k)) (hce : P.cellsOf e = 1) (hct : P.cellsOf t = n) {zs : List Int} (hl : zs.length = n) (hw : ∀ z ∈ zs, (Lit.int k z).wf = true) :
    DataW.Trod enc P w base sp held t (.agg (zs.map (Value.int k)).toArray) (.agg (zs.map fun z => .lit (.int k z))) [] := by
  refine ⟨2, ?_⟩
  unfold DataW.trod
  simp only [ht, hce, hct, Nat.mul_one, Value.cells]
  rw [if_pos (by simp [hl])]
  rw [mapM_all _ (fun i => ((.lit (.int k (zs[i]?.getD 0)) : DataW H), ([] : List MemPlace))) (List.range n) fun i hi => by
    have hin : i < n := by simpa using hi
    have h1 : ((zs.map (Value.int k)).drop i).take 1 = [.int k (zs[i]?.getD 0)] := by
      rw [List.drop_eq_getElem_cons (by simp [hl, hin])]
      simp [hl, hin]
    have h2 := trod_int_mk (enc := enc) (w := w) (base := base) (spare := sp) (held := held) 0 he (hw (zs[i]?.getD 0) (by simp [hl, hin]))
    simpa [h1] using h2]
  simp only [Option.map_some, Option.some.injEq, Prod.mk.injEq]
  refine ⟨?_, by simp [List.flatMap_eq_nil_iff]⟩
  congr 1
  rw [List.map_map]
  apply List.ext_getElem
  · simp [hl]
  · intro i h1 h2
    simp at h2
    simp [h2]
end
/-- words as numbers. -/
theorem word_of {z : Int} (h : (Lit.int .u64 z).wf = true) : ∃ n : Nat, z = (n : Int) ∧ n < 18446744073709551616 := by
  simp [Lit.wf, IntKind.min, IntKind.max, IntKind.signed, IntKind.bits] at h
  exact ⟨z.toNat, by omega, by omega⟩
theorem word32_of {z : Int} (h : (Lit.int .u32 z).wf = true) : ∃ n : Nat, z = (n : Int) ∧ n < 4294967296 := by
  simp [Lit.wf, IntKind.min, IntKind.max, IntKind.signed, IntKind.bits] at h
  exact ⟨z.toNat, by omega, by omega⟩
theorem byte_of {z : Int} (h : (Lit.int .u8 z).wf = true) : ∃ n : Nat, z = (n : Int) ∧ n < 256 := by
  simp [Lit.wf, IntKind.min, IntKind.max, IntKind.signed, IntKind.bits] at h
  exact ⟨z.toNat, by omega, by omega⟩
theorem list2 {α : Type} {l : List α} (h : l.length = 2) : ∃ a b, l = [a, b] := by
  match l, h with
  | [a, b], _ => exact ⟨a, b, rfl⟩
theorem list4 {α : Type} {l : List α} (h : l.length = 4) : ∃ a b c d, l = [a, b, c, d] := by
  match l, h with
  | [a, b, c, d], _ => exact ⟨a, b, c, d, rfl⟩
end Go.Toll
