import Derived.WalkKit
import Derived.WalkSpells
import Derived.WalkLawsBesides
import Derived.Deep.RegionHeld3
/-! What a call that only makes memory of its own leaves as it was. -/
namespace Go.Toll
open Go.RowKit

structure Gw (w w' : World) : Prop where
  b : Below w.heap.size w w'
  f : ∀ a, w'.frozen? a = w.frozen? a

theorem Gw.refl (w : World) : Gw w w := ⟨Below.refl _ _, fun _ => rfl⟩
theorem Gw.trans {a b c : World} (h : Gw a b) (k : Gw b c) : Gw a c := ⟨h.b.trans (k.b.mono h.b.size), fun x => (k.f x).trans (h.f x)⟩
theorem Gw.drew {a w : World} (h : Gw a w) : Gw a w.drew := ⟨h.b.drew, h.f⟩
theorem Gw.alloc {a w : World} (h : Gw a w) (c : Array Value) (t : TypeId) : Gw a (w.alloc (.cells c t)) :=
  ⟨h.b.alloc h.b.size _, fun x => (frozen?_alloc_cells _ _ _ x).trans (h.f x)⟩
theorem Gw.setCell {a w : World} (h : Gw a w) {p : Addr} (hp : a.heap.size ≤ p.block) (u : Value) : Gw a (w.setCell p u) :=
  ⟨h.b.setCell hp u, fun x => (World.frozen?_setCell _ _ _ _).trans (h.f x)⟩
theorem Gw.cell {w w' : World} (h : Gw w w') {a : Addr} {v : Value} (hc : w.cell? a = some v) : w'.cell? a = some v :=
  (h.b.cell (World.block_lt_of_cell? _ _ hc)).trans hc
/-- the two rules that a walk takes by itself. -/
theorem Gw.rules {w w' : World} (h : Gw w w') : (∀ b o, b < w.heap.size → w'.cell? ⟨b, o, none⟩ = w.cell? ⟨b, o, none⟩) ∧ w.heap.size ≤ w'.heap.size :=
  ⟨fun _ _ hb => h.b.cell (p := ⟨_, _, none⟩) hb, h.b.size⟩
theorem cell_al {w : World} {a : Addr} {v : Value} (o : Obj) (h : w.cell? a = some v) : (w.alloc o).cell? a = some v := (World.cell?_alloc_some _ _ _ (by rw [h]; rfl)).trans h
theorem cell_st {w : World} {a p : Addr} {v : Value} (u : Value) (hp : a.block ≠ p.block) (h : w.cell? a = some v) : (w.setCell p u).cell? a = some v :=
  (World.cell?_of_block (w := w) (Below.heap_setCell _ _ _ _ hp)).trans h
theorem cell_dr {w : World} {a : Addr} {v : Value} (h : w.cell? a = some v) : w.drew.cell? a = some v := h
theorem cell_al_lt (w : World) (o : Obj) (b off : Nat) (h : b < w.heap.size) : (w.alloc o).cell? ⟨b, off, none⟩ = w.cell? ⟨b, off, none⟩ := World.cell?_alloc_lt _ _ _ h
theorem Gw.froz {w w' : World} (h : Gw w w') {a : Addr} (hc : w.frozen? a = false) : w'.frozen? a = false := (h.f a).trans hc
theorem fr_new {w : World} {a : Addr} (h : w.heap.size ≤ a.block) : w.frozen? a = false := by
  have : w.heap[a.block]? = none := by simp; omega
  simp [World.frozen?, this]
theorem fr_al {w : World} {a : Addr} (c : Array Value) (t : TypeId) (h : w.frozen? a = false) : (w.alloc (.cells c t)).frozen? a = false := (frozen?_alloc_cells _ _ _ _).trans h
/-- the world under a name of its own. -/
theorem at_world {P : Program} {c : Code} {Q : Exit → Act → World → Prop} {a : Act} {w : World} (S : World → Prop) (hS : S w) (h : ∀ w', S w' → Code.wp P c Q a w') : Code.wp P c Q a w := h w hS
end Go.Toll
