import Derived.WalkKit
import Derived.WalkSpells
import Derived.WalkLawsBesides
import Derived.Deep.RegionHeld3
section
namespace Go.Toll
open Go.RowKit
structure Gw (w w' : World) : Prop where
  b : Below w.heap.size w w'
  f : ∀ a, w'.frozen? a = w.frozen? a
theorem Gw.refl (w : World) : Gw w w := ⟨Below.refl _ _, fun _ => rfl⟩
theorem Gw.trans {a b c : World} (h : Gw a b) (k : Gw b c) : Gw a c := ⟨h.b.trans (k.b.mono h.b.size), fun x => (k.f x).trans (h.f x)⟩
theorem Gw.drew {a w : World} (h : Gw a w) : Gw a w.drew := ⟨h.b.drew, h.f⟩
theorem Gw.alloc {a w : World} (h : Gw a w) (c : Array Value) (t : TypeId) : Gw a (w.alloc (.cells c t)) :=
  ⟨h.b.alloc h.b.size _, fun x => (frozen?_alloc_cells _ _ _ x).trans (h.f x)⟩
theorem Gw.cell {w w' : World} (h : Gw w w') {a : Addr} {v : Value} (hc : w.cell? a = some v) : w'.cell? a = some v :=
  (h.b.cell (World.block_lt_of_cell? _ _ hc)).trans hc
end Go.Toll
end
