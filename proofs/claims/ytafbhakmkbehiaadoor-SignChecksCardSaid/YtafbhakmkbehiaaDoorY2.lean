import Derived.Test.YtafbhakmkbehiaaDoorProg
import Derived.Shelf.Spec.BitsCarry
import Derived.Shelf.Bits.Mul64
import Derived.Test.YtafbhakmkbehiaaDoorY1
section
namespace Go.Proofs.YtafbhakmkbehiaaDoor
open Go.RowKit Go.Toll
set_option maxHeartbeats 400000
theorem sub_core (a0 a1 a2 a3 b0 b1 b2 b3 s0 s1 s2 s3 c0 c1 c2 c3 : Nat) (w : World)
   (h0 : ∀ w : World, (callFunc 61 #[.int .u64 (a0 : Nat), .int .u64 (b0 : Nat), .int .u64 0]).run Tryd.prog w = .ok (.value (.tuple #[.int .u64 (s0 : Nat), .int .u64 (c0 : Nat)])) w)
   (h1 : ∀ w : World, (callFunc 61 #[.int .u64 (a1 : Nat), .int .u64 (b1 : Nat), .int .u64 (c0 : Nat)]).run Tryd.prog w = .ok (.value (.tuple #[.int .u64 (s1 : Nat), .int .u64 (c1 : Nat)])) w)
   (h2 : ∀ w : World, (callFunc 61 #[.int .u64 (a2 : Nat), .int .u64 (b2 : Nat), .int .u64 (c1 : Nat)]).run Tryd.prog w = .ok (.value (.tuple #[.int .u64 (s2 : Nat), .int .u64 (c2 : Nat)])) w)
   (h3 : ∀ w : World, (callFunc 61 #[.int .u64 (a3 : Nat), .int .u64 (b3 : Nat), .int .u64 (c2 : Nat)]).run Tryd.prog w = .ok (.value (.tuple #[.int .u64 (s3 : Nat), .int .u64 (c3 : Nat)])) w) :
    Calls Tryd.prog 48 #[.agg #[.int .u64 (a0 : Nat), .int .u64 (a1 : Nat), .int .u64 (a2 : Nat), .int .u64 (a3 : Nat)], .agg #[.int .u64 (b0 : Nat), .int .u64 (b1 : Nat), .int .u64 (b2 : Nat), .int .u64 (b3 : Nat)]] w fun e w' => e = .returned (.tuple #[.agg #[.int .u64 (s0 : Nat), .int .u64 (s1 : Nat), .int .u64 (s2 : Nat), .int .u64 (s3 : Nat)], .int .u64 (c3 : Nat)]) ∧ Gw w w' := by
 go_enter Tryd.func48, Tryd.ntmps48
 refine ve_go ?_
 simp only [List.map_cons, List.map_nil]
 iterate 4 refine t_k ?_
 refine t_17 ?_
 iterate 4 refine t_k ?_
 refine t_17 ?_
 iterate 11 refine t_k ?_
 refine vloop 5 ?_
 iterate 4
   change VOk _ _ _ _ _
   iterate 2 refine t_k ?_
   refine t_1 ?_
   iterate 14 refine t_k ?_
   refine t_8 ?_
   refine t_4 ?_
   refine t_k ?_
   refine t_8 ?_
   refine t_4 ?_
   refine t_k ?_
   refine t_s (by exact ev_extern rfl (gn rfl) rfl (by intro w; first | exact h0 w | exact h1 w | exact h2 w | exact h3 w)) ?_
   iterate 3 refine t_k ?_
   refine t_8 ?_
   refine t_24 ?_
   iterate 3 refine t_k ?_
   refine t_1 ?_
   iterate 2 refine t_k ?_
 change VOk _ _ _ _ _
 iterate 2 refine t_k ?_
 refine t_1 ?_
 iterate 3 refine t_k ?_
 refine vexit ?_
 change VOk _ _ _ _ _
 iterate 2 refine t_k ?_
 refine t_3 ?_
 refine t_k ?_
 refine t_9 ?_
 iterate 2 refine t_k ?_
 refine vret ?_
 refine post_ret (res2 Tryd.results48 (rv_cell rfl rfl Tryd.underlying50 rfl Tryd.sizeOf50 rfl rfl) (rv_tmp rfl)) ?_
 intro w' hg
 exact ⟨rfl, hg⟩
theorem add_core (a0 a1 a2 a3 b0 b1 b2 b3 s0 s1 s2 s3 c0 c1 c2 c3 : Nat) (w : World)
   (h0 : ∀ w : World, (callFunc 63 #[.int .u64 (a0 : Nat), .int .u64 (b0 : Nat), .int .u64 0]).run Tryd.prog w = .ok (.value (.tuple #[.int .u64 (s0 : Nat), .int .u64 (c0 : Nat)])) w)
   (h1 : ∀ w : World, (callFunc 63 #[.int .u64 (a1 : Nat), .int .u64 (b1 : Nat), .int .u64 (c0 : Nat)]).run Tryd.prog w = .ok (.value (.tuple #[.int .u64 (s1 : Nat), .int .u64 (c1 : Nat)])) w)
   (h2 : ∀ w : World, (callFunc 63 #[.int .u64 (a2 : Nat), .int .u64 (b2 : Nat), .int .u64 (c1 : Nat)]).run Tryd.prog w = .ok (.value (.tuple #[.int .u64 (s2 : Nat), .int .u64 (c2 : Nat)])) w)
   (h3 : ∀ w : World, (callFunc 63 #[.int .u64 (a3 : Nat), .int .u64 (b3 : Nat), .int .u64 (c2 : Nat)]).run Tryd.prog w = .ok (.value (.tuple #[.int .u64 (s3 : Nat), .int .u64 (c3 : Nat)])) w) :
    Calls Tryd.prog 60 #[.agg #[.int .u64 (a0 : Nat), .int .u64 (a1 : Nat), .int .u64 (a2 : Nat), .int .u64 (a3 : Nat)], .agg #[.int .u64 (b0 : Nat), .int .u64 (b1 : Nat), .int .u64 (b2 : Nat), .int .u64 (b3 : Nat)]] w fun e w' => e = .returned (.tuple #[.agg #[.int .u64 (s0 : Nat), .int .u64 (s1 : Nat), .int .u64 (s2 : Nat), .int .u64 (s3 : Nat)], .int .u64 (c3 : Nat)]) ∧ Gw w w' := by
 go_enter Tryd.func60, Tryd.ntmps60
 refine ve_go ?_
 simp only [List.map_cons, List.map_nil]
 iterate 4 refine t_k ?_
 refine t_17 ?_
 iterate 4 refine t_k ?_
 refine t_17 ?_
 iterate 11 refine t_k ?_
 refine vloop 5 ?_
 iterate 4
   change VOk _ _ _ _ _
   iterate 2 refine t_k ?_
   refine t_1 ?_
   iterate 14 refine t_k ?_
   refine t_8 ?_
   refine t_4 ?_
   refine t_k ?_
   refine t_8 ?_
   refine t_4 ?_
   refine t_k ?_
   refine t_s (by exact ev_extern rfl (gn rfl) rfl (by intro w; first | exact h0 w | exact h1 w | exact h2 w | exact h3 w)) ?_
   iterate 3 refine t_k ?_
   refine t_8 ?_
   refine t_24 ?_
   iterate 3 refine t_k ?_
   refine t_1 ?_
   iterate 2 refine t_k ?_
 change VOk _ _ _ _ _
 iterate 2 refine t_k ?_
 refine t_1 ?_
 iterate 3 refine t_k ?_
 refine vexit ?_
 change VOk _ _ _ _ _
 iterate 2 refine t_k ?_
 refine t_3 ?_
 refine t_k ?_
 refine t_9 ?_
 iterate 2 refine t_k ?_
 refine vret ?_
 refine post_ret (res2 Tryd.results60 (rv_cell rfl rfl Tryd.underlying50 rfl Tryd.sizeOf50 rfl rfl) (rv_tmp rfl)) ?_
 intro w' hg
 exact ⟨rfl, hg⟩
theorem shrink_01 (b : Nat) (m0 m1 m2 m3 a0 a1 a2 a3 d0 d1 d2 d3 : Nat) (w : World) (hm : ∀ (j : Nat) (v : Value), [.int .u64 (m0 : Nat), .int .u64 (m1 : Nat), .int .u64 (m2 : Nat), .int .u64 (m3 : Nat)][j]? = some v → w.cell? ⟨b, 0 + j, none⟩ = some v)
  (hs : ∀ w', Gw w w' → Calls Tryd.prog 48 #[.agg #[.int .u64 (a0 : Nat), .int .u64 (a1 : Nat), .int .u64 (a2 : Nat), .int .u64 (a3 : Nat)], .agg #[.int .u64 (m0 : Nat), .int .u64 (m1 : Nat), .int .u64 (m2 : Nat), .int .u64 (m3 : Nat)]] w' fun e w'' => e = .returned (.tuple #[.agg #[.int .u64 (d0 : Nat), .int .u64 (d1 : Nat), .int .u64 (d2 : Nat), .int .u64 (d3 : Nat)], .int .u64 1]) ∧ Gw w' w'') :
  Calls Tryd.prog 59 #[.pointer (some ⟨b, 0, none⟩), .agg #[.int .u64 (a0 : Nat), .int .u64 (a1 : Nat), .int .u64 (a2 : Nat), .int .u64 (a3 : Nat)], .int .u64 0] w fun e w' => e = .returned (.agg #[.int .u64 (a0 : Nat), .int .u64 (a1 : Nat), .int .u64 (a2 : Nat), .int .u64 (a3 : Nat)]) ∧ Gw w w' := by
 go_enter Tryd.func59, Tryd.ntmps59
 refine ve_go ?_
 simp only [List.map_cons, List.map_nil]
 iterate 3 refine t_k ?_
 refine t_17 ?_
 iterate 3 refine t_k ?_
 refine t_3 ?_
 iterate 2 refine t_k ?_
 refine t_18 ?_
 refine t_3 ?_
 refine t_39 ?_
 iterate 3 refine t_k ?_
 refine t_17 ?_
 refine t_9 ?_
 iterate 6 refine t_k ?_
 refine t_1 ?_
 refine t_k ?_
 refine t_33 ?_
 refine t_14 ?_
 refine t_1 ?_
 iterate 4 refine t_k ?_
 refine t_3 ?_
 refine t_9 ?_
 refine t_k ?_
 refine vret ?_
 refine post_ret (res1 Tryd.results59 (rv_cell rfl rfl Tryd.underlying50 rfl Tryd.sizeOf50 rfl rfl)) ?_
 intro w' hg
 exact ⟨rfl, hg⟩
theorem shrink_00 (b : Nat) (m0 m1 m2 m3 a0 a1 a2 a3 d0 d1 d2 d3 : Nat) (w : World) (hm : ∀ (j : Nat) (v : Value), [.int .u64 (m0 : Nat), .int .u64 (m1 : Nat), .int .u64 (m2 : Nat), .int .u64 (m3 : Nat)][j]? = some v → w.cell? ⟨b, 0 + j, none⟩ = some v)
  (hs : ∀ w', Gw w w' → Calls Tryd.prog 48 #[.agg #[.int .u64 (a0 : Nat), .int .u64 (a1 : Nat), .int .u64 (a2 : Nat), .int .u64 (a3 : Nat)], .agg #[.int .u64 (m0 : Nat), .int .u64 (m1 : Nat), .int .u64 (m2 : Nat), .int .u64 (m3 : Nat)]] w' fun e w'' => e = .returned (.tuple #[.agg #[.int .u64 (d0 : Nat), .int .u64 (d1 : Nat), .int .u64 (d2 : Nat), .int .u64 (d3 : Nat)], .int .u64 0]) ∧ Gw w' w'') :
  Calls Tryd.prog 59 #[.pointer (some ⟨b, 0, none⟩), .agg #[.int .u64 (a0 : Nat), .int .u64 (a1 : Nat), .int .u64 (a2 : Nat), .int .u64 (a3 : Nat)], .int .u64 0] w fun e w' => e = .returned (.agg #[.int .u64 (d0 : Nat), .int .u64 (d1 : Nat), .int .u64 (d2 : Nat), .int .u64 (d3 : Nat)]) ∧ Gw w w' := by
 go_enter Tryd.func59, Tryd.ntmps59
 refine ve_go ?_
 simp only [List.map_cons, List.map_nil]
 iterate 3 refine t_k ?_
 refine t_17 ?_
 iterate 3 refine t_k ?_
 refine t_3 ?_
 iterate 2 refine t_k ?_
 refine t_18 ?_
 refine t_3 ?_
 refine t_39 ?_
 iterate 3 refine t_k ?_
 refine t_17 ?_
 refine t_9 ?_
 iterate 6 refine t_k ?_
 refine t_1 ?_
 refine t_k ?_
 refine t_33 ?_
 refine t_14 ?_
 refine t_1 ?_
 iterate 5 refine t_k ?_
 refine t_3 ?_
 refine t_9 ?_
 refine t_k ?_
 refine vret ?_
 refine post_ret (res1 Tryd.results59 (rv_cell rfl rfl Tryd.underlying50 rfl Tryd.sizeOf50 rfl rfl)) ?_
 intro w' hg
 exact ⟨rfl, hg⟩
theorem shrink_10 (b : Nat) (m0 m1 m2 m3 a0 a1 a2 a3 d0 d1 d2 d3 : Nat) (w : World) (hm : ∀ (j : Nat) (v : Value), [.int .u64 (m0 : Nat), .int .u64 (m1 : Nat), .int .u64 (m2 : Nat), .int .u64 (m3 : Nat)][j]? = some v → w.cell? ⟨b, 0 + j, none⟩ = some v)
  (hs : ∀ w', Gw w w' → Calls Tryd.prog 48 #[.agg #[.int .u64 (a0 : Nat), .int .u64 (a1 : Nat), .int .u64 (a2 : Nat), .int .u64 (a3 : Nat)], .agg #[.int .u64 (m0 : Nat), .int .u64 (m1 : Nat), .int .u64 (m2 : Nat), .int .u64 (m3 : Nat)]] w' fun e w'' => e = .returned (.tuple #[.agg #[.int .u64 (d0 : Nat), .int .u64 (d1 : Nat), .int .u64 (d2 : Nat), .int .u64 (d3 : Nat)], .int .u64 0]) ∧ Gw w' w'') :
  Calls Tryd.prog 59 #[.pointer (some ⟨b, 0, none⟩), .agg #[.int .u64 (a0 : Nat), .int .u64 (a1 : Nat), .int .u64 (a2 : Nat), .int .u64 (a3 : Nat)], .int .u64 1] w fun e w' => e = .returned (.agg #[.int .u64 (d0 : Nat), .int .u64 (d1 : Nat), .int .u64 (d2 : Nat), .int .u64 (d3 : Nat)]) ∧ Gw w w' := by
 go_enter Tryd.func59, Tryd.ntmps59
 refine ve_go ?_
 simp only [List.map_cons, List.map_nil]
 iterate 3 refine t_k ?_
 refine t_17 ?_
 iterate 3 refine t_k ?_
 refine t_3 ?_
 iterate 2 refine t_k ?_
 refine t_18 ?_
 refine t_3 ?_
 refine t_39 ?_
 iterate 3 refine t_k ?_
 refine t_17 ?_
 refine t_9 ?_
 iterate 6 refine t_k ?_
 refine t_1 ?_
 refine t_k ?_
 refine t_33 ?_
 refine t_14 ?_
 refine t_1 ?_
 iterate 5 refine t_k ?_
 refine t_3 ?_
 refine t_9 ?_
 refine t_k ?_
 refine vret ?_
 refine post_ret (res1 Tryd.results59 (rv_cell rfl rfl Tryd.underlying50 rfl Tryd.sizeOf50 rfl rfl)) ?_
 intro w' hg
 exact ⟨rfl, hg⟩
theorem shrink_11 (b : Nat) (m0 m1 m2 m3 a0 a1 a2 a3 d0 d1 d2 d3 : Nat) (w : World) (hm : ∀ (j : Nat) (v : Value), [.int .u64 (m0 : Nat), .int .u64 (m1 : Nat), .int .u64 (m2 : Nat), .int .u64 (m3 : Nat)][j]? = some v → w.cell? ⟨b, 0 + j, none⟩ = some v)
  (hs : ∀ w', Gw w w' → Calls Tryd.prog 48 #[.agg #[.int .u64 (a0 : Nat), .int .u64 (a1 : Nat), .int .u64 (a2 : Nat), .int .u64 (a3 : Nat)], .agg #[.int .u64 (m0 : Nat), .int .u64 (m1 : Nat), .int .u64 (m2 : Nat), .int .u64 (m3 : Nat)]] w' fun e w'' => e = .returned (.tuple #[.agg #[.int .u64 (d0 : Nat), .int .u64 (d1 : Nat), .int .u64 (d2 : Nat), .int .u64 (d3 : Nat)], .int .u64 1]) ∧ Gw w' w'') :
  Calls Tryd.prog 59 #[.pointer (some ⟨b, 0, none⟩), .agg #[.int .u64 (a0 : Nat), .int .u64 (a1 : Nat), .int .u64 (a2 : Nat), .int .u64 (a3 : Nat)], .int .u64 1] w fun e w' => e = .returned (.agg #[.int .u64 (d0 : Nat), .int .u64 (d1 : Nat), .int .u64 (d2 : Nat), .int .u64 (d3 : Nat)]) ∧ Gw w w' := by
 go_enter Tryd.func59, Tryd.ntmps59
 refine ve_go ?_
 simp only [List.map_cons, List.map_nil]
 iterate 3 refine t_k ?_
 refine t_17 ?_
 iterate 3 refine t_k ?_
 refine t_3 ?_
 iterate 2 refine t_k ?_
 refine t_18 ?_
 refine t_3 ?_
 refine t_39 ?_
 iterate 3 refine t_k ?_
 refine t_17 ?_
 refine t_9 ?_
 iterate 6 refine t_k ?_
 refine t_1 ?_
 refine t_k ?_
 refine t_33 ?_
 refine t_14 ?_
 refine t_1 ?_
 iterate 5 refine t_k ?_
 refine t_3 ?_
 refine t_9 ?_
 refine t_k ?_
 refine vret ?_
 refine post_ret (res1 Tryd.results59 (rv_cell rfl rfl Tryd.underlying50 rfl Tryd.sizeOf50 rfl rfl)) ?_
 intro w' hg
 exact ⟨rfl, hg⟩
theorem less_0 (a0 a1 a2 a3 m0 m1 m2 m3 d0 d1 d2 d3 : Nat) (w : World)
  (hs : ∀ w', Gw w w' → Calls Tryd.prog 48 #[.agg #[.int .u64 (a0 : Nat), .int .u64 (a1 : Nat), .int .u64 (a2 : Nat), .int .u64 (a3 : Nat)], .agg #[.int .u64 (m0 : Nat), .int .u64 (m1 : Nat), .int .u64 (m2 : Nat), .int .u64 (m3 : Nat)]] w' fun e w'' => e = .returned (.tuple #[.agg #[.int .u64 (d0 : Nat), .int .u64 (d1 : Nat), .int .u64 (d2 : Nat), .int .u64 (d3 : Nat)], .int .u64 0]) ∧ Gw w' w'') :
  Calls Tryd.prog 42 #[.agg #[.int .u64 (a0 : Nat), .int .u64 (a1 : Nat), .int .u64 (a2 : Nat), .int .u64 (a3 : Nat)], .agg #[.int .u64 (m0 : Nat), .int .u64 (m1 : Nat), .int .u64 (m2 : Nat), .int .u64 (m3 : Nat)]] w fun e w' => e = .returned (.bool false) ∧ Gw w w' := by
 go_enter Tryd.func42, Tryd.ntmps42
 refine ve_go ?_
 simp only [List.map_cons, List.map_nil]
 iterate 8 refine t_k ?_
 iterate 2 refine t_3 ?_
 refine t_39 ?_
 iterate 3 refine t_k ?_
 refine t_17 ?_
 refine t_9 ?_
 iterate 5 refine t_k ?_
 refine t_1 ?_
 iterate 2 refine t_k ?_
 refine vret ?_
 refine post_ret (res1 Tryd.results42 (rv_tmp rfl)) ?_
 intro w' hg
 exact ⟨rfl, hg⟩
theorem less_1 (a0 a1 a2 a3 m0 m1 m2 m3 d0 d1 d2 d3 : Nat) (w : World)
  (hs : ∀ w', Gw w w' → Calls Tryd.prog 48 #[.agg #[.int .u64 (a0 : Nat), .int .u64 (a1 : Nat), .int .u64 (a2 : Nat), .int .u64 (a3 : Nat)], .agg #[.int .u64 (m0 : Nat), .int .u64 (m1 : Nat), .int .u64 (m2 : Nat), .int .u64 (m3 : Nat)]] w' fun e w'' => e = .returned (.tuple #[.agg #[.int .u64 (d0 : Nat), .int .u64 (d1 : Nat), .int .u64 (d2 : Nat), .int .u64 (d3 : Nat)], .int .u64 1]) ∧ Gw w' w'') :
  Calls Tryd.prog 42 #[.agg #[.int .u64 (a0 : Nat), .int .u64 (a1 : Nat), .int .u64 (a2 : Nat), .int .u64 (a3 : Nat)], .agg #[.int .u64 (m0 : Nat), .int .u64 (m1 : Nat), .int .u64 (m2 : Nat), .int .u64 (m3 : Nat)]] w fun e w' => e = .returned (.bool true) ∧ Gw w w' := by
 go_enter Tryd.func42, Tryd.ntmps42
 refine ve_go ?_
 simp only [List.map_cons, List.map_nil]
 iterate 8 refine t_k ?_
 iterate 2 refine t_3 ?_
 refine t_39 ?_
 iterate 3 refine t_k ?_
 refine t_17 ?_
 refine t_9 ?_
 iterate 5 refine t_k ?_
 refine t_1 ?_
 iterate 2 refine t_k ?_
 refine vret ?_
 refine post_ret (res1 Tryd.results42 (rv_tmp rfl)) ?_
 intro w' hg
 exact ⟨rfl, hg⟩
theorem rest_core (b : Nat) (t0 t1 t2 t3 a0 a1 a2 a3 x0 x1 x2 x3 y0 y1 y2 y3 : Nat) (w : World) (ht : ∀ (j : Nat) (v : Value), [.int .u64 (t0 : Nat), .int .u64 (t1 : Nat), .int .u64 (t2 : Nat), .int .u64 (t3 : Nat)][j]? = some v → w.cell? ⟨b, 9 + j, none⟩ = some v)
  (h1 : ∀ w', Gw w w' → Calls Tryd.prog 49 #[.pointer (some ⟨b, 0, none⟩), .agg #[.int .u64 (a0 : Nat), .int .u64 (a1 : Nat), .int .u64 (a2 : Nat), .int .u64 (a3 : Nat)], .agg #[.int .u64 (t0 : Nat), .int .u64 (t1 : Nat), .int .u64 (t2 : Nat), .int .u64 (t3 : Nat)]] w' fun e w'' => e = .returned (.agg #[.int .u64 (x0 : Nat), .int .u64 (x1 : Nat), .int .u64 (x2 : Nat), .int .u64 (x3 : Nat)]) ∧ Gw w' w'')
  (h2 : ∀ w', Gw w w' → Calls Tryd.prog 49 #[.pointer (some ⟨b, 0, none⟩), .agg #[.int .u64 (x0 : Nat), .int .u64 (x1 : Nat), .int .u64 (x2 : Nat), .int .u64 (x3 : Nat)], .agg #[.int .u64 1, .int .u64 0, .int .u64 0, .int .u64 0]] w' fun e w'' => e = .returned (.agg #[.int .u64 (y0 : Nat), .int .u64 (y1 : Nat), .int .u64 (y2 : Nat), .int .u64 (y3 : Nat)]) ∧ Gw w' w'') :
  Calls Tryd.prog 23 #[.pointer (some ⟨b, 0, none⟩), .agg #[.int .u64 (a0 : Nat), .int .u64 (a1 : Nat), .int .u64 (a2 : Nat), .int .u64 (a3 : Nat)]] w fun e w' => e = .returned (.agg #[.int .u64 (y0 : Nat), .int .u64 (y1 : Nat), .int .u64 (y2 : Nat), .int .u64 (y3 : Nat)]) ∧ Gw w w' := by
 go_enter Tryd.func23, Tryd.ntmps23
 refine ve_go ?_
 simp only [List.map_cons, List.map_nil]
 iterate 3 refine t_k ?_
 refine t_17 ?_
 iterate 5 refine t_k ?_
 refine t_1 ?_
 iterate 7 refine t_k ?_
 refine t_3 ?_
 iterate 2 refine t_k ?_
 refine t_18 ?_
 refine t_3 ?_
 refine t_s (by exact ev_call rfl (gn rfl) rfl (en_of Tryd.func49 (by kernel_rfl) rfl) h1) ?_
 refine t_1 ?_
 refine t_s (by exact ev_call rfl (gn rfl) rfl (en_of Tryd.func49 (by kernel_rfl) rfl) h2) ?_
 refine t_9 ?_
 refine t_k ?_
 refine vret ?_
 refine post_ret (res1 Tryd.results23 (rv_cell rfl rfl Tryd.underlying50 rfl Tryd.sizeOf50 rfl rfl)) ?_
 intro w' hg
 exact ⟨rfl, hg⟩
theorem mul_core (b : Nat) (t0 t1 t2 t3 a0 a1 a2 a3 c0 c1 c2 c3 x0 x1 x2 x3 y0 y1 y2 y3 z0 z1 z2 z3 : Nat) (w : World) (ht : ∀ (j : Nat) (v : Value), [.int .u64 (t0 : Nat), .int .u64 (t1 : Nat), .int .u64 (t2 : Nat), .int .u64 (t3 : Nat)][j]? = some v → w.cell? ⟨b, 9 + j, none⟩ = some v)
  (h1 : ∀ w', Gw w w' → Calls Tryd.prog 49 #[.pointer (some ⟨b, 0, none⟩), .agg #[.int .u64 (a0 : Nat), .int .u64 (a1 : Nat), .int .u64 (a2 : Nat), .int .u64 (a3 : Nat)], .agg #[.int .u64 (t0 : Nat), .int .u64 (t1 : Nat), .int .u64 (t2 : Nat), .int .u64 (t3 : Nat)]] w' fun e w'' => e = .returned (.agg #[.int .u64 (x0 : Nat), .int .u64 (x1 : Nat), .int .u64 (x2 : Nat), .int .u64 (x3 : Nat)]) ∧ Gw w' w'')
  (h2 : ∀ w', Gw w w' → Calls Tryd.prog 23 #[.pointer (some ⟨b, 0, none⟩), .agg #[.int .u64 (c0 : Nat), .int .u64 (c1 : Nat), .int .u64 (c2 : Nat), .int .u64 (c3 : Nat)]] w' fun e w'' => e = .returned (.agg #[.int .u64 (y0 : Nat), .int .u64 (y1 : Nat), .int .u64 (y2 : Nat), .int .u64 (y3 : Nat)]) ∧ Gw w' w'')
  (h3 : ∀ w', Gw w w' → Calls Tryd.prog 49 #[.pointer (some ⟨b, 0, none⟩), .agg #[.int .u64 (x0 : Nat), .int .u64 (x1 : Nat), .int .u64 (x2 : Nat), .int .u64 (x3 : Nat)], .agg #[.int .u64 (y0 : Nat), .int .u64 (y1 : Nat), .int .u64 (y2 : Nat), .int .u64 (y3 : Nat)]] w' fun e w'' => e = .returned (.agg #[.int .u64 (z0 : Nat), .int .u64 (z1 : Nat), .int .u64 (z2 : Nat), .int .u64 (z3 : Nat)]) ∧ Gw w' w'') :
  Calls Tryd.prog 21 #[.pointer (some ⟨b, 0, none⟩), .agg #[.int .u64 (a0 : Nat), .int .u64 (a1 : Nat), .int .u64 (a2 : Nat), .int .u64 (a3 : Nat)], .agg #[.int .u64 (c0 : Nat), .int .u64 (c1 : Nat), .int .u64 (c2 : Nat), .int .u64 (c3 : Nat)]] w fun e w' => e = .returned (.agg #[.int .u64 (z0 : Nat), .int .u64 (z1 : Nat), .int .u64 (z2 : Nat), .int .u64 (z3 : Nat)]) ∧ Gw w w' := by
 go_enter Tryd.func21, Tryd.ntmps21
 refine ve_go ?_
 simp only [List.map_cons, List.map_nil]
 iterate 4 refine t_k ?_
 refine t_17 ?_
 iterate 5 refine t_k ?_
 refine t_1 ?_
 iterate 7 refine t_k ?_
 refine t_3 ?_
 iterate 2 refine t_k ?_
 refine t_18 ?_
 refine t_3 ?_
 refine t_s (by exact ev_call rfl (gn rfl) rfl (en_of Tryd.func49 (by kernel_rfl) rfl) h1) ?_
 refine t_k ?_
 refine t_3 ?_
 refine t_43 ?_
 refine t_s (by exact ev_call rfl (gn rfl) rfl (en_of Tryd.func49 (by kernel_rfl) rfl) h3) ?_
 refine t_9 ?_
 refine t_k ?_
 refine vret ?_
 refine post_ret (res1 Tryd.results21 (rv_cell rfl rfl Tryd.underlying50 rfl Tryd.sizeOf50 rfl rfl)) ?_
 intro w' hg
 exact ⟨rfl, hg⟩
theorem madd_0 (b : Nat) (a0 a1 a2 a3 c0 c1 c2 c3 x0 x1 x2 x3 y0 y1 y2 y3 s0 s1 s2 s3 z0 z1 z2 z3 : Nat) (w : World)
  (h1 : ∀ w', Gw w w' → Calls Tryd.prog 23 #[.pointer (some ⟨b, 0, none⟩), .agg #[.int .u64 (a0 : Nat), .int .u64 (a1 : Nat), .int .u64 (a2 : Nat), .int .u64 (a3 : Nat)]] w' fun e w'' => e = .returned (.agg #[.int .u64 (x0 : Nat), .int .u64 (x1 : Nat), .int .u64 (x2 : Nat), .int .u64 (x3 : Nat)]) ∧ Gw w' w'')
  (h2 : ∀ w', Gw w w' → Calls Tryd.prog 23 #[.pointer (some ⟨b, 0, none⟩), .agg #[.int .u64 (c0 : Nat), .int .u64 (c1 : Nat), .int .u64 (c2 : Nat), .int .u64 (c3 : Nat)]] w' fun e w'' => e = .returned (.agg #[.int .u64 (y0 : Nat), .int .u64 (y1 : Nat), .int .u64 (y2 : Nat), .int .u64 (y3 : Nat)]) ∧ Gw w' w'')
  (h3 : ∀ w', Gw w w' → Calls Tryd.prog 60 #[.agg #[.int .u64 (x0 : Nat), .int .u64 (x1 : Nat), .int .u64 (x2 : Nat), .int .u64 (x3 : Nat)], .agg #[.int .u64 (y0 : Nat), .int .u64 (y1 : Nat), .int .u64 (y2 : Nat), .int .u64 (y3 : Nat)]] w' fun e w'' => e = .returned (.tuple #[.agg #[.int .u64 (s0 : Nat), .int .u64 (s1 : Nat), .int .u64 (s2 : Nat), .int .u64 (s3 : Nat)], .int .u64 0]) ∧ Gw w' w'')
  (h4 : ∀ w', Gw w w' → Calls Tryd.prog 59 #[.pointer (some ⟨b, 0, none⟩), .agg #[.int .u64 (s0 : Nat), .int .u64 (s1 : Nat), .int .u64 (s2 : Nat), .int .u64 (s3 : Nat)], .int .u64 0] w' fun e w'' => e = .returned (.agg #[.int .u64 (z0 : Nat), .int .u64 (z1 : Nat), .int .u64 (z2 : Nat), .int .u64 (z3 : Nat)]) ∧ Gw w' w'') :
  Calls Tryd.prog 43 #[.pointer (some ⟨b, 0, none⟩), .agg #[.int .u64 (a0 : Nat), .int .u64 (a1 : Nat), .int .u64 (a2 : Nat), .int .u64 (a3 : Nat)], .agg #[.int .u64 (c0 : Nat), .int .u64 (c1 : Nat), .int .u64 (c2 : Nat), .int .u64 (c3 : Nat)]] w fun e w' => e = .returned (.agg #[.int .u64 (z0 : Nat), .int .u64 (z1 : Nat), .int .u64 (z2 : Nat), .int .u64 (z3 : Nat)]) ∧ Gw w w' := by
 go_enter Tryd.func43, Tryd.ntmps43
 refine ve_go ?_
 simp only [List.map_cons, List.map_nil]
 iterate 4 refine t_k ?_
 refine t_17 ?_
 iterate 5 refine t_k ?_
 refine t_1 ?_
 iterate 6 refine t_k ?_
 refine t_3 ?_
 refine t_70 ?_
 refine t_k ?_
 refine t_3 ?_
 refine t_43 ?_
 refine t_s (by exact ev_call rfl (gn rfl) rfl (en_of Tryd.func60 (by kernel_rfl) rfl) h3) ?_
 iterate 3 refine t_k ?_
 refine t_17 ?_
 refine t_9 ?_
 iterate 5 refine t_k ?_
 refine t_3 ?_
 refine t_k ?_
 refine t_s (by exact ev_call rfl (gn rfl) rfl (en_of Tryd.func59 (by kernel_rfl) rfl) h4) ?_
 refine t_9 ?_
 refine t_k ?_
 refine vret ?_
 refine post_ret (res1 Tryd.results43 (rv_cell rfl rfl Tryd.underlying50 rfl Tryd.sizeOf50 rfl rfl)) ?_
 intro w' hg
 exact ⟨rfl, hg⟩
theorem msub_0 (b : Nat) (m0 m1 m2 m3 a0 a1 a2 a3 c0 c1 c2 c3 x0 x1 x2 x3 y0 y1 y2 y3 s0 s1 s2 s3 z0 z1 z2 z3 : Nat) (k : Nat) (w : World) (_hm : ∀ (j : Nat) (v : Value), [.int .u64 (m0 : Nat), .int .u64 (m1 : Nat), .int .u64 (m2 : Nat), .int .u64 (m3 : Nat)][j]? = some v → w.cell? ⟨b, 0 + j, none⟩ = some v)
  (h1 : ∀ w', Gw w w' → Calls Tryd.prog 23 #[.pointer (some ⟨b, 0, none⟩), .agg #[.int .u64 (a0 : Nat), .int .u64 (a1 : Nat), .int .u64 (a2 : Nat), .int .u64 (a3 : Nat)]] w' fun e w'' => e = .returned (.agg #[.int .u64 (x0 : Nat), .int .u64 (x1 : Nat), .int .u64 (x2 : Nat), .int .u64 (x3 : Nat)]) ∧ Gw w' w'')
  (h2 : ∀ w', Gw w w' → Calls Tryd.prog 23 #[.pointer (some ⟨b, 0, none⟩), .agg #[.int .u64 (c0 : Nat), .int .u64 (c1 : Nat), .int .u64 (c2 : Nat), .int .u64 (c3 : Nat)]] w' fun e w'' => e = .returned (.agg #[.int .u64 (y0 : Nat), .int .u64 (y1 : Nat), .int .u64 (y2 : Nat), .int .u64 (y3 : Nat)]) ∧ Gw w' w'')
  (h3 : ∀ w', Gw w w' → Calls Tryd.prog 48 #[.agg #[.int .u64 (x0 : Nat), .int .u64 (x1 : Nat), .int .u64 (x2 : Nat), .int .u64 (x3 : Nat)], .agg #[.int .u64 (y0 : Nat), .int .u64 (y1 : Nat), .int .u64 (y2 : Nat), .int .u64 (y3 : Nat)]] w' fun e w'' => e = .returned (.tuple #[.agg #[.int .u64 (s0 : Nat), .int .u64 (s1 : Nat), .int .u64 (s2 : Nat), .int .u64 (s3 : Nat)], .int .u64 0]) ∧ Gw w' w'')
  (_h4 : ∀ w', Gw w w' → Calls Tryd.prog 60 #[.agg #[.int .u64 (s0 : Nat), .int .u64 (s1 : Nat), .int .u64 (s2 : Nat), .int .u64 (s3 : Nat)], .agg #[.int .u64 (m0 : Nat), .int .u64 (m1 : Nat), .int .u64 (m2 : Nat), .int .u64 (m3 : Nat)]] w' fun e w'' => e = .returned (.tuple #[.agg #[.int .u64 (z0 : Nat), .int .u64 (z1 : Nat), .int .u64 (z2 : Nat), .int .u64 (z3 : Nat)], .int .u64 (k : Nat)]) ∧ Gw w' w'') :
  Calls Tryd.prog 44 #[.pointer (some ⟨b, 0, none⟩), .agg #[.int .u64 (a0 : Nat), .int .u64 (a1 : Nat), .int .u64 (a2 : Nat), .int .u64 (a3 : Nat)], .agg #[.int .u64 (c0 : Nat), .int .u64 (c1 : Nat), .int .u64 (c2 : Nat), .int .u64 (c3 : Nat)]] w fun e w' => e = .returned (.agg #[.int .u64 (s0 : Nat), .int .u64 (s1 : Nat), .int .u64 (s2 : Nat), .int .u64 (s3 : Nat)]) ∧ Gw w w' := by
 go_enter Tryd.func44, Tryd.ntmps44
 refine ve_go ?_
 simp only [List.map_cons, List.map_nil]
 iterate 4 refine t_k ?_
 refine t_17 ?_
 iterate 5 refine t_k ?_
 refine t_1 ?_
 iterate 6 refine t_k ?_
 refine t_3 ?_
 refine t_70 ?_
 refine t_k ?_
 refine t_3 ?_
 refine t_43 ?_
 refine t_s (by exact ev_call rfl (gn rfl) rfl (en_of Tryd.func48 (by kernel_rfl) rfl) h3) ?_
 iterate 3 refine t_k ?_
 refine t_17 ?_
 refine t_9 ?_
 iterate 6 refine t_k ?_
 refine t_1 ?_
 iterate 5 refine t_k ?_
 refine t_3 ?_
 refine t_9 ?_
 refine t_k ?_
 refine vret ?_
 refine post_ret (res1 Tryd.results44 (rv_cell rfl rfl Tryd.underlying50 rfl Tryd.sizeOf50 rfl rfl)) ?_
 intro w' hg
 exact ⟨rfl, hg⟩
theorem madd_1 (b : Nat) (a0 a1 a2 a3 c0 c1 c2 c3 x0 x1 x2 x3 y0 y1 y2 y3 s0 s1 s2 s3 z0 z1 z2 z3 : Nat) (w : World)
  (h1 : ∀ w', Gw w w' → Calls Tryd.prog 23 #[.pointer (some ⟨b, 0, none⟩), .agg #[.int .u64 (a0 : Nat), .int .u64 (a1 : Nat), .int .u64 (a2 : Nat), .int .u64 (a3 : Nat)]] w' fun e w'' => e = .returned (.agg #[.int .u64 (x0 : Nat), .int .u64 (x1 : Nat), .int .u64 (x2 : Nat), .int .u64 (x3 : Nat)]) ∧ Gw w' w'')
  (h2 : ∀ w', Gw w w' → Calls Tryd.prog 23 #[.pointer (some ⟨b, 0, none⟩), .agg #[.int .u64 (c0 : Nat), .int .u64 (c1 : Nat), .int .u64 (c2 : Nat), .int .u64 (c3 : Nat)]] w' fun e w'' => e = .returned (.agg #[.int .u64 (y0 : Nat), .int .u64 (y1 : Nat), .int .u64 (y2 : Nat), .int .u64 (y3 : Nat)]) ∧ Gw w' w'')
  (h3 : ∀ w', Gw w w' → Calls Tryd.prog 60 #[.agg #[.int .u64 (x0 : Nat), .int .u64 (x1 : Nat), .int .u64 (x2 : Nat), .int .u64 (x3 : Nat)], .agg #[.int .u64 (y0 : Nat), .int .u64 (y1 : Nat), .int .u64 (y2 : Nat), .int .u64 (y3 : Nat)]] w' fun e w'' => e = .returned (.tuple #[.agg #[.int .u64 (s0 : Nat), .int .u64 (s1 : Nat), .int .u64 (s2 : Nat), .int .u64 (s3 : Nat)], .int .u64 1]) ∧ Gw w' w'')
  (h4 : ∀ w', Gw w w' → Calls Tryd.prog 59 #[.pointer (some ⟨b, 0, none⟩), .agg #[.int .u64 (s0 : Nat), .int .u64 (s1 : Nat), .int .u64 (s2 : Nat), .int .u64 (s3 : Nat)], .int .u64 1] w' fun e w'' => e = .returned (.agg #[.int .u64 (z0 : Nat), .int .u64 (z1 : Nat), .int .u64 (z2 : Nat), .int .u64 (z3 : Nat)]) ∧ Gw w' w'') :
  Calls Tryd.prog 43 #[.pointer (some ⟨b, 0, none⟩), .agg #[.int .u64 (a0 : Nat), .int .u64 (a1 : Nat), .int .u64 (a2 : Nat), .int .u64 (a3 : Nat)], .agg #[.int .u64 (c0 : Nat), .int .u64 (c1 : Nat), .int .u64 (c2 : Nat), .int .u64 (c3 : Nat)]] w fun e w' => e = .returned (.agg #[.int .u64 (z0 : Nat), .int .u64 (z1 : Nat), .int .u64 (z2 : Nat), .int .u64 (z3 : Nat)]) ∧ Gw w w' := by
 go_enter Tryd.func43, Tryd.ntmps43
 refine ve_go ?_
 simp only [List.map_cons, List.map_nil]
 iterate 4 refine t_k ?_
 refine t_17 ?_
 iterate 5 refine t_k ?_
 refine t_1 ?_
 iterate 6 refine t_k ?_
 refine t_3 ?_
 refine t_70 ?_
 refine t_k ?_
 refine t_3 ?_
 refine t_43 ?_
 refine t_s (by exact ev_call rfl (gn rfl) rfl (en_of Tryd.func60 (by kernel_rfl) rfl) h3) ?_
 iterate 3 refine t_k ?_
 refine t_17 ?_
 refine t_9 ?_
 iterate 5 refine t_k ?_
 refine t_3 ?_
 refine t_k ?_
 refine t_s (by exact ev_call rfl (gn rfl) rfl (en_of Tryd.func59 (by kernel_rfl) rfl) h4) ?_
 refine t_9 ?_
 refine t_k ?_
 refine vret ?_
 refine post_ret (res1 Tryd.results43 (rv_cell rfl rfl Tryd.underlying50 rfl Tryd.sizeOf50 rfl rfl)) ?_
 intro w' hg
 exact ⟨rfl, hg⟩
theorem msub_1 (b : Nat) (m0 m1 m2 m3 a0 a1 a2 a3 c0 c1 c2 c3 x0 x1 x2 x3 y0 y1 y2 y3 s0 s1 s2 s3 z0 z1 z2 z3 : Nat) (k : Nat) (w : World) (hm : ∀ (j : Nat) (v : Value), [.int .u64 (m0 : Nat), .int .u64 (m1 : Nat), .int .u64 (m2 : Nat), .int .u64 (m3 : Nat)][j]? = some v → w.cell? ⟨b, 0 + j, none⟩ = some v)
  (h1 : ∀ w', Gw w w' → Calls Tryd.prog 23 #[.pointer (some ⟨b, 0, none⟩), .agg #[.int .u64 (a0 : Nat), .int .u64 (a1 : Nat), .int .u64 (a2 : Nat), .int .u64 (a3 : Nat)]] w' fun e w'' => e = .returned (.agg #[.int .u64 (x0 : Nat), .int .u64 (x1 : Nat), .int .u64 (x2 : Nat), .int .u64 (x3 : Nat)]) ∧ Gw w' w'')
  (h2 : ∀ w', Gw w w' → Calls Tryd.prog 23 #[.pointer (some ⟨b, 0, none⟩), .agg #[.int .u64 (c0 : Nat), .int .u64 (c1 : Nat), .int .u64 (c2 : Nat), .int .u64 (c3 : Nat)]] w' fun e w'' => e = .returned (.agg #[.int .u64 (y0 : Nat), .int .u64 (y1 : Nat), .int .u64 (y2 : Nat), .int .u64 (y3 : Nat)]) ∧ Gw w' w'')
  (h3 : ∀ w', Gw w w' → Calls Tryd.prog 48 #[.agg #[.int .u64 (x0 : Nat), .int .u64 (x1 : Nat), .int .u64 (x2 : Nat), .int .u64 (x3 : Nat)], .agg #[.int .u64 (y0 : Nat), .int .u64 (y1 : Nat), .int .u64 (y2 : Nat), .int .u64 (y3 : Nat)]] w' fun e w'' => e = .returned (.tuple #[.agg #[.int .u64 (s0 : Nat), .int .u64 (s1 : Nat), .int .u64 (s2 : Nat), .int .u64 (s3 : Nat)], .int .u64 1]) ∧ Gw w' w'')
  (h4 : ∀ w', Gw w w' → Calls Tryd.prog 60 #[.agg #[.int .u64 (s0 : Nat), .int .u64 (s1 : Nat), .int .u64 (s2 : Nat), .int .u64 (s3 : Nat)], .agg #[.int .u64 (m0 : Nat), .int .u64 (m1 : Nat), .int .u64 (m2 : Nat), .int .u64 (m3 : Nat)]] w' fun e w'' => e = .returned (.tuple #[.agg #[.int .u64 (z0 : Nat), .int .u64 (z1 : Nat), .int .u64 (z2 : Nat), .int .u64 (z3 : Nat)], .int .u64 (k : Nat)]) ∧ Gw w' w'') :
  Calls Tryd.prog 44 #[.pointer (some ⟨b, 0, none⟩), .agg #[.int .u64 (a0 : Nat), .int .u64 (a1 : Nat), .int .u64 (a2 : Nat), .int .u64 (a3 : Nat)], .agg #[.int .u64 (c0 : Nat), .int .u64 (c1 : Nat), .int .u64 (c2 : Nat), .int .u64 (c3 : Nat)]] w fun e w' => e = .returned (.agg #[.int .u64 (z0 : Nat), .int .u64 (z1 : Nat), .int .u64 (z2 : Nat), .int .u64 (z3 : Nat)]) ∧ Gw w w' := by
 go_enter Tryd.func44, Tryd.ntmps44
 refine ve_go ?_
 simp only [List.map_cons, List.map_nil]
 iterate 4 refine t_k ?_
 refine t_17 ?_
 iterate 5 refine t_k ?_
 refine t_1 ?_
 iterate 6 refine t_k ?_
 refine t_3 ?_
 refine t_70 ?_
 refine t_k ?_
 refine t_3 ?_
 refine t_43 ?_
 refine t_s (by exact ev_call rfl (gn rfl) rfl (en_of Tryd.func48 (by kernel_rfl) rfl) h3) ?_
 iterate 3 refine t_k ?_
 refine t_17 ?_
 refine t_9 ?_
 iterate 6 refine t_k ?_
 refine t_1 ?_
 iterate 3 refine t_k ?_
 refine t_3 ?_
 iterate 2 refine t_k ?_
 refine t_18 ?_
 refine t_3 ?_
 refine t_s (by exact ev_call rfl (gn rfl) rfl (en_of Tryd.func60 (by kernel_rfl) rfl) h4) ?_
 iterate 3 refine t_k ?_
 refine t_9 ?_
 iterate 3 refine t_k ?_
 refine t_3 ?_
 refine t_9 ?_
 refine t_k ?_
 refine vret ?_
 refine post_ret (res1 Tryd.results44 (rv_cell rfl rfl Tryd.underlying50 rfl Tryd.sizeOf50 rfl rfl)) ?_
 intro w' hg
 exact ⟨rfl, hg⟩
end Go.Proofs.YtafbhakmkbehiaaDoor
end
section
namespace TollNt
def Prm (p : Nat) : Prop := 2 ≤ p ∧ ∀ d, d ∣ p → d = 1 ∨ d = p
theorem exists_prm (n : Nat) : 2 ≤ n → ∃ q, Prm q ∧ q ∣ n := by
  induction n using Nat.strongRecOn with
  | _ n ih =>
    intro hn
    by_cases h : ∀ d, d ∣ n → d = 1 ∨ d = n
    · exact ⟨n, ⟨hn, h⟩, Nat.dvd_refl _⟩
    · have : ∃ d, d ∣ n ∧ d ≠ 1 ∧ d ≠ n := by
        apply Classical.byContradiction; intro hc; apply h; intro d hd
        apply Classical.byContradiction; intro hx
        exact hc ⟨d, hd, fun e => hx (.inl e), fun e => hx (.inr e)⟩
      obtain ⟨d, hd, h1, h2⟩ := this
      have hle : d ≤ n := Nat.le_of_dvd (by omega) hd
      have h0 : d ≠ 0 := by rintro rfl; have := Nat.eq_zero_of_zero_dvd hd; omega
      obtain ⟨q, hq, hqd⟩ := ih d (by omega) (by omega)
      exact ⟨q, hq, Nat.dvd_trans hqd hd⟩
theorem Prm.coprime {p a : Nat} (hp : Prm p) (h : ¬ p ∣ a) : Nat.Coprime a p := by
  rcases hp.2 _ (Nat.gcd_dvd_right a p) with h1 | h1
  · exact h1
  · exact absurd (h1 ▸ Nat.gcd_dvd_left a p) h
theorem Prm.dvd_mul {p a b : Nat} (hp : Prm p) (h : p ∣ a * b) : p ∣ a ∨ p ∣ b := by
  by_cases ha : p ∣ a
  · exact .inl ha
  · exact .inr (Nat.Coprime.dvd_of_dvd_mul_left (hp.coprime ha).symm h)
theorem perm_of {α : Type} [DecidableEq α] (l : List α) : ∀ m : List α, l.Nodup → l ⊆ m → m.length ≤ l.length → l.Perm m := by
  induction l with
  | nil => intro m _ _ hl; have : m = [] := List.eq_nil_of_length_eq_zero (by simpa using hl); rw [this]
  | cons a l ih =>
    intro m hn hs hl
    have ha : a ∈ m := hs (by simp)
    have hp := List.perm_cons_erase ha
    rw [List.nodup_cons] at hn
    refine (List.Perm.cons a (ih (m.erase a) hn.2 ?_ ?_)).trans hp.symm
    · intro x hx
      have hxm : x ∈ m := hs (by simp [hx])
      have hne : x ≠ a := by rintro rfl; exact hn.1 hx
      exact (List.mem_erase_of_ne hne).2 hxm
    · have := List.length_erase_of_mem ha
      simp at hl; omega
def prod (l : List Nat) : Nat := l.foldr (· * ·) 1
theorem prod_perm {l m : List Nat} (h : l.Perm m) : prod l = prod m := by
  induction h with
  | nil => rfl
  | cons a _ ih => simp only [prod, List.foldr] at *; rw [ih]
  | swap a b l => simp only [prod, List.foldr]; rw [← Nat.mul_assoc, ← Nat.mul_assoc, Nat.mul_comm a b]
  | trans _ _ h1 h2 => exact h1.trans h2
theorem prod_map_mod (a p : Nat) (l : List Nat) : prod (l.map fun i => a * i % p) % p = a ^ l.length * prod l % p := by
  induction l with
  | nil => simp [prod]
  | cons x l ih =>
    have e1 : prod (List.map (fun i => a * i % p) (x :: l)) = (a * x % p) * prod (l.map fun i => a * i % p) := rfl
    have e2 : prod (x :: l) = x * prod l := rfl
    rw [e1, e2, List.length_cons, Nat.mul_mod, ih, ← Nat.mul_mod, Nat.mod_mul_mod]
    congr 1
    rw [Nat.pow_succ]; simp only [Nat.mul_assoc, Nat.mul_comm, Nat.mul_left_comm]
theorem coprime_prod {p : Nat} (hp : Prm p) : ∀ l : List Nat, (∀ x ∈ l, ¬ p ∣ x) → ¬ p ∣ prod l := by
  intro l
  induction l with
  | nil => intro _ h; have h1 : p ∣ 1 := h; have := Nat.le_of_dvd (by omega) h1; have := hp.1; omega
  | cons x l ih =>
    intro h hd
    rcases hp.dvd_mul (show p ∣ x * prod l from hd) with h1 | h1
    · exact h x (by simp) h1
    · exact ih (fun y hy => h y (by simp [hy])) h1
theorem nodup_map {α β : Type} (f : α → β) : ∀ l : List α, l.Nodup → (∀ x ∈ l, ∀ y ∈ l, f x = f y → x = y) → (l.map f).Nodup := by
  intro l
  induction l with
  | nil => intro _ _; simp
  | cons a l ih =>
    intro hn hi
    rw [List.nodup_cons] at hn
    rw [List.map_cons, List.nodup_cons]
    refine ⟨?_, ih hn.2 fun x hx y hy => hi x (by simp [hx]) y (by simp [hy])⟩
    intro hm
    obtain ⟨y, hy, he⟩ := List.mem_map.1 hm
    have := hi y (by simp [hy]) a (by simp) he
    exact hn.1 (this ▸ hy)
theorem dvd_sub_of_mod {a b p : Nat} (h : a % p = b % p) (hb : b ≤ a) : p ∣ a - b := by
  have h1 := Nat.div_add_mod a p
  have h2 := Nat.div_add_mod b p
  refine ⟨a / p - b / p, ?_⟩
  rw [Nat.mul_sub]; omega
theorem mul_cancel_mod {p a x y : Nat} (hp : Prm p) (ha : ¬ p ∣ a) (h : a * x % p = a * y % p) : x % p = y % p := by
  have key : ∀ x y, y ≤ x → a * x % p = a * y % p → x % p = y % p := by
    intro x y hle h
    have h1 : p ∣ a * x - a * y := dvd_sub_of_mod h (Nat.mul_le_mul_left _ hle)
    rw [← Nat.mul_sub] at h1
    rcases hp.dvd_mul h1 with h2 | h2
    · exact absurd h2 ha
    · obtain ⟨c, hc⟩ := h2
      have : x = y + p * c := by omega
      rw [this, Nat.add_mul_mod_self_left]
  rcases Nat.le_total y x with hle | hle
  · exact key x y hle h
  · exact (key y x hle h.symm).symm
theorem fermat {p a : Nat} (hp : Prm p) (ha : ¬ p ∣ a) : a ^ (p - 1) % p = 1 := by
  have hp2 := hp.1
  let l := List.range' 1 (p - 1)
  have hl : l.length = p - 1 := by simp [l]
  have hmem : ∀ x, x ∈ l ↔ 1 ≤ x ∧ x < p := by intro x; simp [l, List.mem_range'_1]; omega
  have hnd : l.Nodup := List.nodup_range'
  have hnotdvd : ∀ x ∈ l, ¬ p ∣ x := by
    intro x hx hd
    have := (hmem x).1 hx
    have := Nat.le_of_dvd (by omega) hd
    omega
  have hperm : (l.map fun i => a * i % p).Perm l := by
    refine perm_of _ _ ?_ ?_ (by simp)
    · refine nodup_map _ _ hnd ?_
      intro x hx y hy h
      have := mul_cancel_mod hp ha h
      rw [Nat.mod_eq_of_lt ((hmem x).1 hx).2, Nat.mod_eq_of_lt ((hmem y).1 hy).2] at this
      exact this
    · intro y hy
      obtain ⟨x, hx, rfl⟩ := List.mem_map.1 hy
      rw [hmem]
      refine ⟨?_, Nat.mod_lt _ (by omega)⟩
      apply Classical.byContradiction
      intro hc
      have : a * x % p = 0 := by omega
      rcases hp.dvd_mul (Nat.dvd_of_mod_eq_zero this) with h | h
      · exact ha h
      · exact hnotdvd x hx h
  have h1 : prod l % p = a ^ (p - 1) * prod l % p := by
    have := prod_map_mod a p l
    rw [prod_perm hperm, hl] at this
    exact this
  have h2 : prod l * a ^ (p - 1) % p = prod l * 1 % p := by rw [Nat.mul_comm, ← h1, Nat.mul_one]
  have := mul_cancel_mod hp (coprime_prod hp l hnotdvd) h2
  rw [this, Nat.mod_eq_of_lt (by omega)]
theorem pow_mod_one {a n m : Nat} (h : a ^ m % n = 1 % n) (k : Nat) : a ^ (m * k) % n = 1 % n := by
  rw [Nat.pow_mul, Nat.pow_mod, h, ← Nat.pow_mod, Nat.one_pow]
theorem pow_gcd {a n : Nat} (m k : Nat) : a ^ m % n = 1 % n → a ^ k % n = 1 % n → a ^ (Nat.gcd m k) % n = 1 % n := by
  induction m, k using Nat.gcd.induction with
  | H0 k => intro _ h; simpa using h
  | H1 m k hm ih =>
    intro h1 h2
    rw [Nat.gcd_rec]
    refine ih ?_ h1
    have e : a ^ k = a ^ (m * (k / m)) * a ^ (k % m) := by rw [← Nat.pow_add, Nat.div_add_mod]
    rw [e, Nat.mul_mod, pow_mod_one h1, ← Nat.mul_mod, Nat.one_mul] at h2
    exact h2
def pw (m : Nat) : Nat → Nat → Nat → Nat
  | 0, _, _ => 1 % m
  | f + 1, a, e => let r := pw m f (a * a % m) (e / 2); if e % 2 = 1 then r * a % m else r
theorem pw_eq (m : Nat) : ∀ f a e, e < 2 ^ f → pw m f a e = a ^ e % m := by
  intro f
  induction f with
  | zero => intro a e h; have : e = 0 := by simpa using h
            subst this; simp [pw]
  | succ f ih =>
    intro a e h
    have he : e / 2 < 2 ^ f := by rw [Nat.pow_succ] at h; omega
    have h2 : (a * a % m) ^ (e / 2) % m = a ^ (2 * (e / 2)) % m := by
      rw [← Nat.pow_mod, Nat.pow_mul, Nat.pow_two]
    simp only [pw, ih _ _ he, h2]
    split
    · rename_i h1
      have : e = 2 * (e / 2) + 1 := by omega
      conv => rhs; rw [this, Nat.pow_succ, Nat.mul_mod]
      rw [Nat.mod_mul_mod, ← Nat.mul_mod]
    · rename_i h1
      have : e = 2 * (e / 2) := by omega
      conv => rhs; rw [this]
def cert1 (N f q a : Nat) : Bool :=
  decide ((N - 1) % q = 0) && decide (pw N f a (N - 1) = 1) && decide (Nat.gcd (pw N f a ((N - 1) / q) + (N - 1)) N = 1)
theorem cert1_dvd {N f q a : Nat} (hN : 2 ≤ N) (hf : N < 2 ^ f) (hq : Prm q) (h : cert1 N f q a = true) {d : Nat} (hd : Prm d) (hdN : d ∣ N) : q ∣ d - 1 := by
  simp only [cert1, Bool.and_eq_true, decide_eq_true_eq] at h
  obtain ⟨⟨h1, h2⟩, h3⟩ := h
  rw [pw_eq _ _ _ _ (by omega)] at h2
  rw [pw_eq _ _ _ _ (Nat.lt_of_le_of_lt (Nat.div_le_self _ _) (by omega))] at h3
  have hd2 := hd.1
  have hmodd : ∀ x y : Nat, x % N = y % N → x % d = y % d := by
    intro x y hxy
    rw [← Nat.mod_mod_of_dvd x hdN, hxy, Nat.mod_mod_of_dvd y hdN]
  have ha : ¬ d ∣ a := by
    intro hda
    have h4 : d ∣ a ^ (N - 1) := by
      rw [show N - 1 = (N - 2) + 1 by omega, Nat.pow_succ]; exact Nat.dvd_trans hda (Nat.dvd_mul_left _ _)
    have h5 : a ^ (N - 1) % d = 1 % d := hmodd _ _ (by rw [h2, Nat.mod_eq_of_lt (by omega)])
    rw [Nat.mod_eq_zero_of_dvd h4, Nat.mod_eq_of_lt (by omega)] at h5
    omega
  have hfer := fermat hd ha
  have e1 : a ^ (N - 1) % d = 1 % d := hmodd _ _ (by rw [h2, Nat.mod_eq_of_lt (by omega)])
  have e2 : a ^ (d - 1) % d = 1 % d := by rw [hfer, Nat.mod_eq_of_lt (by omega)]
  have hg := pow_gcd _ _ e2 e1
  apply Classical.byContradiction
  intro hc
  obtain ⟨r, hr⟩ := Nat.dvd_of_mod_eq_zero h1
  have hq0 : 0 < q := by have := hq.1; omega
  have hdiv : (N - 1) / q = r := by rw [hr, Nat.mul_div_cancel_left _ hq0]
  have hcop : Nat.Coprime (Nat.gcd (d - 1) (N - 1)) q := by
    have : Nat.Coprime (d - 1) q := hq.coprime hc
    exact Nat.Coprime.coprime_dvd_left (Nat.gcd_dvd_left _ _) this
  have hdr : Nat.gcd (d - 1) (N - 1) ∣ r := by
    have : Nat.gcd (d - 1) (N - 1) ∣ q * r := by rw [← hr]; exact Nat.gcd_dvd_right _ _
    exact Nat.Coprime.dvd_of_dvd_mul_left hcop this
  obtain ⟨s, hs⟩ := hdr
  have e3 : a ^ r % d = 1 % d := by rw [hs]; exact pow_mod_one hg s
  rw [hdiv] at h3
  have e4 : (a ^ r % N + (N - 1)) % d = 0 := by
    have : (a ^ r % N) % d = 1 % d := by rw [Nat.mod_mod_of_dvd _ hdN, e3]
    have hN1 : d ∣ 1 + (N - 1) := by rw [show 1 + (N - 1) = N by omega]; exact hdN
    rw [Nat.add_mod, this, ← Nat.add_mod]
    exact Nat.mod_eq_zero_of_dvd hN1
  have e5 : d ∣ 1 := by rw [← h3]; exact Nat.dvd_gcd (Nat.dvd_of_mod_eq_zero e4) hdN
  have := Nat.le_of_dvd (by omega) e5
  omega
theorem prm_of {N F : Nat} (hN : 2 ≤ N) (hF : N < (F + 1) * (F + 1)) (h : ∀ d, Prm d → d ∣ N → F ∣ d - 1) : Prm N := by
  refine ⟨hN, ?_⟩
  intro d hd
  apply Classical.byContradiction
  intro hc
  have h1 : d ≠ 1 := fun e => hc (.inl e)
  have h2 : d ≠ N := fun e => hc (.inr e)
  obtain ⟨e, he⟩ := hd
  have hd0 : d ≠ 0 := by rintro rfl; omega
  have he0 : e ≠ 0 := by rintro rfl; omega
  have he1 : e ≠ 1 := by rintro rfl; omega
  obtain ⟨p1, hp1, hpd⟩ := exists_prm d (by omega)
  obtain ⟨p2, hp2, hpe⟩ := exists_prm e (by omega)
  have k1 := h p1 hp1 (Nat.dvd_trans hpd ⟨e, he⟩)
  have k2 := h p2 hp2 (Nat.dvd_trans hpe ⟨d, by rw [he, Nat.mul_comm]⟩)
  have := hp1.1; have := hp2.1
  have l1 := Nat.le_of_dvd (by omega) k1
  have l2 := Nat.le_of_dvd (by omega) k2
  have l3 := Nat.le_of_dvd (by omega) hpd
  have l4 := Nat.le_of_dvd (by omega) hpe
  have : (F + 1) * (F + 1) ≤ d * e := Nat.mul_le_mul (by omega) (by omega)
  omega
theorem prm_of1 {N q a : Nat} (f : Nat) (hq : Prm q) (h : (decide (2 ≤ N) && decide (N < 2 ^ f) && decide (N < (q + 1) * (q + 1)) && cert1 N f q a) = true) : Prm N := by
  simp only [Bool.and_eq_true, decide_eq_true_eq] at h
  obtain ⟨⟨⟨h1, h2⟩, h3⟩, h4⟩ := h
  exact prm_of h1 h3 fun d hd hdN => cert1_dvd h1 h2 hq h4 hd hdN
theorem prm_of2 {N q r a b : Nat} (f : Nat) (hq : Prm q) (hr : Prm r) (h : (decide (2 ≤ N) && decide (N < 2 ^ f) && decide (N < (q * r + 1) * (q * r + 1)) && decide (Nat.gcd q r = 1) && cert1 N f q a && cert1 N f r b) = true) : Prm N := by
  simp only [Bool.and_eq_true, decide_eq_true_eq] at h
  obtain ⟨⟨⟨⟨⟨h1, h2⟩, h3⟩, h5⟩, h4⟩, h6⟩ := h
  exact prm_of h1 h3 fun d hd hdN => Nat.Coprime.mul_dvd_of_dvd_of_dvd h5 (cert1_dvd h1 h2 hq h4 hd hdN) (cert1_dvd h1 h2 hr h6 hd hdN)
def trial (n : Nat) : Nat → Nat → Bool
  | 0, _ => true
  | f + 1, d => decide (n % d ≠ 0) && trial n f (d + 1)
theorem trial_dvd (n : Nat) : ∀ f d, trial n f d = true → ∀ k, d ≤ k → k < d + f → ¬ k ∣ n := by
  intro f
  induction f with
  | zero => intro d _ k h1 h2; omega
  | succ f ih =>
    intro d h k h1 h2 hk
    simp only [trial, Bool.and_eq_true, decide_eq_true_eq] at h
    by_cases e : k = d
    · subst e; exact h.1 (Nat.mod_eq_zero_of_dvd hk)
    · exact ih (d + 1) h.2 k (by omega) (by omega) hk
theorem prm_of_trial {n : Nat} (f : Nat) (h : (decide (2 ≤ n) && decide (n < (f + 2) * (f + 2)) && trial n f 2) = true) : Prm n := by
  simp only [Bool.and_eq_true, decide_eq_true_eq] at h
  obtain ⟨⟨h1, h2⟩, h3⟩ := h
  have hno : ∀ q, Prm q → q ∣ n → f + 2 ≤ q := by
    intro q hq hqn
    apply Classical.byContradiction; intro hc
    exact trial_dvd n f 2 h3 q hq.1 (by omega) hqn
  refine ⟨h1, ?_⟩
  intro d hd
  apply Classical.byContradiction
  intro hc
  have hd1 : d ≠ 1 := fun e => hc (.inl e)
  have hd2 : d ≠ n := fun e => hc (.inr e)
  obtain ⟨e, he⟩ := hd
  have hd0 : d ≠ 0 := by rintro rfl; omega
  have he0 : e ≠ 0 := by rintro rfl; omega
  have he1 : e ≠ 1 := by rintro rfl; omega
  obtain ⟨p1, hp1, hpd⟩ := exists_prm d (by omega)
  obtain ⟨p2, hp2, hpe⟩ := exists_prm e (by omega)
  have l1 := hno p1 hp1 (Nat.dvd_trans hpd ⟨e, he⟩)
  have l2 := hno p2 hp2 (Nat.dvd_trans hpe ⟨d, by rw [he, Nat.mul_comm]⟩)
  have l3 := Nat.le_of_dvd (by omega) hpd
  have l4 := Nat.le_of_dvd (by omega) hpe
  have : (f + 2) * (f + 2) ≤ d * e := Nat.mul_le_mul (by omega) (by omega)
  omega
end TollNt
end
section
namespace TollMont
open TollNt
abbrev W : Nat := 18446744073709551616
abbrev R : Nat := 115792089237316195423570985008687907853269984665640564039457584007913129639936
def lim (n i : Nat) : Nat := n / W ^ i % W
theorem lim_lt (n i : Nat) : lim n i < W := Nat.mod_lt _ (by decide)
theorem lim_zero (n : Nat) : lim n 0 = n % W := by simp [lim]
theorem lim_succ (n i : Nat) : lim n (i + 1) = lim (n / W) i := by
  unfold lim; rw [Nat.pow_succ, Nat.mul_comm, Nat.div_div_eq_div_mul]
theorem hmod {a b : Nat} (h : a < W) : (a + W * b) % W = a := by rw [Nat.add_mul_mod_self_left]; exact Nat.mod_eq_of_lt h
theorem hdiv {a b : Nat} (h : a < W) : (a + W * b) / W = b := by
  rw [Nat.add_mul_div_left _ _ (by decide), Nat.div_eq_of_lt h, Nat.zero_add]
theorem lim_of (a b c d e : Nat) (ha : a < W) (hb : b < W) (hc : c < W) (hd : d < W) :
    lim (a + W * (b + W * (c + W * (d + W * e)))) 0 = a ∧ lim (a + W * (b + W * (c + W * (d + W * e)))) 1 = b ∧ lim (a + W * (b + W * (c + W * (d + W * e)))) 2 = c ∧
      lim (a + W * (b + W * (c + W * (d + W * e)))) 3 = d ∧ (a + W * (b + W * (c + W * (d + W * e)))) / R = e := by
  refine ⟨?_, ?_, ?_, ?_, ?_⟩
  · rw [lim_zero, hmod ha]
  · rw [lim_succ, hdiv ha, lim_zero, hmod hb]
  · rw [lim_succ, hdiv ha, lim_succ, hdiv hb, lim_zero, hmod hc]
  · rw [lim_succ, hdiv ha, lim_succ, hdiv hb, lim_succ, hdiv hc, lim_zero, hmod hd]
  · rw [show R = W * (W * (W * W)) by decide, ← Nat.div_div_eq_div_mul, hdiv ha, ← Nat.div_div_eq_div_mul, hdiv hb, ← Nat.div_div_eq_div_mul, hdiv hc, hdiv hd]
theorem lim_sum (n : Nat) : n = lim n 0 + W * (lim n 1 + W * (lim n 2 + W * (lim n 3 + W * (n / R)))) := by
  have e : ∀ x : Nat, x = x % W + W * (x / W) := fun x => (Nat.mod_add_div x W).symm
  rw [show R = W * (W * (W * W)) by decide, ← Nat.div_div_eq_div_mul, ← Nat.div_div_eq_div_mul, ← Nat.div_div_eq_div_mul]
  simp only [lim_succ, lim_zero]
  rw [← e, ← e, ← e, ← e]
theorem lim_sum4 {n : Nat} (h : n < R) : n = lim n 0 + W * (lim n 1 + W * (lim n 2 + W * lim n 3)) := by
  have := lim_sum n
  rw [Nat.div_eq_of_lt h] at this
  simpa using this
theorem lim_inj {a b : Nat} (ha : a < R) (hb : b < R) (h0 : lim a 0 = lim b 0) (h1 : lim a 1 = lim b 1) (h2 : lim a 2 = lim b 2) (h3 : lim a 3 = lim b 3) : a = b := by
  rw [lim_sum4 ha, lim_sum4 hb, h0, h1, h2, h3]
theorem add_parts (n m : Nat) (hn : n < R) (hm : m < R) (s0 c0 s1 c1 s2 c2 s3 c3 : Nat)
    (e0 : s0 = (lim n 0 + lim m 0) % W) (f0 : c0 = (lim n 0 + lim m 0) / W)
    (e1 : s1 = (lim n 1 + lim m 1 + c0) % W) (f1 : c1 = (lim n 1 + lim m 1 + c0) / W)
    (e2 : s2 = (lim n 2 + lim m 2 + c1) % W) (f2 : c2 = (lim n 2 + lim m 2 + c1) / W)
    (e3 : s3 = (lim n 3 + lim m 3 + c2) % W) (f3 : c3 = (lim n 3 + lim m 3 + c2) / W) :
    s0 = lim (n + m) 0 ∧ s1 = lim (n + m) 1 ∧ s2 = lim (n + m) 2 ∧ s3 = lim (n + m) 3 ∧ c3 = (n + m) / R := by
  have hN := lim_sum4 hn; have hM := lim_sum4 hm
  generalize lim n 0 = n0 at *; generalize lim n 1 = n1 at *; generalize lim n 2 = n2 at *; generalize lim n 3 = n3 at *
  generalize lim m 0 = m0 at *; generalize lim m 1 = m1 at *; generalize lim m 2 = m2 at *; generalize lim m 3 = m3 at *
  have l0 : s0 < W := e0 ▸ Nat.mod_lt _ (by decide)
  have l1 : s1 < W := e1 ▸ Nat.mod_lt _ (by decide)
  have l2 : s2 < W := e2 ▸ Nat.mod_lt _ (by decide)
  have l3 : s3 < W := e3 ▸ Nat.mod_lt _ (by decide)
  have k0 : n0 + m0 = s0 + W * c0 := by rw [e0, f0, Nat.mod_add_div]
  have k1 : n1 + m1 + c0 = s1 + W * c1 := by rw [e1, f1, Nat.mod_add_div]
  have k2 : n2 + m2 + c1 = s2 + W * c2 := by rw [e2, f2, Nat.mod_add_div]
  have k3 : n3 + m3 + c2 = s3 + W * c3 := by rw [e3, f3, Nat.mod_add_div]
  have key : n + m = s0 + W * (s1 + W * (s2 + W * (s3 + W * c3))) := by
    clear e0 e1 e2 e3 f0 f1 f2 f3 l0 l1 l2 l3 hn hm
    simp only [W] at *; omega
  rw [key]
  obtain ⟨h0, h1, h2, h3, h4⟩ := lim_of s0 s1 s2 s3 c3 l0 l1 l2 l3
  exact ⟨h0.symm, h1.symm, h2.symm, h3.symm, h4.symm⟩
def dif (n m : Nat) : Nat := if n < m then n + R - m else n - m
theorem dif_lt {n m : Nat} (hn : n < R) (hm : m < R) : dif n m < R := by unfold dif; split <;> omega
theorem sub1 {a b c s d : Nat} (ha : a < W) (hb : b < W) (hc : c ≤ 1) (e : s = (a + W - b - c) % W) (f : d = if a < b + c then 1 else 0) : a + W * d = b + s + c ∧ d ≤ 1 := by
  simp only [W] at *
  split at f <;> omega
theorem sub_parts (n m : Nat) (hn : n < R) (hm : m < R) (s0 c0 s1 c1 s2 c2 s3 c3 : Nat)
    (e0 : s0 = (lim n 0 + W - lim m 0 - 0) % W) (f0 : c0 = if lim n 0 < lim m 0 + 0 then 1 else 0)
    (e1 : s1 = (lim n 1 + W - lim m 1 - c0) % W) (f1 : c1 = if lim n 1 < lim m 1 + c0 then 1 else 0)
    (e2 : s2 = (lim n 2 + W - lim m 2 - c1) % W) (f2 : c2 = if lim n 2 < lim m 2 + c1 then 1 else 0)
    (e3 : s3 = (lim n 3 + W - lim m 3 - c2) % W) (f3 : c3 = if lim n 3 < lim m 3 + c2 then 1 else 0) :
    s0 = lim (dif n m) 0 ∧ s1 = lim (dif n m) 1 ∧ s2 = lim (dif n m) 2 ∧ s3 = lim (dif n m) 3 ∧ c3 = if n < m then 1 else 0 := by
  have hN := lim_sum4 hn; have hM := lim_sum4 hm
  obtain ⟨k0, g0⟩ := sub1 (lim_lt n 0) (lim_lt m 0) (Nat.zero_le _) e0 f0
  obtain ⟨k1, g1⟩ := sub1 (lim_lt n 1) (lim_lt m 1) g0 e1 f1
  obtain ⟨k2, g2⟩ := sub1 (lim_lt n 2) (lim_lt m 2) g1 e2 f2
  obtain ⟨k3, g3⟩ := sub1 (lim_lt n 3) (lim_lt m 3) g2 e3 f3
  generalize lim n 0 = n0 at *; generalize lim n 1 = n1 at *; generalize lim n 2 = n2 at *; generalize lim n 3 = n3 at *
  generalize lim m 0 = m0 at *; generalize lim m 1 = m1 at *; generalize lim m 2 = m2 at *; generalize lim m 3 = m3 at *
  have l0 : s0 < W := e0 ▸ Nat.mod_lt _ (by decide)
  have l1 : s1 < W := e1 ▸ Nat.mod_lt _ (by decide)
  have l2 : s2 < W := e2 ▸ Nat.mod_lt _ (by decide)
  have l3 : s3 < W := e3 ▸ Nat.mod_lt _ (by decide)
  clear e0 e1 e2 e3 f0 f1 f2 f3
  have key : n + R * c3 = m + (s0 + W * (s1 + W * (s2 + W * s3))) := by
    clear l0 l1 l2 l3 hn hm
    simp only [W, R] at *; omega
  have hS : s0 + W * (s1 + W * (s2 + W * s3)) < R := by
    clear key k0 k1 k2 k3 hN hM; simp only [W, R] at *; omega
  generalize hs : s0 + W * (s1 + W * (s2 + W * s3)) = s at *
  have hd : dif n m = s ∧ c3 = if n < m then 1 else 0 := by
    clear k0 k1 k2 k3 hN hM hs l0 l1 l2 l3
    unfold dif; simp only [R] at *
    have : c3 = 0 ∨ c3 = 1 := by omega
    rcases this with h | h <;> subst h <;> constructor <;> split <;> omega
  obtain ⟨h0, h1, h2, h3, h4⟩ := lim_of s0 s1 s2 s3 0 l0 l1 l2 l3
  simp only [Nat.mul_zero, Nat.add_zero, hs] at h0 h1 h2 h3
  rw [hd.1]
  exact ⟨h0.symm, h1.symm, h2.symm, h3.symm, hd.2⟩
end TollMont
end
section
namespace TollMont
open TollNt
theorem mac_eq {x y t c : Nat} (hx : x < W) (hy : y < W) (ht : t < W) (hc : c < W) :
    ((x * y % W + t) % W + c) % W = (x * y + t + c) % W ∧ ((x * y / W + (x * y % W + t) / W) % W + ((x * y % W + t) % W + c) / W) % W = (x * y + t + c) / W := by
  have hp : x * y ≤ (W - 1) * (W - 1) := Nat.mul_le_mul (by omega) (by omega)
  generalize x * y = p at *
  simp only [W] at *
  constructor <;> omega
def v5 (a b c d e : Nat) : Nat := a + W * (b + W * (c + W * (d + W * e)))
def v4 (a b c d : Nat) : Nat := a + W * (b + W * (c + W * d))
theorem round_first {x a0 a1 a2 a3 t0 t1 t2 t3 t4 u0 u1 u2 u3 u4 u5 c1 c2 c3 c4 : Nat}
    (e0 : u0 = (x * a0 + t0 + 0) % W) (f0 : c1 = (x * a0 + t0 + 0) / W)
    (e1 : u1 = (x * a1 + t1 + c1) % W) (f1 : c2 = (x * a1 + t1 + c1) / W)
    (e2 : u2 = (x * a2 + t2 + c2) % W) (f2 : c3 = (x * a2 + t2 + c2) / W)
    (e3 : u3 = (x * a3 + t3 + c3) % W) (f3 : c4 = (x * a3 + t3 + c3) / W)
    (e4 : u4 = (t4 + c4) % W) (f4 : u5 = (t4 + c4) / W) :
    v5 t0 t1 t2 t3 t4 + x * v4 a0 a1 a2 a3 = u0 + W * (u1 + W * (u2 + W * (u3 + W * (u4 + W * u5)))) := by
  have k0 : x * a0 + t0 + 0 = u0 + W * c1 := by rw [e0, f0, Nat.mod_add_div]
  have k1 : x * a1 + t1 + c1 = u1 + W * c2 := by rw [e1, f1, Nat.mod_add_div]
  have k2 : x * a2 + t2 + c2 = u2 + W * c3 := by rw [e2, f2, Nat.mod_add_div]
  have k3 : x * a3 + t3 + c3 = u3 + W * c4 := by rw [e3, f3, Nat.mod_add_div]
  have k4 : t4 + c4 = u4 + W * u5 := by rw [e4, f4, Nat.mod_add_div]
  clear e0 e1 e2 e3 e4 f0 f1 f2 f3 f4
  unfold v5 v4
  have hd : x * (a0 + W * (a1 + W * (a2 + W * a3))) = x * a0 + W * (x * a1 + W * (x * a2 + W * (x * a3))) := by
    simp only [Nat.mul_add, Nat.mul_left_comm]
  rw [hd]
  generalize x * a0 = p0 at *; generalize x * a1 = p1 at *; generalize x * a2 = p2 at *; generalize x * a3 = p3 at *
  simp only [W] at *; omega
theorem round_second {q m0 m1 m2 m3 u0 u1 u2 u3 u4 u5 v0 v1 v2 v3 v4' c1 c2 c3 c4 k : Nat} (hq : (q * m0 + u0) % W = 0)
    (f0 : c1 = (q * m0 + u0) / W)
    (e1 : v0 = (q * m1 + u1 + c1) % W) (f1 : c2 = (q * m1 + u1 + c1) / W)
    (e2 : v1 = (q * m2 + u2 + c2) % W) (f2 : c3 = (q * m2 + u2 + c2) / W)
    (e3 : v2 = (q * m3 + u3 + c3) % W) (f3 : c4 = (q * m3 + u3 + c3) / W)
    (e4 : v3 = (u4 + c4) % W) (f4 : k = (u4 + c4) / W) (e5 : v4' = u5 + k) :
    u0 + W * (u1 + W * (u2 + W * (u3 + W * (u4 + W * u5)))) + q * v4 m0 m1 m2 m3 = W * v5 v0 v1 v2 v3 v4' := by
  have k0 : q * m0 + u0 = W * c1 := by have := Nat.mod_add_div (q * m0 + u0) W; rw [hq, ← f0] at this; omega
  have k1 : q * m1 + u1 + c1 = v0 + W * c2 := by rw [e1, f1, Nat.mod_add_div]
  have k2 : q * m2 + u2 + c2 = v1 + W * c3 := by rw [e2, f2, Nat.mod_add_div]
  have k3 : q * m3 + u3 + c3 = v2 + W * c4 := by rw [e3, f3, Nat.mod_add_div]
  have k4 : u4 + c4 = v3 + W * k := by rw [e4, f4, Nat.mod_add_div]
  clear hq e1 e2 e3 e4 f0 f1 f2 f3 f4
  unfold v5 v4
  have hd : q * (m0 + W * (m1 + W * (m2 + W * m3))) = q * m0 + W * (q * m1 + W * (q * m2 + W * (q * m3))) := by
    simp only [Nat.mul_add, Nat.mul_left_comm]
  rw [hd]
  generalize q * m0 = p0 at *; generalize q * m1 = p1 at *; generalize q * m2 = p2 at *; generalize q * m3 = p3 at *
  simp only [W] at *; omega
theorem q_zero {m0 neg u : Nat} (hneg : (neg * m0 + 1) % W = 0) : ((u * neg % W) * m0 + u) % W = 0 := by
  have h1 : ((u * neg % W) * m0 + u) % W = (u * (neg * m0 + 1)) % W := by
    rw [Nat.add_mod, Nat.mod_mul_mod, ← Nat.add_mod, Nat.mul_add, Nat.mul_one, Nat.mul_assoc]
  rw [h1, Nat.mul_mod, hneg, Nat.mul_zero, Nat.zero_mod]
theorem v5_lt {a b c d e : Nat} (h : v5 a b c d e < 2 * R) : e ≤ 1 := by
  unfold v5 at h; simp only [W, R] at h; omega
theorem round_lt {T T' a m x q : Nat} (hx : x < W) (hq : q < W) (hT : T < a + m) (h : T + x * a + q * m = W * T') : T' < a + m := by
  have h1 : x * a ≤ (W - 1) * a := Nat.mul_le_mul_right _ (by omega)
  have h2 : q * m ≤ (W - 1) * m := Nat.mul_le_mul_right _ (by omega)
  generalize x * a = p at *; generalize q * m = r at *
  simp only [W] at *; omega
def half (m : Nat) : Nat := (m + 1) / 2
def mred (m a b : Nat) : Nat := a * b * half m ^ 256 % m
theorem half_two {m : Nat} (hm : m % 2 = 1) (h1 : 1 < m) : half m * 2 % m = 1 := by
  have : half m * 2 = 1 + m * 1 := by unfold half; omega
  rw [this, Nat.add_mul_mod_self_left, Nat.mod_eq_of_lt h1]
theorem half_R {m : Nat} (hm : m % 2 = 1) (h1 : 1 < m) : R * half m ^ 256 % m = 1 := by
  rw [show R = 2 ^ 256 by decide, ← Nat.mul_pow, Nat.pow_mod, Nat.mul_comm 2, half_two hm h1, Nat.one_pow, Nat.mod_eq_of_lt h1]
theorem mul_R_cancel {m x y : Nat} (hm : m % 2 = 1) (h1 : 1 < m) (h : x * R % m = y % m) : x % m = y * half m ^ 256 % m := by
  have e : x * R * half m ^ 256 % m = x % m := by
    rw [Nat.mul_assoc, Nat.mul_mod, half_R hm h1, Nat.mul_one, Nat.mod_mod]
  rw [← e, Nat.mul_mod, h, ← Nat.mul_mod]
theorem mred_of {m a b r : Nat} (hm : m % 2 = 1) (h1 : 1 < m) (hr : r < m) (h : r * R % m = a * b % m) : r = mred m a b := by
  have := mul_R_cancel hm h1 h
  rwa [Nat.mod_eq_of_lt hr] at this
theorem redc_end {m a b T Q : Nat} (hm : m % 2 = 1) (h1 : 1 < m) (ha : a < R) (hb : b < R) (hab : a < m ∨ b < m) (hQ : Q < R) (h : T * R = a * b + m * Q) :
    T < 2 * m ∧ T % m = mred m a b := by
  have hlt : a * b < m * R := by
    rcases hab with g | g
    · exact Nat.mul_lt_mul_of_lt_of_le g (Nat.le_of_lt hb) (by omega)
    · rw [Nat.mul_comm]; exact Nat.mul_lt_mul_of_lt_of_le g (Nat.le_of_lt ha) (by omega)
  have hmq : m * Q < m * R := Nat.mul_lt_mul_of_pos_left hQ (by omega)
  refine ⟨?_, ?_⟩
  · have : T * R < (2 * m) * R := by rw [h, Nat.mul_assoc, Nat.two_mul]; omega
    exact Nat.lt_of_mul_lt_mul_right this
  · refine mred_of hm h1 (Nat.mod_lt _ (by omega)) ?_
    rw [Nat.mod_mul_mod, h, Nat.add_mul_mod_self_left]
section
variable {m : Nat} (hm : m % 2 = 1) (h1 : 1 < m)
include hm h1
theorem mred_two (a : Nat) : mred m a (R * R % m) = a * R % m := by
  refine (mred_of hm h1 (Nat.mod_lt _ (by omega)) ?_).symm
  rw [Nat.mod_mul_mod, Nat.mul_mod_mod, Nat.mul_assoc]
theorem mred_one (a : Nat) : mred m (a * R % m) 1 = a % m := by
  refine (mred_of hm h1 (Nat.mod_lt _ (by omega)) ?_).symm
  rw [Nat.mod_mul_mod, Nat.mul_one, Nat.mod_mod]
theorem mred_mul (a b : Nat) : mred m (a * R % m) (b % m) = a * b % m := by
  refine (mred_of hm h1 (Nat.mod_lt _ (by omega)) ?_).symm
  rw [Nat.mod_mul_mod, Nat.mod_mul_mod, Nat.mul_mod_mod, Nat.mul_assoc, Nat.mul_assoc, Nat.mul_comm b]
end
theorem newton_int {a x y K w e j v : Int} (he : a * x - 1 = K * e) (hj : y = x * (2 - a * x) + w * j) (hw : w = K * K * v) :
    a * y - 1 = K * K * (-(e * e) + a * v * j) := by
  have hax : a * x = 1 + K * e := by grind
  have : a * y - 1 = (a * x) * (2 - (a * x)) - 1 + a * (w * j) := by grind
  rw [this, hax, hw]
  grind
theorem newton_y {x z y w g1 g2 g3 ax r : Int} (t1 : r + w * g1 = ax) (t2 : z + w * g2 = 2 + w - r) (t3 : y + w * g3 = x * z) :
    y = x * (2 - ax) + w * (x * (1 + g1 - g2) - g3) := by
  have z1 : z = 2 - ax + w * (1 + g1 - g2) := by grind
  rw [z1] at t3
  grind
theorem mod_dvd {a k : Nat} : (a % k = 1 % k) ↔ (k : Int) ∣ (a : Int) - 1 := by
  constructor
  · intro h
    have h' : ((a % k : Nat) : Int) = ((1 % k : Nat) : Int) := by rw [h]
    rw [Int.natCast_emod, Int.natCast_emod] at h'
    exact Int.dvd_of_emod_eq_zero (Int.emod_eq_emod_iff_emod_sub_eq_zero.1 h')
  · intro h
    have h' := Int.emod_eq_emod_iff_emod_sub_eq_zero.2 (Int.emod_eq_zero_of_dvd h)
    refine Int.natCast_inj.1 ?_
    rw [Int.natCast_emod, Int.natCast_emod]; exact h'
theorem newton {a K x w : Nat} (hw : 0 < w) (hk : K * K ∣ w) (h : a * x % K = 1 % K) :
    a * (x * ((2 + w - a * x % w) % w) % w) % (K * K) = 1 % (K * K) := by
  have he := mod_dvd.1 h
  obtain ⟨e, he⟩ := he
  obtain ⟨v, hv⟩ := hk
  have hlt : a * x % w < w := Nat.mod_lt _ hw
  have d1 := Nat.mod_add_div (a * x) w
  have d2 := Nat.mod_add_div (2 + w - a * x % w) w
  have d3 := Nat.mod_add_div (x * ((2 + w - a * x % w) % w)) w
  generalize a * x / w = g1 at *
  generalize (2 + w - a * x % w) / w = g2 at *
  generalize (2 + w - a * x % w) % w = z at *
  generalize x * z / w = g3 at *
  generalize x * z % w = y at *
  generalize a * x % w = r at *
  have t2' : z + w * g2 + r = 2 + w := by omega
  have hy := newton_y (x := x) (z := z) (y := y) (w := w) (g1 := g1) (g2 := g2) (g3 := g3) (ax := a * x) (r := r)
    (by exact_mod_cast d1) (by have : ((z + w * g2 + r : Nat) : Int) = ((2 + w : Nat) : Int) := by rw [t2']
                               push_cast at this; omega) (by exact_mod_cast d3)
  have := newton_int (a := a) (x := x) (y := y) (K := K) (w := w) (e := e) (v := v) (by push_cast at he; exact he) hy (by exact_mod_cast hv)
  refine mod_dvd.2 ⟨-(e * e) + ↑a * ↑v * (↑x * (1 + ↑g1 - ↑g2) - ↑g3), ?_⟩
  push_cast
  exact this
def inv64 (a : Nat) : Nat → Nat
  | 0 => 1
  | i + 1 => inv64 a i * ((2 + W - a * inv64 a i % W) % W) % W
theorem inv64_six {a : Nat} (ha : a % 2 = 1) : a * inv64 a 6 % W = 1 := by
  have s0 : a * inv64 a 0 % 2 = 1 % 2 := by simp only [inv64]; omega
  have s1 := newton (K := 2) (w := W) (by decide) (by decide) s0
  have s2 := newton (K := 4) (w := W) (by decide) (by decide) (show a * inv64 a 1 % 4 = 1 % 4 from s1)
  have s3 := newton (K := 16) (w := W) (by decide) (by decide) (show a * inv64 a 2 % 16 = 1 % 16 from s2)
  have s4 := newton (K := 256) (w := W) (by decide) (by decide) (show a * inv64 a 3 % 256 = 1 % 256 from s3)
  have s5 := newton (K := 65536) (w := W) (by decide) (by decide) (show a * inv64 a 4 % 65536 = 1 % 65536 from s4)
  have s6 := newton (K := 4294967296) (w := W) (by decide) (by decide) (show a * inv64 a 5 % 4294967296 = 1 % 4294967296 from s5)
  exact s6
def neg64 (a : Nat) : Nat := W - inv64 a 6
theorem inv64_lt (a i : Nat) : inv64 a i < W := by
  cases i with
  | zero => simp only [inv64]; decide
  | succ i => simp only [inv64]; exact Nat.mod_lt _ (by decide)
theorem inv64_pos {a : Nat} (ha : a % 2 = 1) : 0 < inv64 a 6 := by
  have h := inv64_six ha
  apply Nat.pos_of_ne_zero
  intro h0
  rw [h0, Nat.mul_zero, Nat.zero_mod] at h
  exact absurd h (by decide)
theorem neg_mod {a x w : Nat} (hx : x ≤ w) (h : a * x % w = 1 % w) : ((w - x) * a + 1) % w = 0 := by
  have h1 : (w - x) * a + a * x = w * a := by rw [Nat.mul_comm a x, ← Nat.add_mul, Nat.sub_add_cancel hx]
  have h2 : ((w - x) * a + 1) % w = ((w - x) * a + a * x) % w := by rw [Nat.add_mod, ← h, ← Nat.add_mod]
  rw [h2, h1, Nat.mul_mod_right]
theorem neg64_eq {a : Nat} (ha : a % 2 = 1) : (neg64 a * a + 1) % W = 0 :=
  neg_mod (Nat.le_of_lt (inv64_lt a 6)) (inv64_six ha)
end TollMont
end
section
namespace TollMont
open TollNt
def halve (m x : Nat) : Nat := if x % 2 = 0 then x / 2 else (x + m) / 2
def subm (m x y : Nat) : Nat := (x % m + m - y % m) % m
structure InvAt (m a u v x y : Nat) : Prop where
  vodd : v % 2 = 1
  vle : v ≤ m
  ule : u < m
  xlt : x < m
  ylt : y < m
  xu : x * a % m = u % m
  yv : y * a % m = v % m
  gcd : Nat.gcd u v = Nat.gcd a m
theorem InvAt.start {m a : Nat} (hm : m % 2 = 1) (h1 : 1 < m) : InvAt m a (a % m) m 1 0 :=
  ⟨hm, Nat.le_refl _, Nat.mod_lt _ (by omega), h1, by omega, by simp, by simp, by rw [Nat.gcd_comm a m, Nat.gcd_rec m a]⟩
theorem two_cancel {m a b : Nat} (hm : m % 2 = 1) (h : 2 * a % m = 2 * b % m) : a % m = b % m := by
  have key : ∀ a b, b ≤ a → 2 * a % m = 2 * b % m → a % m = b % m := by
    intro a b hle h
    have h1 : m ∣ 2 * a - 2 * b := dvd_sub_of_mod h (by omega)
    rw [← Nat.mul_sub] at h1
    have hc : Nat.Coprime m 2 := by
      unfold Nat.Coprime; rw [Nat.gcd_comm, Nat.gcd_rec, hm]; rfl
    obtain ⟨c, hc⟩ := Nat.Coprime.dvd_of_dvd_mul_left hc h1
    have : a = b + m * c := by omega
    rw [this, Nat.add_mul_mod_self_left]
  rcases Nat.le_total b a with hle | hle
  · exact key a b hle h
  · exact (key b a hle h.symm).symm
theorem halve_lt {m x : Nat} (hx : x < m) : halve m x < m := by unfold halve; split <;> omega
theorem halve_two {m x : Nat} (hm : m % 2 = 1) : 2 * halve m x % m = x % m := by
  unfold halve; split
  · rename_i h; rw [show 2 * (x / 2) = x by omega]
  · rename_i h; rw [show 2 * ((x + m) / 2) = x + m by omega, Nat.add_mod_right]
theorem gcd_half {u v : Nat} (hu : u % 2 = 0) (hv : v % 2 = 1) : Nat.gcd (u / 2) v = Nat.gcd u v := by
  have hu2 : u = 2 * (u / 2) := by omega
  have hc : Nat.Coprime v 2 := by
    unfold Nat.Coprime; rw [Nat.gcd_comm, Nat.gcd_rec, hv]; rfl
  conv => rhs; rw [hu2, Nat.mul_comm]
  exact (Nat.Coprime.gcd_mul_right_cancel (u / 2) hc.symm).symm
theorem InvAt.halved {m a u v x y : Nat} (hm : m % 2 = 1) (h : InvAt m a u v x y) (hu : u % 2 = 0) : InvAt m a (u / 2) v (halve m x) y := by
  refine ⟨h.vodd, h.vle, by have := h.ule; omega, halve_lt h.xlt, h.ylt, ?_, h.yv, by rw [gcd_half hu h.vodd, h.gcd]⟩
  refine two_cancel hm ?_
  rw [show 2 * (u / 2) = u by omega, ← h.xu, ← Nat.mul_assoc, Nat.mul_mod, halve_two hm, ← Nat.mul_mod]
theorem subm_lt {m x y : Nat} (hm : 1 < m) : subm m x y < m := Nat.mod_lt _ (by omega)
theorem subm_eq {m x y : Nat} (hm : 0 < m) : (subm m x y + y) % m = x % m := by
  unfold subm
  have hy := Nat.mod_lt y hm
  rw [Nat.mod_add_mod, ← Nat.add_mod_mod (x % m + m - y % m), Nat.sub_add_cancel (by omega), Nat.add_mod_right, Nat.mod_mod]
theorem add_cancel_mod {m a b c : Nat} (h : (a + c) % m = (b + c) % m) : a % m = b % m := by
  have key : ∀ a b, b ≤ a → (a + c) % m = (b + c) % m → a % m = b % m := by
    intro a b hle h
    obtain ⟨k, hk⟩ := dvd_sub_of_mod h (by omega)
    have : a = b + m * k := by omega
    rw [this, Nat.add_mul_mod_self_left]
  rcases Nat.le_total b a with hle | hle
  · exact key a b hle h
  · exact (key b a hle h.symm).symm
theorem subm_mul {m a u v x y : Nat} (hm : 1 < m) (hvu : v ≤ u) (hx : x * a % m = u % m) (hy : y * a % m = v % m) : subm m x y * a % m = (u - v) % m := by
  refine add_cancel_mod (c := v) ?_
  rw [Nat.sub_add_cancel hvu, ← hx]
  have e : (subm m x y + y) * a % m = x * a % m := by rw [Nat.mul_mod, subm_eq (by omega), ← Nat.mul_mod]
  rw [← e, Nat.add_mul, Nat.add_mod, ← hy, ← Nat.add_mod]
theorem gcd_sub {u v : Nat} (h : v ≤ u) : Nat.gcd (u - v) v = Nat.gcd u v := by
  conv => rhs; rw [show u = (u - v) + v by omega]
  exact (Nat.gcd_add_self_left v (u - v)).symm
theorem InvAt.less {m a u v x y : Nat} (hm : 1 < m) (h : InvAt m a u v x y) (hvu : v ≤ u) : InvAt m a (u - v) v (subm m x y) y :=
  ⟨h.vodd, h.vle, by have := h.ule; omega, subm_lt hm, h.ylt, subm_mul hm hvu h.xu h.yv, h.yv, by rw [gcd_sub hvu, h.gcd]⟩
theorem InvAt.swap {m a u v x y : Nat} (hm : 1 < m) (h : InvAt m a u v x y) (hu : u % 2 = 1) (huv : u < v) : InvAt m a (v - u) u (subm m y x) x :=
  ⟨hu, Nat.le_of_lt h.ule, by have := h.vle; omega, subm_lt hm, h.xlt, subm_mul hm (Nat.le_of_lt huv) h.yv h.xu, h.xu, by rw [gcd_sub (Nat.le_of_lt huv), Nat.gcd_comm, h.gcd]⟩
noncomputable def minv (m a : Nat) : Nat := open Classical in if h : ∃ y, y < m ∧ y * a % m = 1 then Classical.choose h else 0
theorem inv_unique {m a y z : Nat} (hy : y < m) (hz : z < m) (h1 : y * a % m = 1) (h2 : z * a % m = 1) : y = z := by
  have e1 : y * (z * a) % m = y % m := by rw [Nat.mul_mod, h2, Nat.mul_one, Nat.mod_mod]
  have e2 : z * (y * a) % m = z % m := by rw [Nat.mul_mod, h1, Nat.mul_one, Nat.mod_mod]
  rw [Nat.mul_left_comm, e2, Nat.mod_eq_of_lt hz, Nat.mod_eq_of_lt hy] at e1
  exact e1.symm
theorem minv_eq {m a y : Nat} (hy : y < m) (h : y * a % m = 1) : minv m a = y := by
  have hex : ∃ y, y < m ∧ y * a % m = 1 := ⟨y, hy, h⟩
  unfold minv
  rw [dif_pos hex]
  have := Classical.choose_spec hex
  exact inv_unique this.1 hy this.2 h
theorem InvAt.done {m a v x y : Nat} (h1 : 1 < m) (h : InvAt m a 0 v x y) : (v = 1 ↔ Nat.gcd a m = 1) ∧ (v = 1 → y = minv m a ∧ y * a % m = 1) := by
  have hg := h.gcd
  rw [Nat.gcd_zero_left] at hg
  refine ⟨by rw [hg], ?_⟩
  rintro rfl
  have := h.yv
  rw [Nat.mod_eq_of_lt h1] at this
  exact ⟨(minv_eq h.ylt this).symm, this⟩
end TollMont
end
section
namespace TollMont
open TollNt
theorem top_step (n i : Nat) : n / 2 ^ i = 2 * (n / 2 ^ (i + 1)) + n / 2 ^ i % 2 := by
  rw [Nat.pow_succ, ← Nat.div_div_eq_div_mul]; omega
theorem rest_step (n m i : Nat) : ((n / 2 ^ (i + 1) % m + n / 2 ^ (i + 1) % m) % m + n / 2 ^ i % 2) % m = n / 2 ^ i % m := by
  simp only [Nat.add_mod_mod, Nat.mod_add_mod]
  congr 1
  have := top_step n i
  omega
theorem mul_step (a n m i : Nat) : ((a * (n / 2 ^ (i + 1)) % m + a * (n / 2 ^ (i + 1)) % m) % m + a * (n / 2 ^ i % 2) % m) % m = a * (n / 2 ^ i) % m := by
  simp only [Nat.add_mod_mod, Nat.mod_add_mod, ← Nat.mul_add]
  congr 2
  have := top_step n i
  omega
theorem pow_step (a n m i : Nat) : (a ^ (n / 2 ^ (i + 1)) % m * (a ^ (n / 2 ^ (i + 1)) % m) % m) * a ^ (n / 2 ^ i % 2) % m = a ^ (n / 2 ^ i) % m := by
  rw [← Nat.mul_mod, Nat.mod_mul_mod, ← Nat.pow_add, ← Nat.pow_add]
  congr 2
  have := top_step n i
  omega
theorem top_all {n : Nat} (h : n < R) : n / 2 ^ 256 = 0 := Nat.div_eq_of_lt h
end TollMont
end
section
namespace Go.Proofs.YtafbhakmkbehiaaDoor
open Go.RowKit Go.Toll TollMont
def N (n : Nat) : Value := .agg #[.int .u64 (lim n 0 : Nat), .int .u64 (lim n 1 : Nat), .int .u64 (lim n 2 : Nat), .int .u64 (lim n 3 : Nat)]
def sb (x y b : Nat) : Nat := (x + W - y - b) % W
def bo (x y b : Nat) : Nat := if x < y + b then 1 else 0
theorem bo_le (x y b : Nat) : bo x y b ≤ 1 := by unfold bo; split <;> omega
theorem sub64_run (x y b : Nat) (hb : b ≤ 1) (w : World) : (callFunc 61 #[.int .u64 x, .int .u64 y, .int .u64 b]).run Tryd.prog w =
    .ok (.value (.tuple #[.int .u64 (sb x y b : Nat), .int .u64 (bo x y b : Nat)])) w := by
  rw [run_callFunc_extern Tryd.func61 (by kernel_rfl) (by kernel_rfl) (by kernel_rfl) (e := sub64Entry) (by kernel_rfl), run_sub64 x y b hb]
  rfl
theorem sub_ok (n m : Nat) (hn : n < R) (hm : m < R) (w : World) :
    Calls Tryd.prog 48 #[N n, N m] w fun e w' => e = .returned (.tuple #[N (dif n m), .int .u64 (if n < m then 1 else 0 : Nat)]) ∧ Gw w w' := by
  obtain ⟨e0, e1, e2, e3, e4⟩ := sub_parts n m hn hm (sb (lim n 0) (lim m 0) 0) (bo (lim n 0) (lim m 0) 0) (sb (lim n 1) (lim m 1) (bo (lim n 0) (lim m 0) 0)) (bo (lim n 1) (lim m 1) (bo (lim n 0) (lim m 0) 0))
    (sb (lim n 2) (lim m 2) (bo (lim n 1) (lim m 1) (bo (lim n 0) (lim m 0) 0))) (bo (lim n 2) (lim m 2) (bo (lim n 1) (lim m 1) (bo (lim n 0) (lim m 0) 0)))
    (sb (lim n 3) (lim m 3) (bo (lim n 2) (lim m 2) (bo (lim n 1) (lim m 1) (bo (lim n 0) (lim m 0) 0)))) (bo (lim n 3) (lim m 3) (bo (lim n 2) (lim m 2) (bo (lim n 1) (lim m 1) (bo (lim n 0) (lim m 0) 0)))) rfl rfl rfl rfl rfl rfl rfl rfl
  have h := sub_core (lim n 0) (lim n 1) (lim n 2) (lim n 3) (lim m 0) (lim m 1) (lim m 2) (lim m 3) _ _ _ _ _ _ _ _ w (fun w => sub64_run _ _ 0 (by omega) w) (fun w => sub64_run _ _ _ (bo_le _ _ _) w) (fun w => sub64_run _ _ _ (bo_le _ _ _) w) (fun w => sub64_run _ _ _ (bo_le _ _ _) w)
  rw [e4, e3, e2, e1, e0] at h
  exact h
def ac (x y c : Nat) : Nat := (x + y + c) % W
def co (x y c : Nat) : Nat := (x + y + c) / W
theorem add64_run (x y c : Nat) (hc : c ≤ 1) (w : World) : (callFunc 63 #[.int .u64 x, .int .u64 y, .int .u64 c]).run Tryd.prog w =
    .ok (.value (.tuple #[.int .u64 (ac x y c : Nat), .int .u64 (co x y c : Nat)])) w := by
  rw [run_callFunc_extern Tryd.func63 (by kernel_rfl) (by kernel_rfl) (by kernel_rfl) (e := add64Entry) (by kernel_rfl), run_add64 x y c (by omega) (by omega) (by omega) (by omega)]
  rfl
theorem co_le {x y c : Nat} (hx : x < W) (hy : y < W) (hc : c ≤ 1) : co x y c ≤ 1 := by unfold co; simp only [W] at *; omega
theorem add_ok (n m : Nat) (hn : n < R) (hm : m < R) (w : World) :
    Calls Tryd.prog 60 #[N n, N m] w fun e w' => e = .returned (.tuple #[N (n + m), .int .u64 ((n + m) / R : Nat)]) ∧ Gw w w' := by
  obtain ⟨e0, e1, e2, e3, e4⟩ := add_parts n m hn hm (ac (lim n 0) (lim m 0) 0) (co (lim n 0) (lim m 0) 0) (ac (lim n 1) (lim m 1) (co (lim n 0) (lim m 0) 0)) (co (lim n 1) (lim m 1) (co (lim n 0) (lim m 0) 0))
    (ac (lim n 2) (lim m 2) (co (lim n 1) (lim m 1) (co (lim n 0) (lim m 0) 0))) (co (lim n 2) (lim m 2) (co (lim n 1) (lim m 1) (co (lim n 0) (lim m 0) 0)))
    (ac (lim n 3) (lim m 3) (co (lim n 2) (lim m 2) (co (lim n 1) (lim m 1) (co (lim n 0) (lim m 0) 0)))) (co (lim n 3) (lim m 3) (co (lim n 2) (lim m 2) (co (lim n 1) (lim m 1) (co (lim n 0) (lim m 0) 0)))) rfl rfl rfl rfl rfl rfl rfl rfl
  have l0 := co_le (lim_lt n 0) (lim_lt m 0) (Nat.zero_le 1)
  have l1 := co_le (lim_lt n 1) (lim_lt m 1) l0
  have l2 := co_le (lim_lt n 2) (lim_lt m 2) l1
  have h := add_core (lim n 0) (lim n 1) (lim n 2) (lim n 3) (lim m 0) (lim m 1) (lim m 2) (lim m 3) _ _ _ _ _ _ _ _ w (fun w => add64_run _ _ 0 (by omega) w) (fun w => add64_run _ _ _ l0 w) (fun w => add64_run _ _ _ l1 w) (fun w => add64_run _ _ _ l2 w)
  rw [e4, e3, e2, e1, e0] at h
  exact h
def lims (n : Nat) : List Value := [.int .u64 (lim n 0 : Nat), .int .u64 (lim n 1 : Nat), .int .u64 (lim n 2 : Nat), .int .u64 (lim n 3 : Nat)]
def modc (m : Nat) : List Value := lims m ++ [.int .u64 (neg64 (lim m 0) : Nat)] ++ lims (R % m) ++ lims (R * R % m)
def At (w : World) (b m : Nat) : Prop := ∀ (j : Nat) (v : Value), (modc m)[j]? = some v → w.cell? ⟨b, 0 + j, none⟩ = some v
theorem At.gw {w w' : World} {b m : Nat} (h : At w b m) (g : Gw w w') : At w' b m := fun j v hj => g.cell (h j v hj)
theorem at_part {w : World} {b m k n : Nat} (h : At w b m) (hk : ∀ j v, (lims n)[j]? = some v → (modc m)[k + j]? = some v) : ∀ (j : Nat) (v : Value), (lims n)[j]? = some v → w.cell? ⟨b, k + j, none⟩ = some v := fun j v hj => by
  have := h (k + j) v (hk j v hj)
  rwa [Nat.zero_add] at this
theorem lims_cases {n j : Nat} {v : Value} {Q : Nat → Value → Prop} (h0 : Q 0 (.int .u64 (lim n 0 : Nat))) (h1 : Q 1 (.int .u64 (lim n 1 : Nat))) (h2 : Q 2 (.int .u64 (lim n 2 : Nat))) (h3 : Q 3 (.int .u64 (lim n 3 : Nat)))
    (h : (lims n)[j]? = some v) : Q j v := by
  match j, h with
  | 0, h => simp only [lims, List.getElem?_cons_zero, Option.some.injEq] at h; exact h ▸ h0
  | 1, h => simp only [lims, List.getElem?_cons_zero, List.getElem?_cons_succ, Option.some.injEq] at h; exact h ▸ h1
  | 2, h => simp only [lims, List.getElem?_cons_zero, List.getElem?_cons_succ, Option.some.injEq] at h; exact h ▸ h2
  | 3, h => simp only [lims, List.getElem?_cons_zero, List.getElem?_cons_succ, Option.some.injEq] at h; exact h ▸ h3
  | j + 4, h => simp [lims] at h
theorem At.m {w : World} {b m : Nat} (h : At w b m) : ∀ (j : Nat) (v : Value), (lims m)[j]? = some v → w.cell? ⟨b, 0 + j, none⟩ = some v :=
  at_part h fun _j _v hj => lims_cases (Q := fun j v => (modc m)[0 + j]? = some v) rfl rfl rfl rfl hj
theorem At.one {w : World} {b m : Nat} (h : At w b m) : ∀ (j : Nat) (v : Value), (lims (R % m))[j]? = some v → w.cell? ⟨b, 5 + j, none⟩ = some v :=
  at_part h fun _j _v hj => lims_cases (Q := fun j v => (modc m)[5 + j]? = some v) rfl rfl rfl rfl hj
theorem At.two {w : World} {b m : Nat} (h : At w b m) : ∀ (j : Nat) (v : Value), (lims (R * R % m))[j]? = some v → w.cell? ⟨b, 9 + j, none⟩ = some v :=
  at_part h fun _j _v hj => lims_cases (Q := fun j v => (modc m)[9 + j]? = some v) rfl rfl rfl rfl hj
theorem At.neg {w : World} {b m : Nat} (h : At w b m) : w.cell? ⟨b, 4, none⟩ = some (.int .u64 (neg64 (lim m 0) : Nat)) := h 4 _ rfl
def ptr (b : Nat) : Value := .pointer (some ⟨b, 0, none⟩)
theorem shrink_ok (b m n o : Nat) (hm : m < R) (hn : n < R) (ho : o = 0 ∨ o = 1) (w : World) (h : ∀ (j : Nat) (v : Value), (lims m)[j]? = some v → w.cell? ⟨b, 0 + j, none⟩ = some v) :
    Calls Tryd.prog 59 #[ptr b, N n, .int .u64 (o : Nat)] w fun e w' => e = .returned (N (if o = 0 ∧ n < m then n else dif n m)) ∧ Gw w w' := by
  have hs := fun w' => sub_ok n m hn hm w'
  rcases ho with rfl | rfl
  · by_cases hlt : n < m
    · rw [if_pos ⟨rfl, hlt⟩]
      exact shrink_01 b _ _ _ _ _ _ _ _ _ _ _ _ w h (fun w' _ => by have := hs w'; rw [if_pos hlt] at this; exact this)
    · rw [if_neg (fun c => hlt c.2)]
      exact shrink_00 b _ _ _ _ _ _ _ _ _ _ _ _ w h (fun w' _ => by have := hs w'; rw [if_neg hlt] at this; exact this)
  · rw [if_neg (fun c => by cases c.1)]
    by_cases hlt : n < m
    · exact shrink_11 b _ _ _ _ _ _ _ _ _ _ _ _ w h (fun w' _ => by have := hs w'; rw [if_pos hlt] at this; exact this)
    · exact shrink_10 b _ _ _ _ _ _ _ _ _ _ _ _ w h (fun w' _ => by have := hs w'; rw [if_neg hlt] at this; exact this)
theorem less_ok (n m : Nat) (hn : n < R) (hm : m < R) (w : World) : Calls Tryd.prog 42 #[N n, N m] w fun e w' => e = .returned (.bool (decide (n < m))) ∧ Gw w w' := by
  by_cases hlt : n < m
  · rw [decide_eq_true hlt]
    exact less_1 _ _ _ _ _ _ _ _ _ _ _ _ w (fun w' _ => by have := sub_ok n m hn hm w'; rw [if_pos hlt] at this; exact this)
  · rw [decide_eq_false hlt]
    exact less_0 _ _ _ _ _ _ _ _ _ _ _ _ w (fun w' _ => by have := sub_ok n m hn hm w'; rw [if_neg hlt] at this; exact this)
end Go.Proofs.YtafbhakmkbehiaaDoor
end
section
namespace TollMont
def macL (x y t c : Nat) : Nat := (x * y + t + c) % W
def macH (x y t c : Nat) : Nat := (x * y + t + c) / W
theorem macL_lt (x y t c : Nat) : macL x y t c < W := Nat.mod_lt _ (by decide)
theorem macH_lt {x y t c : Nat} (hx : x < W) (hy : y < W) (ht : t < W) (hc : c < W) : macH x y t c < W := by
  have hp : x * y ≤ (W - 1) * (W - 1) := Nat.mul_le_mul (by omega) (by omega)
  unfold macH
  generalize x * y = p at *
  simp only [W] at *
  omega
structure RedAt (m a c k t0 t1 t2 t3 t4 : Nat) : Prop where
  b0 : t0 < W
  b1 : t1 < W
  b2 : t2 < W
  b3 : t3 < W
  b4 : t4 < W
  lt : v5 t0 t1 t2 t3 t4 < a + m
  eq : ∃ Q, Q < W ^ k ∧ v5 t0 t1 t2 t3 t4 * W ^ k = a * (c % W ^ k) + m * Q
theorem RedAt.start {m a c : Nat} (hm : 0 < m) : RedAt m a c 0 0 0 0 0 0 :=
  ⟨by decide, by decide, by decide, by decide, by decide, by simp only [v5]; omega, 0, by simp, by simp [v5, Nat.mod_one]⟩
theorem mod_next (c k : Nat) : c % W ^ (k + 1) = c % W ^ k + W ^ k * lim c k := by
  unfold lim; rw [Nat.pow_succ, Nat.mod_mul]
theorem RedAt.step {m a c k t0 t1 t2 t3 t4 ng x u0 u1 u2 u3 u4 u5 c1 c2 c3 c4 q d1 d2 d3 d4 v0 v1 v2 v3 e v4' : Nat} (ha : a < R) (hmR : m < R) (hneg : (ng * lim m 0 + 1) % W = 0)
    (h : RedAt m a c k t0 t1 t2 t3 t4) (hx : x = lim c k)
    (e0 : u0 = macL x (lim a 0) t0 0) (f0 : c1 = macH x (lim a 0) t0 0) (e1 : u1 = macL x (lim a 1) t1 c1) (f1 : c2 = macH x (lim a 1) t1 c1)
    (e2 : u2 = macL x (lim a 2) t2 c2) (f2 : c3 = macH x (lim a 2) t2 c2) (e3 : u3 = macL x (lim a 3) t3 c3) (f3 : c4 = macH x (lim a 3) t3 c3)
    (e4 : u4 = (t4 + c4) % W) (f4 : u5 = (t4 + c4) / W) (hq : q = u0 * ng % W)
    (g0 : d1 = macH q (lim m 0) u0 0) (g1 : v0 = macL q (lim m 1) u1 d1) (i1 : d2 = macH q (lim m 1) u1 d1) (g2 : v1 = macL q (lim m 2) u2 d2) (i2 : d3 = macH q (lim m 2) u2 d2)
    (g3 : v2 = macL q (lim m 3) u3 d3) (i3 : d4 = macH q (lim m 3) u3 d3) (g4 : v3 = (u4 + d4) % W) (i4 : e = (u4 + d4) / W) (hv : v4' = (u5 + e) % W) :
    RedAt m a c (k + 1) v0 v1 v2 v3 v4' := by
  have hxW : x < W := by rw [hx]; exact lim_lt _ _
  have hqW : q < W := by rw [hq]; exact Nat.mod_lt _ (by decide)
  have l1 : c1 < W := by rw [f0]; exact macH_lt hxW (lim_lt _ _) h.b0 (by decide)
  have l2 : c2 < W := by rw [f1]; exact macH_lt hxW (lim_lt _ _) h.b1 l1
  have l3 : c3 < W := by rw [f2]; exact macH_lt hxW (lim_lt _ _) h.b2 l2
  have l4 : c4 < W := by rw [f3]; exact macH_lt hxW (lim_lt _ _) h.b3 l3
  have r1 : d1 < W := by rw [g0]; exact macH_lt hqW (lim_lt _ _) (by rw [e0]; exact macL_lt _ _ _ _) (by decide)
  have r2 : d2 < W := by rw [i1]; exact macH_lt hqW (lim_lt _ _) (by rw [e1]; exact macL_lt _ _ _ _) r1
  have r3 : d3 < W := by rw [i2]; exact macH_lt hqW (lim_lt _ _) (by rw [e2]; exact macL_lt _ _ _ _) r2
  have r4 : d4 < W := by rw [i3]; exact macH_lt hqW (lim_lt _ _) (by rw [e3]; exact macL_lt _ _ _ _) r3
  have hu4 : u4 < W := by rw [e4]; exact Nat.mod_lt _ (by decide)
  have hu5 : u5 ≤ 1 := by have := h.b4; rw [f4]; simp only [W] at *; omega
  have he : e ≤ 1 := by rw [i4]; simp only [W] at *; omega
  have hv4 : v4' = u5 + e := by rw [hv]; exact Nat.mod_eq_of_lt (by simp only [W]; omega)
  have A := round_first (x := x) (a0 := lim a 0) (a1 := lim a 1) (a2 := lim a 2) (a3 := lim a 3) (t0 := t0) (t1 := t1) (t2 := t2) (t3 := t3) (t4 := t4) e0 f0 e1 f1 e2 f2 e3 f3 e4 f4
  have B := round_second (q := q) (m0 := lim m 0) (m1 := lim m 1) (m2 := lim m 2) (m3 := lim m 3) (u0 := u0) (u1 := u1) (u2 := u2) (u3 := u3) (u4 := u4) (u5 := u5) (by rw [hq]; exact q_zero hneg) g0 g1 i1 g2 i2 g3 i3 g4 i4 hv4
  rw [← A] at B
  have hA : v4 (lim a 0) (lim a 1) (lim a 2) (lim a 3) = a := (lim_sum4 ha).symm
  have hM : v4 (lim m 0) (lim m 1) (lim m 2) (lim m 3) = m := (lim_sum4 hmR).symm
  rw [hA, hM] at B
  obtain ⟨Q, hQ, hE⟩ := h.eq
  refine ⟨by rw [g1]; exact macL_lt _ _ _ _, by rw [g2]; exact macL_lt _ _ _ _, by rw [g3]; exact macL_lt _ _ _ _, by rw [g4]; exact Nat.mod_lt _ (by decide), by rw [hv]; exact Nat.mod_lt _ (by decide), round_lt hxW hqW h.lt B, Q + W ^ k * q, ?_, ?_⟩
  · have : W ^ k * q ≤ W ^ k * (W - 1) := Nat.mul_le_mul_left _ (by omega)
    have h2 : W ^ (k + 1) = W ^ k + W ^ k * (W - 1) := by
      rw [Nat.pow_succ]
      have : W ^ k * W = W ^ k * (1 + (W - 1)) := by congr 1
      rw [this, Nat.mul_add, Nat.mul_one]
    omega
  · rw [mod_next, ← hx, Nat.pow_succ, Nat.mul_comm (W ^ k) W, ← Nat.mul_assoc, Nat.mul_comm _ W, ← B]
    have : (v5 t0 t1 t2 t3 t4 + x * a + q * m) * W ^ k = v5 t0 t1 t2 t3 t4 * W ^ k + x * a * W ^ k + q * m * W ^ k := by rw [Nat.add_mul, Nat.add_mul]
    rw [this, hE]
    grind
end TollMont
end
section
namespace Go.Proofs.YtafbhakmkbehiaaDoor
open Go.RowKit Go.Toll
set_option maxHeartbeats 4000000
set_option maxRecDepth 100000
theorem reduce_core (b : Nat) (m0 m1 m2 m3 a0 a1 a2 a3 c0 c1 c2 c3 z0 z1 z2 z3 : Nat) (ng : Nat) (w : World) (hm : ∀ (j : Nat) (v : Value), [.int .u64 (m0 : Nat), .int .u64 (m1 : Nat), .int .u64 (m2 : Nat), .int .u64 (m3 : Nat)][j]? = some v → w.cell? ⟨b, 0 + j, none⟩ = some v) (hn : w.cell? ⟨b, 4, none⟩ = some (.int .u64 (ng : Nat)))
  (mh ml ad ca wa : Nat → Nat → Nat) (A1 K1 H1 : Nat → Nat → Nat → Nat) (MA K2 MC : Nat → Nat → Nat → Nat → Nat) (qf : Nat → Nat) (Wd : Nat → Prop) (R : Nat → Nat → Nat → Nat → Nat → Nat → Prop)
  (hmul : ∀ x y : Nat, Wd x → Wd y → ∀ w, Calls Tryd.prog 62 #[.int .u64 x, .int .u64 y] w fun e w' => e = .returned (.tuple #[.int .u64 (mh x y : Nat), .int .u64 (ml x y : Nat)]) ∧ Gw w w')
  (e1 : ∀ (x y t : Nat) (w : World), (callFunc 63 #[.int .u64 (ml x y : Nat), .int .u64 t, .int .u64 0]).run Tryd.prog w = .ok (.value (.tuple #[.int .u64 (A1 x y t : Nat), .int .u64 (K1 x y t : Nat)])) w)
  (e2 : ∀ (x y t c : Nat) (w : World), (callFunc 63 #[.int .u64 (A1 x y t : Nat), .int .u64 c, .int .u64 0]).run Tryd.prog w = .ok (.value (.tuple #[.int .u64 (MA x y t c : Nat), .int .u64 (K2 x y t c : Nat)])) w)
  (e2z : ∀ (x y t : Nat) (w : World), (callFunc 63 #[.int .u64 (A1 x y t : Nat), .int .u64 0, .int .u64 0]).run Tryd.prog w = .ok (.value (.tuple #[.int .u64 (MA x y t 0 : Nat), .int .u64 (K2 x y t 0 : Nat)])) w)
  (e3 : ∀ (t c : Nat) (w : World), (callFunc 63 #[.int .u64 t, .int .u64 c, .int .u64 0]).run Tryd.prog w = .ok (.value (.tuple #[.int .u64 (ad t c : Nat), .int .u64 (ca t c : Nat)])) w)
  (g1 : ∀ x y t : Nat, IntKind.u64.wrap ((mh x y : Nat) + (K1 x y t : Nat)) = (H1 x y t : Nat))
  (g2 : ∀ x y t c : Nat, IntKind.u64.wrap ((H1 x y t : Nat) + (K2 x y t c : Nat)) = (MC x y t c : Nat))
  (g3 : ∀ a c d e : Nat, IntKind.u64.wrap ((ca a c : Nat) + (ca d e : Nat)) = (wa (ca a c) (ca d e) : Nat))
  (g4 : ∀ t : Nat, IntKind.u64.wrap ((t : Nat) * (ng : Nat)) = (qf t : Nat))
  (wq : ∀ t, Wd (qf t)) (wa0 : Wd a0) (wa1 : Wd a1) (wa2 : Wd a2) (wa3 : Wd a3) (wc0 : Wd c0) (wc1 : Wd c1) (wc2 : Wd c2) (wc3 : Wd c3) (wm0 : Wd m0) (wm1 : Wd m1) (wm2 : Wd m2) (wm3 : Wd m3)
  (hR0 : R 0 0 0 0 0 0)
  (hR : ∀ k x t0 t1 t2 t3 t4, k < 4 → [c0, c1, c2, c3][k]? = some x → R k t0 t1 t2 t3 t4 → R (k + 1) (MA (qf (MA x a0 t0 0)) m1 (MA x a1 t1 (MC x a0 t0 0)) (H1 (qf (MA x a0 t0 0)) m0 (MA x a0 t0 0))) (MA (qf (MA x a0 t0 0)) m2 (MA x a2 t2 (MC x a1 t1 (MC x a0 t0 0))) (MC (qf (MA x a0 t0 0)) m1 (MA x a1 t1 (MC x a0 t0 0)) (H1 (qf (MA x a0 t0 0)) m0 (MA x a0 t0 0)))) (MA (qf (MA x a0 t0 0)) m3 (MA x a3 t3 (MC x a2 t2 (MC x a1 t1 (MC x a0 t0 0)))) (MC (qf (MA x a0 t0 0)) m2 (MA x a2 t2 (MC x a1 t1 (MC x a0 t0 0))) (MC (qf (MA x a0 t0 0)) m1 (MA x a1 t1 (MC x a0 t0 0)) (H1 (qf (MA x a0 t0 0)) m0 (MA x a0 t0 0))))) (ad (ad t4 (MC x a3 t3 (MC x a2 t2 (MC x a1 t1 (MC x a0 t0 0))))) (MC (qf (MA x a0 t0 0)) m3 (MA x a3 t3 (MC x a2 t2 (MC x a1 t1 (MC x a0 t0 0)))) (MC (qf (MA x a0 t0 0)) m2 (MA x a2 t2 (MC x a1 t1 (MC x a0 t0 0))) (MC (qf (MA x a0 t0 0)) m1 (MA x a1 t1 (MC x a0 t0 0)) (H1 (qf (MA x a0 t0 0)) m0 (MA x a0 t0 0)))))) (wa (ca t4 (MC x a3 t3 (MC x a2 t2 (MC x a1 t1 (MC x a0 t0 0))))) (ca (ad t4 (MC x a3 t3 (MC x a2 t2 (MC x a1 t1 (MC x a0 t0 0))))) (MC (qf (MA x a0 t0 0)) m3 (MA x a3 t3 (MC x a2 t2 (MC x a1 t1 (MC x a0 t0 0)))) (MC (qf (MA x a0 t0 0)) m2 (MA x a2 t2 (MC x a1 t1 (MC x a0 t0 0))) (MC (qf (MA x a0 t0 0)) m1 (MA x a1 t1 (MC x a0 t0 0)) (H1 (qf (MA x a0 t0 0)) m0 (MA x a0 t0 0))))))))
  (hsh : ∀ t0 t1 t2 t3 t4, R 4 t0 t1 t2 t3 t4 → ∀ w', Gw w w' → Calls Tryd.prog 59 #[.pointer (some ⟨b, 0, none⟩), .agg #[.int .u64 t0, .int .u64 t1, .int .u64 t2, .int .u64 t3], .int .u64 t4] w' fun e w'' => e = .returned (.agg #[.int .u64 (z0 : Nat), .int .u64 (z1 : Nat), .int .u64 (z2 : Nat), .int .u64 (z3 : Nat)]) ∧ Gw w' w'') :
  Calls Tryd.prog 49 #[.pointer (some ⟨b, 0, none⟩), .agg #[.int .u64 (a0 : Nat), .int .u64 (a1 : Nat), .int .u64 (a2 : Nat), .int .u64 (a3 : Nat)], .agg #[.int .u64 (c0 : Nat), .int .u64 (c1 : Nat), .int .u64 (c2 : Nat), .int .u64 (c3 : Nat)]] w fun e w' => e = .returned (.agg #[.int .u64 (z0 : Nat), .int .u64 (z1 : Nat), .int .u64 (z2 : Nat), .int .u64 (z3 : Nat)]) ∧ Gw w w' := by
 go_enter Tryd.func49, Tryd.ntmps49
 refine ve_go ?_
 simp only [List.map_cons, List.map_nil]
 iterate 4 refine t_k ?_
 refine t_17 ?_
 iterate 3 refine t_k ?_
 refine t_s (by exact ev_alloc rfl rfl (gn rfl) Tryd.zeroValue95) ?_
 iterate 4 refine t_k ?_
 refine t_3 ?_
 iterate 3 refine t_k ?_
 refine vloop_inv (fun n s => ∃ (k t0 t1 t2 t3 t4 t5 : Nat), n + k = 4 ∧ R k t0 t1 t2 t3 t4 ∧ s.fr = [.v (.pointer (some ⟨b, 0, none⟩)), .v (.agg #[.int .u64 (a0 : Nat), .int .u64 (a1 : Nat), .int .u64 (a2 : Nat), .int .u64 (a3 : Nat)]), .v (.agg #[.int .u64 (c0 : Nat), .int .u64 (c1 : Nat), .int .u64 (c2 : Nat), .int .u64 (c3 : Nat)]), .v undef, .p 4 0, .p 5 0, .p 6 0, .p 7 0, s.fr.getD 8 default, s.fr.getD 9 default, s.fr.getD 10 default, s.fr.getD 11 default, s.fr.getD 12 default, s.fr.getD 13 default, s.fr.getD 14 default, s.fr.getD 15 default, s.fr.getD 16 default, s.fr.getD 17 default, s.fr.getD 18 default, s.fr.getD 19 default, s.fr.getD 20 default, .v (.agg #[.int .u64 (c0 : Nat), .int .u64 (c1 : Nat), .int .u64 (c2 : Nat), .int .u64 (c3 : Nat)]), .v (.int .i64 (k : Nat)), s.fr.getD 23 default, s.fr.getD 24 default, s.fr.getD 25 default, s.fr.getD 26 default, s.fr.getD 27 default, s.fr.getD 28 default, s.fr.getD 29 default, s.fr.getD 30 default, s.fr.getD 31 default, s.fr.getD 32 default, s.fr.getD 33 default, s.fr.getD 34 default, s.fr.getD 35 default, s.fr.getD 36 default, s.fr.getD 37 default, s.fr.getD 38 default, s.fr.getD 39 default, s.fr.getD 40 default, s.fr.getD 41 default, s.fr.getD 42 default, s.fr.getD 43 default, s.fr.getD 44 default, s.fr.getD 45 default, s.fr.getD 46 default, s.fr.getD 47 default, s.fr.getD 48 default, s.fr.getD 49 default, s.fr.getD 50 default, s.fr.getD 51 default, s.fr.getD 52 default, s.fr.getD 53 default, s.fr.getD 54 default, s.fr.getD 55 default, s.fr.getD 56 default, s.fr.getD 57 default, s.fr.getD 58 default, s.fr.getD 59 default, s.fr.getD 60 default, s.fr.getD 61 default, s.fr.getD 62 default, s.fr.getD 63 default, s.fr.getD 64 default, s.fr.getD 65 default, s.fr.getD 66 default, s.fr.getD 67 default, s.fr.getD 68 default, s.fr.getD 69 default, s.fr.getD 70 default, s.fr.getD 71 default, s.fr.getD 72 default, s.fr.getD 73 default, s.fr.getD 74 default, s.fr.getD 75 default, s.fr.getD 76 default, s.fr.getD 77 default, s.fr.getD 78 default, s.fr.getD 79 default, s.fr.getD 80 default, s.fr.getD 81 default, s.fr.getD 82 default, s.fr.getD 83 default, s.fr.getD 84 default, s.fr.getD 85 default, s.fr.getD 86 default, s.fr.getD 87 default, s.fr.getD 88 default, s.fr.getD 89 default, s.fr.getD 90 default, s.fr.getD 91 default, s.fr.getD 92 default, s.fr.getD 93 default, s.fr.getD 94 default, s.fr.getD 95 default, s.fr.getD 96 default, s.fr.getD 97 default, s.fr.getD 98 default, s.fr.getD 99 default, s.fr.getD 100 default, s.fr.getD 101 default, s.fr.getD 102 default, s.fr.getD 103 default, s.fr.getD 104 default, s.fr.getD 105 default, s.fr.getD 106 default, s.fr.getD 107 default, s.fr.getD 108 default, s.fr.getD 109 default, s.fr.getD 110 default, s.fr.getD 111 default, s.fr.getD 112 default, s.fr.getD 113 default, s.fr.getD 114 default, s.fr.getD 115 default, s.fr.getD 116 default, s.fr.getD 117 default, s.fr.getD 118 default, s.fr.getD 119 default, s.fr.getD 120 default, s.fr.getD 121 default, s.fr.getD 122 default, s.fr.getD 123 default, s.fr.getD 124 default, s.fr.getD 125 default, s.fr.getD 126 default, s.fr.getD 127 default, s.fr.getD 128 default, s.fr.getD 129 default, s.fr.getD 130 default, s.fr.getD 131 default, s.fr.getD 132 default, s.fr.getD 133 default, s.fr.getD 134 default, s.fr.getD 135 default, s.fr.getD 136 default, s.fr.getD 137 default, s.fr.getD 138 default, s.fr.getD 139 default, s.fr.getD 140 default, s.fr.getD 141 default, s.fr.getD 142 default, s.fr.getD 143 default, s.fr.getD 144 default, s.fr.getD 145 default, s.fr.getD 146 default, s.fr.getD 147 default, s.fr.getD 148 default, s.fr.getD 149 default, s.fr.getD 150 default, s.fr.getD 151 default, s.fr.getD 152 default, s.fr.getD 153 default, s.fr.getD 154 default, s.fr.getD 155 default, s.fr.getD 156 default] ∧ s.mem = memOf [(7, ([.v (.int .u64 (t0 : Nat)), .v (.int .u64 (t1 : Nat)), .v (.int .u64 (t2 : Nat)), .v (.int .u64 (t3 : Nat)), .v (.int .u64 (t4 : Nat)), .v (.int .u64 (t5 : Nat))], 95)), (6, ([.v (.int .u64 0), .v (.int .u64 0), .v (.int .u64 0), .v (.int .u64 0)], 50)), (5, ([.v (.int .u64 (c0 : Nat)), .v (.int .u64 (c1 : Nat)), .v (.int .u64 (c2 : Nat)), .v (.int .u64 (c3 : Nat))], 50)), (4, ([.v (.int .u64 (a0 : Nat)), .v (.int .u64 (a1 : Nat)), .v (.int .u64 (a2 : Nat)), .v (.int .u64 (a3 : Nat))], 50))]) ?_ 4 ?_
 rotate_left
 · exact ⟨0, 0, 0, 0, 0, 0, 0, rfl, hR0, rfl, rfl⟩
 rintro n ⟨fr, mm⟩ ⟨k, t0, t1, t2, t3, t4, t5, hnk, hRk, hfr, hmm⟩
 obtain ⟨f, hf⟩ : ∃ f : Nat → SV, fr = [.v (.pointer (some ⟨b, 0, none⟩)), .v (.agg #[.int .u64 (a0 : Nat), .int .u64 (a1 : Nat), .int .u64 (a2 : Nat), .int .u64 (a3 : Nat)]), .v (.agg #[.int .u64 (c0 : Nat), .int .u64 (c1 : Nat), .int .u64 (c2 : Nat), .int .u64 (c3 : Nat)]), .v undef, .p 4 0, .p 5 0, .p 6 0, .p 7 0, f 8, f 9, f 10, f 11, f 12, f 13, f 14, f 15, f 16, f 17, f 18, f 19, f 20, .v (.agg #[.int .u64 (c0 : Nat), .int .u64 (c1 : Nat), .int .u64 (c2 : Nat), .int .u64 (c3 : Nat)]), .v (.int .i64 (k : Nat)), f 23, f 24, f 25, f 26, f 27, f 28, f 29, f 30, f 31, f 32, f 33, f 34, f 35, f 36, f 37, f 38, f 39, f 40, f 41, f 42, f 43, f 44, f 45, f 46, f 47, f 48, f 49, f 50, f 51, f 52, f 53, f 54, f 55, f 56, f 57, f 58, f 59, f 60, f 61, f 62, f 63, f 64, f 65, f 66, f 67, f 68, f 69, f 70, f 71, f 72, f 73, f 74, f 75, f 76, f 77, f 78, f 79, f 80, f 81, f 82, f 83, f 84, f 85, f 86, f 87, f 88, f 89, f 90, f 91, f 92, f 93, f 94, f 95, f 96, f 97, f 98, f 99, f 100, f 101, f 102, f 103, f 104, f 105, f 106, f 107, f 108, f 109, f 110, f 111, f 112, f 113, f 114, f 115, f 116, f 117, f 118, f 119, f 120, f 121, f 122, f 123, f 124, f 125, f 126, f 127, f 128, f 129, f 130, f 131, f 132, f 133, f 134, f 135, f 136, f 137, f 138, f 139, f 140, f 141, f 142, f 143, f 144, f 145, f 146, f 147, f 148, f 149, f 150, f 151, f 152, f 153, f 154, f 155, f 156] := ⟨fun i => fr.getD i default, hfr⟩
 clear hfr
 simp only at hmm
 subst hf hmm
 by_cases hlt : k < 4
 · have hk4 : k = 0 ∨ k = 1 ∨ k = 2 ∨ k = 3 := by omega
   obtain ⟨x, hx⟩ : ∃ x, [c0, c1, c2, c3][k]? = some x := ⟨_, List.getElem?_eq_getElem (by simpa using hlt)⟩
   have hwx : Wd x := by rcases hk4 with rfl | rfl | rfl | rfl <;> (simp at hx; subst hx; assumption)
   have hx2 : [Value.int .u64 (c0 : Nat), Value.int .u64 (c1 : Nat), Value.int .u64 (c2 : Nat), Value.int .u64 (c3 : Nat)][k]? = some (Value.int .u64 (x : Nat)) := by rcases hk4 with rfl | rfl | rfl | rfl <;> (simp at hx; subst hx; rfl)
   have hR1 := hR k x t0 t1 t2 t3 t4 hlt hx hRk
   have hdec : decide ((k : Int) < 4) = true := decide_eq_true (by omega)
   have hadd : ∀ k : Nat, k < 4 → IntKind.i64.wrap ((k : Int) + 1) = ((k + 1 : Nat) : Int) := fun k hk => by rw [i64w (by omega) (by omega)]; omega
   iterate 2 refine t_k ?_
   refine t_s (by exact ev_lss rfl (gn rfl) rfl rfl hdec) ?_
   iterate 8 refine t_k ?_
   refine t_s (by exact ev_indexv rfl (gn rfl) rfl rfl Tryd.underlying50 Tryd.sizeOf48 Tryd.underlying48 rfl hlt hx2) ?_
   iterate 9 refine t_k ?_
   refine t_3 ?_
   iterate 3 refine t_k ?_
   refine vloop 5 ?_
   iterate 4
     change VOk _ _ _ _ _
     iterate 2 refine t_k ?_
     refine t_1 ?_
     iterate 9 refine t_k ?_
     refine t_1 ?_
     iterate 7 refine t_k ?_
     refine t_s (by exact ev_call rfl (gn rfl) rfl (en_of Tryd.func62 (by kernel_rfl) rfl) (fun w _ => hmul _ _ hwx (by assumption) w)) ?_
     iterate 14 refine t_k ?_
     refine t_12 ?_
     refine t_4 ?_
     refine t_s (by exact ev_extern rfl (gn rfl) rfl (by intro w; first | exact e1 _ _ _ w)) ?_
     iterate 10 refine t_k ?_
     refine t_1 ?_
     iterate 6 refine t_k ?_
     refine t_s (by exact ev_extern rfl (gn rfl) rfl (by intro w; first | exact e2z _ _ _ w | exact e2 _ _ _ _ w)) ?_
     iterate 11 refine t_k ?_
     refine t_1 ?_
     refine t_12 ?_
     refine t_24 ?_
     iterate 3 refine t_k ?_
     refine t_1 ?_
     iterate 2 refine t_k ?_
   change VOk _ _ _ _ _
   iterate 2 refine t_k ?_
   refine t_1 ?_
   iterate 3 refine t_k ?_
   refine vexit ?_
   change VOk _ _ _ _ _
   iterate 6 refine t_k ?_
   refine t_12 ?_
   refine t_4 ?_
   refine t_k ?_
   refine t_s (by exact ev_extern rfl (gn rfl) rfl (by intro w; first | exact e3 _ _ w)) ?_
   iterate 3 refine t_k ?_
   refine t_12 ?_
   refine t_24 ?_
   iterate 5 refine t_k ?_
   refine t_12 ?_
   refine t_24 ?_
   iterate 3 refine t_k ?_
   refine t_12 ?_
   refine t_4 ?_
   iterate 2 refine t_k ?_
   refine t_s (by first | exact ev_field rfl (gn rfl) rfl Tryd.underlying80 rfl Tryd.sizeOf48 | exact ev_fieldx rfl (gn rfl) rfl Tryd.underlying80 rfl Tryd.sizeOf48) ?_
   refine t_s (by exact ev_loadx1 rfl (gn rfl) rfl Tryd.underlying48 rfl hn) ?_
   refine t_1 ?_
   iterate 7 refine t_k ?_
   refine t_18 ?_
   refine t_8 ?_
   refine t_4 ?_
   refine t_s (by exact ev_call rfl (gn rfl) rfl (en_of Tryd.func62 (by kernel_rfl) rfl) (fun w _ => hmul _ _ (wq _) wm0 w)) ?_
   iterate 9 refine t_k ?_
   refine t_12 ?_
   refine t_4 ?_
   refine t_s (by exact ev_extern rfl (gn rfl) rfl (by intro w; first | exact e1 _ _ _ w)) ?_
   iterate 9 refine t_k ?_
   refine t_1 ?_
   iterate 8 refine t_k ?_
   refine vloop 4 ?_
   iterate 3
     change VOk _ _ _ _ _
     iterate 4 refine t_k ?_
     refine t_1 ?_
     iterate 11 refine t_k ?_
     refine t_18 ?_
     refine t_8 ?_
     refine t_4 ?_
     refine t_s (by exact ev_call rfl (gn rfl) rfl (en_of Tryd.func62 (by kernel_rfl) rfl) (fun w _ => hmul _ _ (wq _) (by assumption) w)) ?_
     iterate 10 refine t_k ?_
     refine t_12 ?_
     refine t_4 ?_
     refine t_s (by exact ev_extern rfl (gn rfl) rfl (by intro w; first | exact e1 _ _ _ w)) ?_
     iterate 10 refine t_k ?_
     refine t_1 ?_
     iterate 6 refine t_k ?_
     refine t_s (by exact ev_extern rfl (gn rfl) rfl (by intro w; first | exact e2 _ _ _ _ w)) ?_
     iterate 8 refine t_k ?_
     refine t_1 ?_
     iterate 3 refine t_k ?_
     refine t_1 ?_
     refine t_12 ?_
     refine t_24 ?_
     iterate 4 refine t_k ?_
     refine t_1 ?_
     iterate 2 refine t_k ?_
   change VOk _ _ _ _ _
   iterate 4 refine t_k ?_
   refine t_1 ?_
   iterate 2 refine t_k ?_
   refine vexit ?_
   change VOk _ _ _ _ _
   iterate 2 refine t_k ?_
   refine t_12 ?_
   refine t_4 ?_
   refine t_k ?_
   refine t_s (by exact ev_extern rfl (gn rfl) rfl (by intro w; first | exact e3 _ _ w)) ?_
   iterate 3 refine t_k ?_
   refine t_12 ?_
   refine t_24 ?_
   iterate 3 refine t_k ?_
   refine t_12 ?_
   refine t_4 ?_
   refine t_k ?_
   refine t_1 ?_
   refine t_12 ?_
   refine t_24 ?_
   iterate 2 refine t_k ?_
   refine t_s (by exact ev_add rfl (gn rfl) rfl rfl (hadd k hlt)) ?_
   iterate 2 refine t_k ?_
   exact ⟨n - 1, by omega, k + 1, _, _, _, _, _, _, by omega, hR1, rfl, rfl⟩
 · have hk4 : k = 4 := by omega
   subst hk4
   iterate 2 refine t_k ?_
   refine t_s (by exact ev_lss (p := false) rfl (gn rfl) rfl rfl (by decide)) ?_
   iterate 3 refine t_k ?_
   refine vexit ?_
   change VOk _ _ _ _ _
   iterate 3 refine t_k ?_
   refine t_s (by exact ev_slice rfl (gn rfl) rfl rfl Tryd.underlying95 Tryd.sizeOf48 (by decide)) ?_
   refine t_s (by exact ev_arr rfl (gn rfl) rfl Tryd.underlying50 (by decide)) ?_
   refine t_3 ?_
   refine t_12 ?_
   refine t_4 ?_
   refine t_s (by exact ev_call rfl (gn rfl) rfl (en_of Tryd.func59 (by kernel_rfl) rfl) (hsh _ _ _ _ _ hRk)) ?_
   refine t_9 ?_
   refine t_k ?_
   refine vret ?_
   refine post_ret (res1 Tryd.results49 (rv_cell rfl rfl Tryd.underlying50 rfl Tryd.sizeOf50 rfl rfl)) ?_
   intro w' hg
   exact ⟨rfl, hg⟩
end Go.Proofs.YtafbhakmkbehiaaDoor
end
section
namespace Go.Proofs
open Go.Shelf
def Tryd.lays264_ren : Go.Shelf.Ren := ⟨fun | 264 => 62 | n => n, fun | 53 => 48 | 46 => 89 | n => n, fun | n => n⟩
theorem Tryd.lays264 : Go.Proofs.Lays.n264 Tryd.prog Tryd.lays264_ren := {
  mixed := by kernel_rfl
  f264 := Tryd.func62.trans (congrArg some (by kernel_rfl))
  t46 := Tryd.underlying89
  a46 := Tryd.isAgg89
  z46 := Tryd.sizeOf89
  v46 := Tryd.zeroValue89
  t53 := Tryd.underlying48
  a53 := Tryd.isAgg48
  z53 := Tryd.sizeOf48
  v53 := Tryd.zeroValue48 }
open Go.RowKit Go.Lib in
theorem Tryd.bits_Mul64 (x y : Nat) (hx : x < 18446744073709551616) (hy : y < 18446744073709551616) (w : World) :
    Calls Tryd.prog 62 #[.int .u64 x, .int .u64 y] w fun e w' => e = .returned (.tuple #[.int .u64 ((x * y / 18446744073709551616 : Nat) : Int), .int .u64 ((x * y % 18446744073709551616 : Nat) : Int)]) ∧ w' = w := Any.bits_Mul64 Tryd.lays264 x y hx hy w
end Go.Proofs
end
section
namespace Go.Proofs.YtafbhakmkbehiaaDoor
open Go.RowKit Go.Toll TollMont
def fA (x y t : Nat) : Nat := ac (x * y % W) t 0
def fK (x y t : Nat) : Nat := co (x * y % W) t 0
def fH (x y t : Nat) : Nat := (x * y / W + fK x y t) % W
def fM (x y t c : Nat) : Nat := ac (fA x y t) c 0
def fK2 (x y t c : Nat) : Nat := co (fA x y t) c 0
def fC (x y t c : Nat) : Nat := (fH x y t + fK2 x y t c) % W
theorem mac_is {x y t c : Nat} (hx : x < W) (hy : y < W) (ht : t < W) (hc : c < W) : fM x y t c = macL x y t c ∧ fC x y t c = macH x y t c := by
  obtain ⟨h1, h2⟩ := mac_eq hx hy ht hc
  exact ⟨h1, h2⟩
theorem macH0 {x y t : Nat} (hx : x < W) (hy : y < W) (ht : t < W) : fH x y t = macH x y t 0 := by
  rw [← (mac_is hx hy ht (by decide)).2]
  unfold fC fK2 fA ac co
  rw [Nat.add_zero, Nat.add_zero, Nat.div_eq_of_lt (Nat.mod_lt _ (by decide)), Nat.add_zero]
  exact (Nat.mod_eq_of_lt (Nat.mod_lt _ (by decide))).symm
theorem mul64_ok (x y : Nat) (hx : x < W) (hy : y < W) (w : World) : Calls Tryd.prog 62 #[.int .u64 x, .int .u64 y] w fun e w' => e = .returned (.tuple #[.int .u64 (x * y / W : Nat), .int .u64 (x * y % W : Nat)]) ∧ Gw w w' :=
  (Tryd.bits_Mul64 x y hx hy w).mono fun e w' h => ⟨h.1, by rw [h.2]; exact Gw.refl w⟩
theorem reduce_ok {m b n c : Nat} (hm : m % 2 = 1) (h1 : 1 < m) (hmR : m < R) (hn : n < R) (hc : c < R) (hnc : n < m ∨ c < m) (w : World) (h : At w b m) :
    Calls Tryd.prog 49 #[ptr b, N n, N c] w fun e w' => e = .returned (N (mred m n c)) ∧ Gw w w' := by
  have hneg : (neg64 (lim m 0) * lim m 0 + 1) % W = 0 := neg64_eq (by rw [lim_zero]; simp only [W]; omega)
  refine reduce_core b _ _ _ _ _ _ _ _ _ _ _ _ _ _ _ _ (neg64 (lim m 0)) w h.m h.neg (fun x y => x * y / W) (fun x y => x * y % W) (fun t c => ac t c 0) (fun t c => co t c 0) (fun x y => (x + y) % W)
    fA fK fH fM fK2 fC (fun t => t * neg64 (lim m 0) % W) (fun x => x < W) (fun k t0 t1 t2 t3 t4 => RedAt m n c k t0 t1 t2 t3 t4) (fun x y hx hy w => mul64_ok x y hx hy w)
    (fun x y t w => add64_run _ _ 0 (by omega) w) (fun x y t c w => add64_run _ _ 0 (by omega) w) (fun x y t w => add64_run _ 0 0 (by omega) w) (fun t c w => add64_run _ _ 0 (by omega) w)
    (fun x y t => wrap_nat _) (fun x y t c => wrap_nat _) (fun a c d e => wrap_nat _) (fun t => wrap_nat _) (fun t => Nat.mod_lt _ (by decide))
    (lim_lt _ _) (lim_lt _ _) (lim_lt _ _) (lim_lt _ _) (lim_lt _ _) (lim_lt _ _) (lim_lt _ _) (lim_lt _ _) (lim_lt _ _) (lim_lt _ _) (lim_lt _ _) (lim_lt _ _) (RedAt.start (by omega)) ?_ ?_
  · intro k x t0 t1 t2 t3 t4 hk hx hr
    have hx' : x = lim c k := by
      have : k = 0 ∨ k = 1 ∨ k = 2 ∨ k = 3 := by omega
      rcases this with rfl | rfl | rfl | rfl <;> (simp at hx; exact hx.symm)
    have hxW : x < W := by rw [hx']; exact lim_lt _ _
    have qW : ∀ u, u * neg64 (lim m 0) % W < W := fun u => Nat.mod_lt _ (by decide)
    obtain ⟨a0, b0⟩ := mac_is hxW (lim_lt n 0) hr.b0 (show 0 < W by decide)
    have l1 := macH_lt hxW (lim_lt n 0) hr.b0 (show 0 < W by decide)
    rw [← b0] at l1
    obtain ⟨a1, b1⟩ := mac_is hxW (lim_lt n 1) hr.b1 l1
    have l2 := macH_lt hxW (lim_lt n 1) hr.b1 l1
    rw [← b1] at l2
    obtain ⟨a2, b2⟩ := mac_is hxW (lim_lt n 2) hr.b2 l2
    have l3 := macH_lt hxW (lim_lt n 2) hr.b2 l2
    rw [← b2] at l3
    obtain ⟨a3, b3⟩ := mac_is hxW (lim_lt n 3) hr.b3 l3
    have u0 := macL_lt x (lim n 0) t0 0
    rw [← a0] at u0
    have u1 := macL_lt x (lim n 1) t1 (fC x (lim n 0) t0 0)
    rw [← a1] at u1
    have u2 := macL_lt x (lim n 2) t2 (fC x (lim n 1) t1 (fC x (lim n 0) t0 0))
    rw [← a2] at u2
    have u3 := macL_lt x (lim n 3) t3 (fC x (lim n 2) t2 (fC x (lim n 1) t1 (fC x (lim n 0) t0 0)))
    rw [← a3] at u3
    have g0 := macH0 (qW (fM x (lim n 0) t0 0)) (lim_lt m 0) u0
    have k1 := macH_lt (qW (fM x (lim n 0) t0 0)) (lim_lt m 0) u0 (show 0 < W by decide)
    rw [← g0] at k1
    obtain ⟨g1, i1⟩ := mac_is (qW (fM x (lim n 0) t0 0)) (lim_lt m 1) u1 k1
    have k2 := macH_lt (qW (fM x (lim n 0) t0 0)) (lim_lt m 1) u1 k1
    rw [← i1] at k2
    obtain ⟨g2, i2⟩ := mac_is (qW (fM x (lim n 0) t0 0)) (lim_lt m 2) u2 k2
    have k3 := macH_lt (qW (fM x (lim n 0) t0 0)) (lim_lt m 2) u2 k2
    rw [← i2] at k3
    obtain ⟨g3, i3⟩ := mac_is (qW (fM x (lim n 0) t0 0)) (lim_lt m 3) u3 k3
    exact RedAt.step hn hmR hneg hr hx' a0 b0 a1 b1 a2 b2 a3 b3 rfl rfl rfl g0 g1 i1 g2 i2 g3 i3 rfl rfl rfl
  · intro t0 t1 t2 t3 t4 hr w' hw
    obtain ⟨Q, hQ, hE⟩ := hr.eq
    have hE' : v5 t0 t1 t2 t3 t4 * R = n * c + m * Q := by
      have h4 : W ^ 4 = R := by decide
      rw [h4, Nat.mod_eq_of_lt hc] at hE
      exact hE
    obtain ⟨hlt, hmod⟩ := redc_end hm h1 hn hc hnc hQ hE'
    have ht4 := v5_lt (show v5 t0 t1 t2 t3 t4 < 2 * R by omega)
    obtain ⟨q0, q1, q2, q3, _⟩ := lim_of t0 t1 t2 t3 0 hr.b0 hr.b1 hr.b2 hr.b3
    have hr0 := hr.b0
    have hr1 := hr.b1
    have hr2 := hr.b2
    have hr3 := hr.b3
    have hT : v5 t0 t1 t2 t3 t4 = t0 + W * (t1 + W * (t2 + W * (t3 + W * 0))) + R * t4 := by unfold v5; simp only [W, R]; omega
    have hlt' : t0 + W * (t1 + W * (t2 + W * (t3 + W * 0))) < R := by simp only [W, R] at *; omega
    generalize t0 + W * (t1 + W * (t2 + W * (t3 + W * 0))) = T at *
    have hs := shrink_ok b m T t4 hmR hlt' (by omega) w' (h.gw hw).m
    have hres : (if t4 = 0 ∧ T < m then T else dif T m) = mred m n c := by
      rw [← hmod, hT]
      rw [hT] at hlt
      have : t4 = 0 ∨ t4 = 1 := by omega
      rcases this with rfl | rfl
      · simp only [Nat.mul_zero, Nat.add_zero] at *
        by_cases hl : T < m
        · rw [if_pos ⟨trivial, hl⟩, Nat.mod_eq_of_lt hl]
        · rw [if_neg (fun c => hl c.2)]
          unfold dif
          rw [if_neg hl, Nat.mod_eq_sub_mod (by omega), Nat.mod_eq_of_lt (by omega)]
      · rw [if_neg (fun c => by cases c.1)]
        unfold dif
        rw [if_pos (by omega), Nat.mul_one, Nat.mod_eq_sub_mod (by omega), Nat.mod_eq_of_lt (by omega)]
    rw [hres] at hs
    unfold N at hs
    rw [q0, q1, q2, q3] at hs
    exact hs
end Go.Proofs.YtafbhakmkbehiaaDoor
end
section
namespace Go.Proofs.YtafbhakmkbehiaaDoor
open Go.RowKit Go.Toll TollMont
structure Md (m : Nat) : Prop where
  odd : m % 2 = 1
  gt : 1 < m
  lt : m < R
theorem modR {m : Nat} (h : Md m) (x : Nat) : x % m < R := Nat.lt_trans (Nat.mod_lt _ (by have := h.gt; omega)) h.lt
theorem N_one : N 1 = .agg #[.int .u64 1, .int .u64 0, .int .u64 0, .int .u64 0] := by
  unfold N; rw [show lim 1 0 = 1 by decide, show lim 1 1 = 0 by decide, show lim 1 2 = 0 by decide, show lim 1 3 = 0 by decide]; rfl
theorem N_zero : N 0 = .agg #[.int .u64 0, .int .u64 0, .int .u64 0, .int .u64 0] := by
  unfold N; rw [show lim 0 0 = 0 by decide, show lim 0 1 = 0 by decide, show lim 0 2 = 0 by decide, show lim 0 3 = 0 by decide]; rfl
variable {m b : Nat}
theorem rest_ok (h : Md m) {n : Nat} (hn : n < R) (w : World) (ha : At w b m) : Calls Tryd.prog 23 #[ptr b, N n] w fun e w' => e = .returned (N (n % m)) ∧ Gw w w' := by
  have h0 : 0 < m := by have := h.gt; omega
  have e1 : mred m n (R * R % m) = n * R % m := mred_two h.odd h.gt n
  have e2 : mred m (n * R % m) 1 = n % m := mred_one h.odd h.gt n
  have A : ∀ w', Gw w w' → Calls Tryd.prog 49 #[ptr b, N n, N (R * R % m)] w' fun e w'' => e = .returned (N (n * R % m)) ∧ Gw w' w'' := fun w' hw => by
    have := reduce_ok h.odd h.gt h.lt hn (modR h (R * R)) (.inr (Nat.mod_lt _ h0)) w' (ha.gw hw)
    rw [e1] at this; exact this
  have B : ∀ w', Gw w w' → Calls Tryd.prog 49 #[ptr b, N (n * R % m), .agg #[.int .u64 1, .int .u64 0, .int .u64 0, .int .u64 0]] w' fun e w'' => e = .returned (N (n % m)) ∧ Gw w' w'' := fun w' hw => by
    have := reduce_ok h.odd h.gt h.lt (modR h (n * R)) (by decide : 1 < R) (.inl (Nat.mod_lt _ h0)) w' (ha.gw hw)
    rw [e2, N_one] at this; exact this
  exact rest_core b _ _ _ _ _ _ _ _ _ _ _ _ _ _ _ _ w ha.two A B
theorem mul_ok (h : Md m) {x y : Nat} (hx : x < R) (hy : y < R) (w : World) (ha : At w b m) : Calls Tryd.prog 21 #[ptr b, N x, N y] w fun e w' => e = .returned (N (x * y % m)) ∧ Gw w w' := by
  have h0 : 0 < m := by have := h.gt; omega
  have e1 : mred m x (R * R % m) = x * R % m := mred_two h.odd h.gt x
  have e2 : mred m (x * R % m) (y % m) = x * y % m := mred_mul h.odd h.gt x y
  have A : ∀ w', Gw w w' → Calls Tryd.prog 49 #[ptr b, N x, N (R * R % m)] w' fun e w'' => e = .returned (N (x * R % m)) ∧ Gw w' w'' := fun w' hw => by
    have := reduce_ok h.odd h.gt h.lt hx (modR h (R * R)) (.inr (Nat.mod_lt _ h0)) w' (ha.gw hw)
    rw [e1] at this; exact this
  have B : ∀ w', Gw w w' → Calls Tryd.prog 49 #[ptr b, N (x * R % m), N (y % m)] w' fun e w'' => e = .returned (N (x * y % m)) ∧ Gw w' w'' := fun w' hw => by
    have := reduce_ok h.odd h.gt h.lt (modR h (x * R)) (modR h y) (.inl (Nat.mod_lt _ h0)) w' (ha.gw hw)
    rw [e2] at this; exact this
  exact mul_core b _ _ _ _ _ _ _ _ _ _ _ _ _ _ _ _ _ _ _ _ _ _ _ _ w ha.two A (fun w' hw => rest_ok h hy w' (ha.gw hw)) B
theorem lim_R (n : Nat) : N (n % R) = N n := by
  have hl := lim_sum n
  obtain ⟨q0, q1, q2, q3, _⟩ := lim_of (lim n 0) (lim n 1) (lim n 2) (lim n 3) 0 (lim_lt _ _) (lim_lt _ _) (lim_lt _ _) (lim_lt _ _)
  have e : n % R = lim n 0 + W * (lim n 1 + W * (lim n 2 + W * (lim n 3 + W * 0))) := by
    have h0 := lim_lt n 0
    have h1 := lim_lt n 1
    have h2 := lim_lt n 2
    have h3 := lim_lt n 3
    have hd := Nat.mod_add_div n R
    generalize n / R = d at *
    generalize lim n 0 = a0 at *; generalize lim n 1 = a1 at *; generalize lim n 2 = a2 at *; generalize lim n 3 = a3 at *
    simp only [W, R] at *
    omega
  unfold N
  rw [e, q0, q1, q2, q3]
theorem shrunk {m T o : Nat} (hm : m < R) (_hT : T < R) (ho : o = 0 ∨ o = 1) (hlt : T + R * o < 2 * m) : (if o = 0 ∧ T < m then T else dif T m) = (T + R * o) % m := by
  rcases ho with rfl | rfl
  · simp only [Nat.mul_zero, Nat.add_zero] at *
    by_cases hl : T < m
    · rw [if_pos ⟨trivial, hl⟩, Nat.mod_eq_of_lt hl]
    · rw [if_neg (fun c => hl c.2)]
      unfold dif
      rw [if_neg hl, Nat.mod_eq_sub_mod (by omega), Nat.mod_eq_of_lt (by omega)]
  · rw [if_neg (fun c => by cases c.1)]
    unfold dif
    rw [if_pos (by omega), Nat.mul_one, Nat.mod_eq_sub_mod (by omega), Nat.mod_eq_of_lt (by omega)]
theorem madd_ok (h : Md m) {x y : Nat} (hx : x < R) (hy : y < R) (w : World) (ha : At w b m) : Calls Tryd.prog 43 #[ptr b, N x, N y] w fun e w' => e = .returned (N ((x + y) % m)) ∧ Gw w w' := by
  have h0 : 0 < m := by have := h.gt; omega
  have lx : x % m < m := Nat.mod_lt _ h0
  have ly : y % m < m := Nat.mod_lt _ h0
  have hm := h.lt
  have e : (x + y) % m = ((x % m + y % m) % R + R * ((x % m + y % m) / R)) % m := by rw [Nat.mod_add_div, ← Nat.add_mod]
  have A : ∀ w', Gw w w' → Calls Tryd.prog 23 #[ptr b, N x] w' fun e w'' => e = .returned (N (x % m)) ∧ Gw w' w'' := fun w' hw => rest_ok h hx w' (ha.gw hw)
  have B : ∀ w', Gw w w' → Calls Tryd.prog 23 #[ptr b, N y] w' fun e w'' => e = .returned (N (y % m)) ∧ Gw w' w'' := fun w' hw => rest_ok h hy w' (ha.gw hw)
  have C : ∀ w', Gw w w' → Calls Tryd.prog 60 #[N (x % m), N (y % m)] w' fun e w'' => e = .returned (.tuple #[N (x % m + y % m), .int .u64 ((x % m + y % m) / R : Nat)]) ∧ Gw w' w'' := fun w' _ => add_ok _ _ (by omega) (by omega) w'
  have ho : (x % m + y % m) / R = 0 ∨ (x % m + y % m) / R = 1 := by simp only [R] at *; omega
  have hr := Nat.mod_lt (x % m + y % m) (show 0 < R by decide)
  have hlt : (x % m + y % m) % R + R * ((x % m + y % m) / R) < 2 * m := by rw [Nat.mod_add_div]; omega
  have D : ∀ w', Gw w w' → Calls Tryd.prog 59 #[ptr b, N (x % m + y % m), .int .u64 ((x % m + y % m) / R : Nat)] w' fun e w'' => e = .returned (N ((x + y) % m)) ∧ Gw w' w'' := fun w' hw => by
    have := shrink_ok b m ((x % m + y % m) % R) ((x % m + y % m) / R) hm hr ho w' (ha.gw hw).m
    rw [shrunk hm hr ho hlt, ← e, lim_R] at this
    exact this
  rcases ho with o | o
  · rw [o] at C D
    exact madd_0 b _ _ _ _ _ _ _ _ _ _ _ _ _ _ _ _ _ _ _ _ _ _ _ _ w A B C D
  · rw [o] at C D
    exact madd_1 b _ _ _ _ _ _ _ _ _ _ _ _ _ _ _ _ _ _ _ _ _ _ _ _ w A B C D
theorem msub_ok (h : Md m) {x y : Nat} (hx : x < R) (hy : y < R) (w : World) (ha : At w b m) : Calls Tryd.prog 44 #[ptr b, N x, N y] w fun e w' => e = .returned (N (subm m x y)) ∧ Gw w w' := by
  have h0 : 0 < m := by have := h.gt; omega
  have lx : x % m < m := Nat.mod_lt _ h0
  have ly : y % m < m := Nat.mod_lt _ h0
  have hm := h.lt
  have A : ∀ w', Gw w w' → Calls Tryd.prog 23 #[ptr b, N x] w' fun e w'' => e = .returned (N (x % m)) ∧ Gw w' w'' := fun w' hw => rest_ok h hx w' (ha.gw hw)
  have B : ∀ w', Gw w w' → Calls Tryd.prog 23 #[ptr b, N y] w' fun e w'' => e = .returned (N (y % m)) ∧ Gw w' w'' := fun w' hw => rest_ok h hy w' (ha.gw hw)
  have C : ∀ w', Gw w w' → Calls Tryd.prog 48 #[N (x % m), N (y % m)] w' fun e w'' => e = .returned (.tuple #[N (dif (x % m) (y % m)), .int .u64 (if x % m < y % m then 1 else 0 : Nat)]) ∧ Gw w' w'' := fun w' _ => sub_ok _ _ (by omega) (by omega) w'
  have D : ∀ w', Gw w w' → Calls Tryd.prog 60 #[N (dif (x % m) (y % m)), N m] w' fun e w'' => e = .returned (.tuple #[N (dif (x % m) (y % m) + m), .int .u64 ((dif (x % m) (y % m) + m) / R : Nat)]) ∧ Gw w' w'' := fun w' _ => add_ok _ _ (dif_lt (by omega) (by omega)) hm w'
  by_cases hlt : x % m < y % m
  · have e : N (dif (x % m) (y % m) + m) = N (subm m x y) := by
      rw [← lim_R, ← lim_R (subm m x y)]
      congr 1
      unfold dif subm
      rw [if_pos hlt, Nat.mod_eq_of_lt (a := x % m + m - y % m) (by omega)]
      generalize x % m = p at *; generalize y % m = q at *
      simp only [R] at *; omega
    rw [e] at D
    simp only [if_pos hlt] at C
    exact msub_1 b _ _ _ _ _ _ _ _ _ _ _ _ _ _ _ _ _ _ _ _ _ _ _ _ _ _ _ _ _ w ha.m A B C D
  · have e : dif (x % m) (y % m) = subm m x y := by
      unfold dif subm
      rw [if_neg hlt, show x % m + m - y % m = x % m - y % m + m by omega, Nat.add_mod_right]
      exact (Nat.mod_eq_of_lt (by omega)).symm
    simp only [if_neg hlt] at C
    rw [e] at C D
    exact msub_0 b _ _ _ _ _ _ _ _ _ _ _ _ _ _ _ _ _ _ _ _ _ _ _ _ _ _ _ _ _ w ha.m A B C D
end Go.Proofs.YtafbhakmkbehiaaDoor
end
section
namespace Go.Proofs.YtafbhakmkbehiaaDoor
open Go.RowKit Go.Toll
set_option maxHeartbeats 1000000
set_option maxRecDepth 100000
theorem half_core (lo sh up : Nat → Nat) (orr : Nat → Nat → Nat) (a0 a1 a2 a3 : Nat) (c : Nat) (w : World)
  (hlo : ∀ (x : Nat) (p q : Operand) (w : World), (do eqGuard .and 48 p q (.int .u64 (x : Nat)) (.int .u64 1); binOp .and 48 (.int .u64 (x : Nat)) (.int .u64 1) : Sem Value).run Tryd.prog w = .ok (.int .u64 (lo x : Nat)) w)
  (hsh : ∀ (x : Nat) (p q : Operand) (w : World), (do eqGuard .shr 48 p q (.int .u64 (x : Nat)) (.int .u64 1); binOp .shr 48 (.int .u64 (x : Nat)) (.int .u64 1) : Sem Value).run Tryd.prog w = .ok (.int .u64 (sh x : Nat)) w)
  (hup : ∀ (x : Nat) (p q : Operand) (w : World), (do eqGuard .shl 48 p q (.int .u64 (x : Nat)) (.int .u64 63); binOp .shl 48 (.int .u64 (x : Nat)) (.int .u64 63) : Sem Value).run Tryd.prog w = .ok (.int .u64 (up x : Nat)) w)
  (hor : ∀ (x y : Nat) (p q : Operand) (w : World), (do eqGuard .or 48 p q (.int .u64 (x : Nat)) (.int .u64 (y : Nat)); binOp .or 48 (.int .u64 (x : Nat)) (.int .u64 (y : Nat)) : Sem Value).run Tryd.prog w = .ok (.int .u64 (orr x y : Nat)) w) :
  Calls Tryd.prog 46 #[.agg #[.int .u64 (a0 : Nat), .int .u64 (a1 : Nat), .int .u64 (a2 : Nat), .int .u64 (a3 : Nat)], .int .u64 (c : Nat)] w fun e w' => e = .returned (.agg #[.int .u64 (orr (sh a0) (up (lo a1)) : Nat), .int .u64 (orr (sh a1) (up (lo a2)) : Nat), .int .u64 (orr (sh a2) (up (lo a3)) : Nat), .int .u64 (orr (sh a3) (up c) : Nat)]) ∧ Gw w w' := by
 go_enter Tryd.func46, Tryd.ntmps46
 refine ve_go ?_
 simp only [List.map_cons, List.map_nil]
 iterate 3 refine t_k ?_
 refine t_17 ?_
 iterate 7 refine t_k ?_
 refine vloop 5 ?_
 iterate 3
   change VOk _ _ _ _ _
   iterate 2 refine t_k ?_
   refine t_1 ?_
   iterate 20 refine t_k ?_
   refine t_1 ?_
   iterate 4 refine t_k ?_
   refine t_1 ?_
   refine t_8 ?_
   refine t_4 ?_
   refine t_s (by exact ev_bin rfl (gn rfl) rfl rfl (fun w => hlo _  _ _ w)) ?_
   iterate 5 refine t_k ?_
   refine t_8 ?_
   refine t_4 ?_
   refine t_s (by exact ev_bin rfl (gn rfl) rfl rfl (fun w => hsh _  _ _ w)) ?_
   refine t_k ?_
   refine t_s (by exact ev_bin rfl (gn rfl) rfl rfl (fun w => hup _  _ _ w)) ?_
   refine t_s (by exact ev_bin rfl (gn rfl) rfl rfl (fun w => hor _ _  _ _ w)) ?_
   refine t_8 ?_
   refine t_24 ?_
   iterate 2 refine t_k ?_
   refine t_1 ?_
   iterate 2 refine t_k ?_
 change VOk _ _ _ _ _
 iterate 2 refine t_k ?_
 refine t_1 ?_
 iterate 6 refine t_k ?_
 iterate 2
   iterate 5 refine t_k ?_
 iterate 4 refine t_k ?_
 refine t_1 ?_
 iterate 6 refine t_k ?_
 refine t_8 ?_
 refine t_4 ?_
 refine t_s (by exact ev_bin rfl (gn rfl) rfl rfl (fun w => hsh _  _ _ w)) ?_
 refine t_k ?_
 refine t_s (by exact ev_bin rfl (gn rfl) rfl rfl (fun w => hup _  _ _ w)) ?_
 refine t_s (by exact ev_bin rfl (gn rfl) rfl rfl (fun w => hor _ _  _ _ w)) ?_
 refine t_8 ?_
 refine t_24 ?_
 iterate 2 refine t_k ?_
 refine t_1 ?_
 iterate 4 refine t_k ?_
 refine t_1 ?_
 iterate 3 refine t_k ?_
 refine vexit ?_
 change VOk _ _ _ _ _
 iterate 2 refine t_k ?_
 refine t_3 ?_
 refine t_9 ?_
 refine t_k ?_
 refine vret ?_
 refine post_ret (res1 Tryd.results46 (rv_cell rfl rfl Tryd.underlying50 rfl Tryd.sizeOf50 rfl rfl)) ?_
 intro w' hg
 exact ⟨rfl, hg⟩
theorem halve_0 (b : Nat) (a0 a1 a2 a3 y0 y1 y2 y3 : Nat) (w : World)
  (hz : ∀ (_x : Nat) (p q : Operand) (w : World), (do eqGuard .and 48 p q (.int .u64 (a0 : Nat)) (.int .u64 1); binOp .and 48 (.int .u64 (a0 : Nat)) (.int .u64 1) : Sem Value).run Tryd.prog w = .ok (.int .u64 0) w) (h1 : ∀ w', Gw w w' → Calls Tryd.prog 46 #[.agg #[.int .u64 (a0 : Nat), .int .u64 (a1 : Nat), .int .u64 (a2 : Nat), .int .u64 (a3 : Nat)], .int .u64 0] w' fun e w'' => e = .returned (.agg #[.int .u64 (y0 : Nat), .int .u64 (y1 : Nat), .int .u64 (y2 : Nat), .int .u64 (y3 : Nat)]) ∧ Gw w' w'') :
  Calls Tryd.prog 47 #[.pointer (some ⟨b, 0, none⟩), .agg #[.int .u64 (a0 : Nat), .int .u64 (a1 : Nat), .int .u64 (a2 : Nat), .int .u64 (a3 : Nat)]] w fun e w' => e = .returned (.agg #[.int .u64 (y0 : Nat), .int .u64 (y1 : Nat), .int .u64 (y2 : Nat), .int .u64 (y3 : Nat)]) ∧ Gw w w' := by
 go_enter Tryd.func47, Tryd.ntmps47
 refine ve_go ?_
 simp only [List.map_cons, List.map_nil]
 iterate 3 refine t_k ?_
 refine t_17 ?_
 iterate 4 refine t_k ?_
 refine t_8 ?_
 refine t_4 ?_
 refine t_s (by exact ev_bin rfl (gn rfl) rfl rfl (fun w => hz 0 _ _ w)) ?_
 refine t_1 ?_
 iterate 4 refine t_k ?_
 refine t_3 ?_
 refine t_s (by exact ev_call rfl (gn rfl) rfl (en_of Tryd.func46 (by kernel_rfl) rfl) h1) ?_
 refine t_9 ?_
 refine t_k ?_
 refine vret ?_
 refine post_ret (res1 Tryd.results47 (rv_cell rfl rfl Tryd.underlying50 rfl Tryd.sizeOf50 rfl rfl)) ?_
 intro w' hg
 exact ⟨rfl, hg⟩
theorem halve_1 (b : Nat) (a0 a1 a2 a3 m0 m1 m2 m3 s0 s1 s2 s3 y0 y1 y2 y3 : Nat) (c : Nat) (w : World) (hm : ∀ (j : Nat) (v : Value), [.int .u64 (m0 : Nat), .int .u64 (m1 : Nat), .int .u64 (m2 : Nat), .int .u64 (m3 : Nat)][j]? = some v → w.cell? ⟨b, 0 + j, none⟩ = some v)
  (hz : ∀ (_x : Nat) (p q : Operand) (w : World), (do eqGuard .and 48 p q (.int .u64 (a0 : Nat)) (.int .u64 1); binOp .and 48 (.int .u64 (a0 : Nat)) (.int .u64 1) : Sem Value).run Tryd.prog w = .ok (.int .u64 1) w) (h1 : ∀ w', Gw w w' → Calls Tryd.prog 60 #[.agg #[.int .u64 (a0 : Nat), .int .u64 (a1 : Nat), .int .u64 (a2 : Nat), .int .u64 (a3 : Nat)], .agg #[.int .u64 (m0 : Nat), .int .u64 (m1 : Nat), .int .u64 (m2 : Nat), .int .u64 (m3 : Nat)]] w' fun e w'' => e = .returned (.tuple #[.agg #[.int .u64 (s0 : Nat), .int .u64 (s1 : Nat), .int .u64 (s2 : Nat), .int .u64 (s3 : Nat)], .int .u64 (c : Nat)]) ∧ Gw w' w'') (h2 : ∀ w', Gw w w' → Calls Tryd.prog 46 #[.agg #[.int .u64 (s0 : Nat), .int .u64 (s1 : Nat), .int .u64 (s2 : Nat), .int .u64 (s3 : Nat)], .int .u64 (c : Nat)] w' fun e w'' => e = .returned (.agg #[.int .u64 (y0 : Nat), .int .u64 (y1 : Nat), .int .u64 (y2 : Nat), .int .u64 (y3 : Nat)]) ∧ Gw w' w'') :
  Calls Tryd.prog 47 #[.pointer (some ⟨b, 0, none⟩), .agg #[.int .u64 (a0 : Nat), .int .u64 (a1 : Nat), .int .u64 (a2 : Nat), .int .u64 (a3 : Nat)]] w fun e w' => e = .returned (.agg #[.int .u64 (y0 : Nat), .int .u64 (y1 : Nat), .int .u64 (y2 : Nat), .int .u64 (y3 : Nat)]) ∧ Gw w w' := by
 go_enter Tryd.func47, Tryd.ntmps47
 refine ve_go ?_
 simp only [List.map_cons, List.map_nil]
 iterate 3 refine t_k ?_
 refine t_17 ?_
 iterate 4 refine t_k ?_
 refine t_8 ?_
 refine t_4 ?_
 refine t_s (by exact ev_bin rfl (gn rfl) rfl rfl (fun w => hz 0 _ _ w)) ?_
 refine t_1 ?_
 iterate 5 refine t_k ?_
 refine t_3 ?_
 iterate 2 refine t_k ?_
 refine t_18 ?_
 refine t_3 ?_
 refine t_s (by exact ev_call rfl (gn rfl) rfl (en_of Tryd.func60 (by kernel_rfl) rfl) h1) ?_
 iterate 3 refine t_k ?_
 refine t_17 ?_
 refine t_9 ?_
 iterate 4 refine t_k ?_
 refine t_3 ?_
 refine t_k ?_
 refine t_s (by exact ev_call rfl (gn rfl) rfl (en_of Tryd.func46 (by kernel_rfl) rfl) h2) ?_
 refine t_9 ?_
 refine t_k ?_
 refine vret ?_
 refine post_ret (res1 Tryd.results47 (rv_cell rfl rfl Tryd.underlying50 rfl Tryd.sizeOf50 rfl rfl)) ?_
 intro w' hg
 exact ⟨rfl, hg⟩
end Go.Proofs.YtafbhakmkbehiaaDoor
end
section
namespace Go.Proofs.YtafbhakmkbehiaaDoor
open Go.RowKit Go.Toll TollMont
def or64 (x y : Nat) : Nat := x % 18446744073709551616 ||| y % 18446744073709551616
def up63 (x : Nat) : Nat := x * 9223372036854775808 % 18446744073709551616
theorem or_bit {a d : Nat} (ha : a < W) (hd : d = 0 ∨ d = 1) : or64 (a / 2) (up63 d) = a / 2 + 9223372036854775808 * d := by
  have h1 : a / 2 < 9223372036854775808 := by simp only [W] at ha; omega
  have h2 : a / 2 % 18446744073709551616 = a / 2 := Nat.mod_eq_of_lt (by omega)
  rcases hd with rfl | rfl
  · simp [or64, up63, h2]
  · have := Nat.two_pow_add_eq_or_of_lt (i := 63) (b := a / 2) (by simpa using h1) 1
    simp only [or64, up63, h2]
    rw [show 1 * 9223372036854775808 % 18446744073709551616 % 18446744073709551616 = 2 ^ 63 * 1 by decide, Nat.or_comm, ← this]
    omega
theorem half_parts {n c : Nat} (hn : n < R) (hc : c = 0 ∨ c = 1) :
    or64 (lim n 0 / 2) (up63 (lim n 1 % 2)) = lim ((n + R * c) / 2) 0 ∧ or64 (lim n 1 / 2) (up63 (lim n 2 % 2)) = lim ((n + R * c) / 2) 1 ∧
      or64 (lim n 2 / 2) (up63 (lim n 3 % 2)) = lim ((n + R * c) / 2) 2 ∧ or64 (lim n 3 / 2) (up63 c) = lim ((n + R * c) / 2) 3 := by
  have h0 := lim_lt n 0
  have h1 := lim_lt n 1
  have h2 := lim_lt n 2
  have h3 := lim_lt n 3
  have b01 : ∀ x : Nat, x % 2 = 0 ∨ x % 2 = 1 := fun x => by omega
  rw [or_bit h0 (b01 _), or_bit h1 (b01 _), or_bit h2 (b01 _), or_bit h3 hc]
  have hs := lim_sum4 hn
  have e : (n + R * c) / 2 = (lim n 0 / 2 + 9223372036854775808 * (lim n 1 % 2)) + W * ((lim n 1 / 2 + 9223372036854775808 * (lim n 2 % 2)) + W * ((lim n 2 / 2 + 9223372036854775808 * (lim n 3 % 2)) + W * ((lim n 3 / 2 + 9223372036854775808 * c) + W * 0))) := by
    generalize lim n 0 = a0 at *; generalize lim n 1 = a1 at *; generalize lim n 2 = a2 at *; generalize lim n 3 = a3 at *
    subst hs
    clear hn
    simp only [W, R] at *
    rcases hc with rfl | rfl <;> omega
  obtain ⟨q0, q1, q2, q3, _⟩ := lim_of (lim n 0 / 2 + 9223372036854775808 * (lim n 1 % 2)) (lim n 1 / 2 + 9223372036854775808 * (lim n 2 % 2)) (lim n 2 / 2 + 9223372036854775808 * (lim n 3 % 2)) (lim n 3 / 2 + 9223372036854775808 * c) 0
    (by simp only [W] at *; omega) (by simp only [W] at *; omega) (by simp only [W] at *; omega) (by simp only [W] at *; omega)
  rw [e]
  exact ⟨q0.symm, q1.symm, q2.symm, q3.symm⟩
theorem half_ok {n c : Nat} (hn : n < R) (hc : c = 0 ∨ c = 1) (w : World) : Calls Tryd.prog 46 #[N n, .int .u64 (c : Nat)] w fun e w' => e = .returned (N ((n + R * c) / 2)) ∧ Gw w w' := by
  obtain ⟨e0, e1, e2, e3⟩ := half_parts hn hc
  have h := half_core (fun x => x % 2) (fun x => x / 2) up63 or64 (lim n 0) (lim n 1) (lim n 2) (lim n 3) c w (fun x p q w => b_and x p q w) (fun x p q w => b_shr1 x p q w) (fun x p q w => b_shl63 x p q w) (fun x y p q w => b_or x y p q w)
  rw [e0, e1, e2, e3] at h
  exact h
theorem lim_par (x : Nat) : lim x 0 % 2 = x % 2 := by rw [lim_zero]; simp only [W]; omega
theorem halve_ok {m b x : Nat} (hm : m < R) (hx : x < R) (w : World) (ha : At w b m) : Calls Tryd.prog 47 #[ptr b, N x] w fun e w' => e = .returned (N (TollMont.halve m x)) ∧ Gw w w' := by
  unfold TollMont.halve
  by_cases hp : x % 2 = 0
  · rw [if_pos hp]
    have A : ∀ w', Gw w w' → Calls Tryd.prog 46 #[N x, .int .u64 0] w' fun e w'' => e = .returned (N (x / 2)) ∧ Gw w' w'' := fun w' _ => by
      have := half_ok hx (.inl rfl : (0 : Nat) = 0 ∨ (0 : Nat) = 1) w'
      rw [Nat.mul_zero, Nat.add_zero] at this
      exact this
    exact halve_0 b _ _ _ _ _ _ _ _ w (fun _ p q w => by have := b_and (lim x 0) p q w; rw [lim_par, hp] at this; exact this) A
  · rw [if_neg hp]
    have hp1 : x % 2 = 1 := by omega
    have ho : (x + m) / R = 0 ∨ (x + m) / R = 1 := by simp only [R] at *; omega
    have A : ∀ w', Gw w w' → Calls Tryd.prog 60 #[N x, N m] w' fun e w'' => e = .returned (.tuple #[N (x + m), .int .u64 ((x + m) / R : Nat)]) ∧ Gw w' w'' := fun w' _ => add_ok _ _ hx hm w'
    have B : ∀ w', Gw w w' → Calls Tryd.prog 46 #[N (x + m), .int .u64 ((x + m) / R : Nat)] w' fun e w'' => e = .returned (N ((x + m) / 2)) ∧ Gw w' w'' := fun w' _ => by
      have := half_ok (Nat.mod_lt (x + m) (show 0 < R by decide)) ho w'
      rw [Nat.mod_add_div, lim_R] at this
      exact this
    exact halve_1 b _ _ _ _ _ _ _ _ _ _ _ _ _ _ _ _ _ w ha.m (fun _ p q w => by have := b_and (lim x 0) p q w; rw [lim_par, hp1] at this; exact this) A B
end Go.Proofs.YtafbhakmkbehiaaDoor
end
section
namespace Go.Proofs.YtafbhakmkbehiaaDoor
open Go.RowKit Go.Toll
theorem b_quo (x : Nat) (hx : x < 9223372036854775808) (p q : Operand) (w : World) : (do eqGuard .quo 3 p q (.int .i64 (x : Nat)) (.int .i64 64); binOp .quo 3 (.int .i64 (x : Nat)) (.int .i64 64) : Sem Value).run Tryd.prog w = .ok (.int .i64 (x / 64 : Nat)) w := by
  go_simp
  exact i64w (by omega) (by omega)
theorem b_rem (x : Nat) (p q : Operand) (w : World) : (do eqGuard .rem 3 p q (.int .i64 (x : Nat)) (.int .i64 64); binOp .rem 3 (.int .i64 (x : Nat)) (.int .i64 64) : Sem Value).run Tryd.prog w = .ok (.int .i64 (x % 64 : Nat)) w := by
  go_simp
  exact Int.tmod_eq_emod_of_nonneg (by omega)
theorem b_shr (x r : Nat) (hr : r < 64) (p q : Operand) (w : World) : (do eqGuard .shr 48 p q (.int .u64 (x : Nat)) (.int .i64 (r : Nat)); binOp .shr 48 (.int .u64 (x : Nat)) (.int .i64 (r : Nat)) : Sem Value).run Tryd.prog w = .ok (.int .u64 (x / 2 ^ r : Nat)) w := by
  go_simp
theorem b_rem2 (x : Nat) (p q : Operand) (w : World) : (do eqGuard .rem 48 p q (.int .u64 (x : Nat)) (.int .u64 2); binOp .rem 48 (.int .u64 (x : Nat)) (.int .u64 2) : Sem Value).run Tryd.prog w = .ok (.int .u64 (x % 2 : Nat)) w := by
  go_simp
  exact Int.tmod_eq_emod_of_nonneg (by omega)
theorem b_cvt (x : Nat) (h : x < 9223372036854775808) (w : World) : (convert 48 3 (.int .u64 (x : Nat))).run Tryd.prog w = .ok (.int .i64 (x : Nat)) w := by
  go_simp
  exact i64w (by omega) (by omega)
theorem b_shl8 (x : Nat) (p q : Operand) (w : World) : (do eqGuard .shl 48 p q (.int .u64 (x : Nat)) (.int .u64 8); binOp .shl 48 (.int .u64 (x : Nat)) (.int .u64 8) : Sem Value).run Tryd.prog w = .ok (.int .u64 (x * 256 % 18446744073709551616 : Nat)) w := by
  go_simp
  exact wrap_nat (x * 256)
theorem b_shlk (x : Nat) (s : Int) (h0 : 0 ≤ s) (h1 : s < 64) (p q : Operand) (w : World) : (do eqGuard .shl 48 p q (.int .u64 (x : Nat)) (.int .i64 s); binOp .shl 48 (.int .u64 (x : Nat)) (.int .i64 s) : Sem Value).run Tryd.prog w = .ok (.int .u64 (x * 2 ^ s.toNat % 18446744073709551616 : Nat)) w := by
  obtain ⟨n, rfl⟩ := Int.eq_ofNat_of_zero_le h0
  go_simp
  rw [IntKind.wrap_u64]
theorem b_shrk (x : Nat) (s : Int) (h0 : 0 ≤ s) (h1 : s < 64) (p q : Operand) (w : World) : (do eqGuard .shr 48 p q (.int .u64 (x : Nat)) (.int .i64 s); binOp .shr 48 (.int .u64 (x : Nat)) (.int .i64 s) : Sem Value).run Tryd.prog w = .ok (.int .u64 (x / 2 ^ s.toNat : Nat)) w := by
  obtain ⟨n, rfl⟩ := Int.eq_ofNat_of_zero_le h0
  go_simp
theorem b_cv8 (x : Nat) (w : World) : (convert 5 48 (.int .u8 (x : Nat))).run Tryd.prog w = .ok (.int .u64 (x % 18446744073709551616 : Nat)) w := by
  go_simp
  exact wrap_nat x
theorem b_cvb (x : Nat) (w : World) : (convert 48 5 (.int .u64 (x : Nat))).run Tryd.prog w = .ok (.int .u8 (x % 256 : Nat)) w := by
  go_simp
  rw [IntKind.wrap_u8]
theorem b_lss (x y : Nat) (p q : Operand) (w : World) : (do eqGuard .lss 48 p q (.int .u64 (x : Nat)) (.int .u64 (y : Nat)); binOp .lss 48 (.int .u64 (x : Nat)) (.int .u64 (y : Nat)) : Sem Value).run Tryd.prog w = .ok (.bool (decide (x < y))) w := by
  go_simp
theorem b_neq (x y : Nat) (p q : Operand) (w : World) : (do eqGuard .neq 48 p q (.int .u64 (x : Nat)) (.int .u64 (y : Nat)); binOp .neq 48 (.int .u64 (x : Nat)) (.int .u64 (y : Nat)) : Sem Value).run Tryd.prog w = .ok (.bool (!decide (x = y))) w := by
  go_simp
  rw [bne, beq_nat]
theorem b_eq1 (x : Nat) (p q : Operand) (w : World) : (do eqGuard .eql 48 p q (.int .u64 (x : Nat)) (.int .u64 1); binOp .eql 48 (.int .u64 (x : Nat)) (.int .u64 1) : Sem Value).run Tryd.prog w = .ok (.bool (decide (x = 1))) w := by
  go_simp
  exact beq_nat x 1
theorem b_neg (x : Nat) (w : World) : (Op.unary .neg (.int .u64 (x : Nat))).run Tryd.prog w = .ok (.int .u64 ((18446744073709551616 - x % 18446744073709551616) % 18446744073709551616 : Nat)) w := by
  go_simp
  rw [IntKind.wrap_u64]; omega
end Go.Proofs.YtafbhakmkbehiaaDoor
end
section
namespace Go.Proofs.YtafbhakmkbehiaaDoor
open Go.RowKit Go.Toll
set_option maxHeartbeats 4000000
set_option maxRecDepth 100000
theorem bytes_core (lw : Nat → Nat) (shr : Nat → Int → Nat) (a0 a1 a2 a3 : Nat) (w : World)
  (hcv : ∀ (x : Nat) (w : World), (convert 48 5 (.int .u64 (x : Nat))).run Tryd.prog w = .ok (.int .u8 (lw x : Nat)) w)
  (hshr : ∀ (x : Nat) (s : Int) (_ : 0 ≤ s) (_ : s < 64) (p q : Operand) (w : World), (do eqGuard .shr 48 p q (.int .u64 (x : Nat)) (.int .i64 s); binOp .shr 48 (.int .u64 (x : Nat)) (.int .i64 s) : Sem Value).run Tryd.prog w = .ok (.int .u64 (shr x s : Nat)) w) :
  Calls Tryd.prog 22 #[.agg #[.int .u64 (a0 : Nat), .int .u64 (a1 : Nat), .int .u64 (a2 : Nat), .int .u64 (a3 : Nat)]] w fun e w' => e = .returned (.agg #[.int .u8 (lw (shr a3 56) : Nat), .int .u8 (lw (shr a3 48) : Nat), .int .u8 (lw (shr a3 40) : Nat), .int .u8 (lw (shr a3 32) : Nat), .int .u8 (lw (shr a3 24) : Nat), .int .u8 (lw (shr a3 16) : Nat), .int .u8 (lw (shr a3 8) : Nat), .int .u8 (lw (shr a3 0) : Nat), .int .u8 (lw (shr a2 56) : Nat), .int .u8 (lw (shr a2 48) : Nat), .int .u8 (lw (shr a2 40) : Nat), .int .u8 (lw (shr a2 32) : Nat), .int .u8 (lw (shr a2 24) : Nat), .int .u8 (lw (shr a2 16) : Nat), .int .u8 (lw (shr a2 8) : Nat), .int .u8 (lw (shr a2 0) : Nat), .int .u8 (lw (shr a1 56) : Nat), .int .u8 (lw (shr a1 48) : Nat), .int .u8 (lw (shr a1 40) : Nat), .int .u8 (lw (shr a1 32) : Nat), .int .u8 (lw (shr a1 24) : Nat), .int .u8 (lw (shr a1 16) : Nat), .int .u8 (lw (shr a1 8) : Nat), .int .u8 (lw (shr a1 0) : Nat), .int .u8 (lw (shr a0 56) : Nat), .int .u8 (lw (shr a0 48) : Nat), .int .u8 (lw (shr a0 40) : Nat), .int .u8 (lw (shr a0 32) : Nat), .int .u8 (lw (shr a0 24) : Nat), .int .u8 (lw (shr a0 16) : Nat), .int .u8 (lw (shr a0 8) : Nat), .int .u8 (lw (shr a0 0) : Nat)]) ∧ Gw w w' := by
 go_enter Tryd.func22, Tryd.ntmps22
 refine ve_go ?_
 simp only [List.map_cons, List.map_nil]
 iterate 3 refine t_k ?_
 refine t_s (by exact ev_alloc rfl rfl (gn rfl) Tryd.zeroValue23) ?_
 iterate 3 refine t_k ?_
 refine t_s (by exact ev_alloc rfl rfl (gn rfl) Tryd.zeroValue23) ?_
 iterate 7 refine t_k ?_
 refine vloop 33 ?_
 iterate 32
   change VOk _ _ _ _ _
   iterate 2 refine t_k ?_
   refine t_1 ?_
   iterate 14 refine t_k ?_
   iterate 2 refine t_1 ?_
   refine t_8 ?_
   refine t_4 ?_
   refine t_k ?_
   iterate 3 refine t_1 ?_
   refine t_s (by exact ev_bin rfl (gn rfl) rfl rfl (fun w => hshr _ _ (by decide) (by decide) _ _ w)) ?_
   refine t_s (by exact ev_conv rfl (gn rfl) rfl (fun w => hcv _ w)) ?_
   refine t_41 ?_
   refine t_s (by exact ev_store rfl (gn rfl) rfl rfl rfl Tryd.sizeOf5 rfl (by simp) rfl) ?_
   iterate 2 refine t_k ?_
   refine t_1 ?_
   iterate 2 refine t_k ?_
 change VOk _ _ _ _ _
 iterate 2 refine t_k ?_
 refine t_1 ?_
 iterate 3 refine t_k ?_
 refine vexit ?_
 change VOk _ _ _ _ _
 iterate 2 refine t_k ?_
 refine t_46 ?_
 refine t_s (by exact ev_store rfl (gn rfl) rfl rfl rfl Tryd.sizeOf23 rfl (by simp) rfl) ?_
 refine t_k ?_
 refine vret ?_
 refine post_ret (res1 Tryd.results22 (rv_cell rfl rfl Tryd.underlying23 rfl Tryd.sizeOf23 rfl rfl)) ?_
 intro w' hg
 exact ⟨rfl, hg⟩
theorem bit_0 (a0 a1 a2 a3 : Nat) (s t : Nat) (i r : Int) (w : World) (h0 : decide (i < 0) = false) (h1 : decide ((256 : Int) ≤ i) = false)
  (hq : ∀ (p q : Operand) (w : World), (do eqGuard .quo 3 p q (.int .i64 i) (.int .i64 64); binOp .quo 3 (.int .i64 i) (.int .i64 64) : Sem Value).run Tryd.prog w = .ok (.int .i64 0) w)
  (hr : ∀ (p q : Operand) (w : World), (do eqGuard .rem 3 p q (.int .i64 i) (.int .i64 64); binOp .rem 3 (.int .i64 i) (.int .i64 64) : Sem Value).run Tryd.prog w = .ok (.int .i64 r) w)
  (hs : ∀ (p q : Operand) (w : World), (do eqGuard .shr 48 p q (.int .u64 (a0 : Nat)) (.int .i64 r); binOp .shr 48 (.int .u64 (a0 : Nat)) (.int .i64 r) : Sem Value).run Tryd.prog w = .ok (.int .u64 (s : Nat)) w)
  (ha : ∀ (p q : Operand) (w : World), (do eqGuard .and 48 p q (.int .u64 (s : Nat)) (.int .u64 1); binOp .and 48 (.int .u64 (s : Nat)) (.int .u64 1) : Sem Value).run Tryd.prog w = .ok (.int .u64 (t : Nat)) w)
  (hc : ∀ (w : World), (convert 48 3 (.int .u64 (t : Nat))).run Tryd.prog w = .ok (.int .i64 (t : Nat)) w) :
  Calls Tryd.prog 39 #[.agg #[.int .u64 (a0 : Nat), .int .u64 (a1 : Nat), .int .u64 (a2 : Nat), .int .u64 (a3 : Nat)], .int .i64 i] w fun e w' => e = .returned (.int .i64 (t : Nat)) ∧ Gw w w' := by
 go_enter Tryd.func39, Tryd.ntmps39
 refine ve_go ?_
 simp only [List.map_cons, List.map_nil]
 iterate 9 refine t_k ?_
 refine t_74 ?_
 refine t_k ?_
 refine t_33 ?_
 refine t_42 ?_
 refine t_1 ?_
 iterate 6 refine t_k ?_
 refine t_77 ?_
 refine t_8 ?_
 refine t_4 ?_
 refine t_k ?_
 refine t_78 ?_
 refine t_79 ?_
 refine t_80 ?_
 refine t_s (by exact ev_conv rfl (gn rfl) rfl (fun w => hc w)) ?_
 iterate 2 refine t_k ?_
 refine vret ?_
 refine post_ret (res1 Tryd.results39 (rv_tmp rfl)) ?_
 intro w' hg
 exact ⟨rfl, hg⟩
theorem bit_1 (a0 a1 a2 a3 : Nat) (s t : Nat) (i r : Int) (w : World) (h0 : decide (i < 0) = false) (h1 : decide ((256 : Int) ≤ i) = false)
  (hq : ∀ (p q : Operand) (w : World), (do eqGuard .quo 3 p q (.int .i64 i) (.int .i64 64); binOp .quo 3 (.int .i64 i) (.int .i64 64) : Sem Value).run Tryd.prog w = .ok (.int .i64 1) w)
  (hr : ∀ (p q : Operand) (w : World), (do eqGuard .rem 3 p q (.int .i64 i) (.int .i64 64); binOp .rem 3 (.int .i64 i) (.int .i64 64) : Sem Value).run Tryd.prog w = .ok (.int .i64 r) w)
  (hs : ∀ (p q : Operand) (w : World), (do eqGuard .shr 48 p q (.int .u64 (a1 : Nat)) (.int .i64 r); binOp .shr 48 (.int .u64 (a1 : Nat)) (.int .i64 r) : Sem Value).run Tryd.prog w = .ok (.int .u64 (s : Nat)) w)
  (ha : ∀ (p q : Operand) (w : World), (do eqGuard .and 48 p q (.int .u64 (s : Nat)) (.int .u64 1); binOp .and 48 (.int .u64 (s : Nat)) (.int .u64 1) : Sem Value).run Tryd.prog w = .ok (.int .u64 (t : Nat)) w)
  (hc : ∀ (w : World), (convert 48 3 (.int .u64 (t : Nat))).run Tryd.prog w = .ok (.int .i64 (t : Nat)) w) :
  Calls Tryd.prog 39 #[.agg #[.int .u64 (a0 : Nat), .int .u64 (a1 : Nat), .int .u64 (a2 : Nat), .int .u64 (a3 : Nat)], .int .i64 i] w fun e w' => e = .returned (.int .i64 (t : Nat)) ∧ Gw w w' := by
 go_enter Tryd.func39, Tryd.ntmps39
 refine ve_go ?_
 simp only [List.map_cons, List.map_nil]
 iterate 9 refine t_k ?_
 refine t_74 ?_
 refine t_k ?_
 refine t_33 ?_
 refine t_42 ?_
 refine t_1 ?_
 iterate 6 refine t_k ?_
 refine t_77 ?_
 refine t_8 ?_
 refine t_4 ?_
 refine t_k ?_
 refine t_78 ?_
 refine t_79 ?_
 refine t_80 ?_
 refine t_s (by exact ev_conv rfl (gn rfl) rfl (fun w => hc w)) ?_
 iterate 2 refine t_k ?_
 refine vret ?_
 refine post_ret (res1 Tryd.results39 (rv_tmp rfl)) ?_
 intro w' hg
 exact ⟨rfl, hg⟩
theorem bit_2 (a0 a1 a2 a3 : Nat) (s t : Nat) (i r : Int) (w : World) (h0 : decide (i < 0) = false) (h1 : decide ((256 : Int) ≤ i) = false)
  (hq : ∀ (p q : Operand) (w : World), (do eqGuard .quo 3 p q (.int .i64 i) (.int .i64 64); binOp .quo 3 (.int .i64 i) (.int .i64 64) : Sem Value).run Tryd.prog w = .ok (.int .i64 2) w)
  (hr : ∀ (p q : Operand) (w : World), (do eqGuard .rem 3 p q (.int .i64 i) (.int .i64 64); binOp .rem 3 (.int .i64 i) (.int .i64 64) : Sem Value).run Tryd.prog w = .ok (.int .i64 r) w)
  (hs : ∀ (p q : Operand) (w : World), (do eqGuard .shr 48 p q (.int .u64 (a2 : Nat)) (.int .i64 r); binOp .shr 48 (.int .u64 (a2 : Nat)) (.int .i64 r) : Sem Value).run Tryd.prog w = .ok (.int .u64 (s : Nat)) w)
  (ha : ∀ (p q : Operand) (w : World), (do eqGuard .and 48 p q (.int .u64 (s : Nat)) (.int .u64 1); binOp .and 48 (.int .u64 (s : Nat)) (.int .u64 1) : Sem Value).run Tryd.prog w = .ok (.int .u64 (t : Nat)) w)
  (hc : ∀ (w : World), (convert 48 3 (.int .u64 (t : Nat))).run Tryd.prog w = .ok (.int .i64 (t : Nat)) w) :
  Calls Tryd.prog 39 #[.agg #[.int .u64 (a0 : Nat), .int .u64 (a1 : Nat), .int .u64 (a2 : Nat), .int .u64 (a3 : Nat)], .int .i64 i] w fun e w' => e = .returned (.int .i64 (t : Nat)) ∧ Gw w w' := by
 go_enter Tryd.func39, Tryd.ntmps39
 refine ve_go ?_
 simp only [List.map_cons, List.map_nil]
 iterate 9 refine t_k ?_
 refine t_74 ?_
 refine t_k ?_
 refine t_33 ?_
 refine t_42 ?_
 refine t_1 ?_
 iterate 6 refine t_k ?_
 refine t_77 ?_
 refine t_8 ?_
 refine t_4 ?_
 refine t_k ?_
 refine t_78 ?_
 refine t_79 ?_
 refine t_80 ?_
 refine t_s (by exact ev_conv rfl (gn rfl) rfl (fun w => hc w)) ?_
 iterate 2 refine t_k ?_
 refine vret ?_
 refine post_ret (res1 Tryd.results39 (rv_tmp rfl)) ?_
 intro w' hg
 exact ⟨rfl, hg⟩
theorem bit_3 (a0 a1 a2 a3 : Nat) (s t : Nat) (i r : Int) (w : World) (h0 : decide (i < 0) = false) (h1 : decide ((256 : Int) ≤ i) = false)
  (hq : ∀ (p q : Operand) (w : World), (do eqGuard .quo 3 p q (.int .i64 i) (.int .i64 64); binOp .quo 3 (.int .i64 i) (.int .i64 64) : Sem Value).run Tryd.prog w = .ok (.int .i64 3) w)
  (hr : ∀ (p q : Operand) (w : World), (do eqGuard .rem 3 p q (.int .i64 i) (.int .i64 64); binOp .rem 3 (.int .i64 i) (.int .i64 64) : Sem Value).run Tryd.prog w = .ok (.int .i64 r) w)
  (hs : ∀ (p q : Operand) (w : World), (do eqGuard .shr 48 p q (.int .u64 (a3 : Nat)) (.int .i64 r); binOp .shr 48 (.int .u64 (a3 : Nat)) (.int .i64 r) : Sem Value).run Tryd.prog w = .ok (.int .u64 (s : Nat)) w)
  (ha : ∀ (p q : Operand) (w : World), (do eqGuard .and 48 p q (.int .u64 (s : Nat)) (.int .u64 1); binOp .and 48 (.int .u64 (s : Nat)) (.int .u64 1) : Sem Value).run Tryd.prog w = .ok (.int .u64 (t : Nat)) w)
  (hc : ∀ (w : World), (convert 48 3 (.int .u64 (t : Nat))).run Tryd.prog w = .ok (.int .i64 (t : Nat)) w) :
  Calls Tryd.prog 39 #[.agg #[.int .u64 (a0 : Nat), .int .u64 (a1 : Nat), .int .u64 (a2 : Nat), .int .u64 (a3 : Nat)], .int .i64 i] w fun e w' => e = .returned (.int .i64 (t : Nat)) ∧ Gw w w' := by
 go_enter Tryd.func39, Tryd.ntmps39
 refine ve_go ?_
 simp only [List.map_cons, List.map_nil]
 iterate 9 refine t_k ?_
 refine t_74 ?_
 refine t_k ?_
 refine t_33 ?_
 refine t_42 ?_
 refine t_1 ?_
 iterate 6 refine t_k ?_
 refine t_77 ?_
 refine t_8 ?_
 refine t_4 ?_
 refine t_k ?_
 refine t_78 ?_
 refine t_79 ?_
 refine t_80 ?_
 refine t_s (by exact ev_conv rfl (gn rfl) rfl (fun w => hc w)) ?_
 iterate 2 refine t_k ?_
 refine vret ?_
 refine post_ret (res1 Tryd.results39 (rv_tmp rfl)) ?_
 intro w' hg
 exact ⟨rfl, hg⟩
end Go.Proofs.YtafbhakmkbehiaaDoor
end
