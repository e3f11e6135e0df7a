import Derived.Test.YtbnfanmolphliaaDoorProg
import Derived.Test.YtbnfanmolphliaaDoorVo
namespace Go.Proofs.YtbnfanmolphliaaDoor
open Go.RowKit Go.Toll
set_option maxHeartbeats 400000
theorem sub_core (a0 a1 a2 a3 b0 b1 b2 b3 s0 s1 s2 s3 c0 c1 c2 c3 : Nat) (w : World)
   (h0 : ∀ w : World, (callFunc 67 #[.int .u64 (a0 : Nat), .int .u64 (b0 : Nat), .int .u64 0]).run Tryd.prog w = .ok (.value (.tuple #[.int .u64 (s0 : Nat), .int .u64 (c0 : Nat)])) w)
   (h1 : ∀ w : World, (callFunc 67 #[.int .u64 (a1 : Nat), .int .u64 (b1 : Nat), .int .u64 (c0 : Nat)]).run Tryd.prog w = .ok (.value (.tuple #[.int .u64 (s1 : Nat), .int .u64 (c1 : Nat)])) w)
   (h2 : ∀ w : World, (callFunc 67 #[.int .u64 (a2 : Nat), .int .u64 (b2 : Nat), .int .u64 (c1 : Nat)]).run Tryd.prog w = .ok (.value (.tuple #[.int .u64 (s2 : Nat), .int .u64 (c2 : Nat)])) w)
   (h3 : ∀ w : World, (callFunc 67 #[.int .u64 (a3 : Nat), .int .u64 (b3 : Nat), .int .u64 (c2 : Nat)]).run Tryd.prog w = .ok (.value (.tuple #[.int .u64 (s3 : Nat), .int .u64 (c3 : Nat)])) w) :
    Calls Tryd.prog 61 #[.agg #[.int .u64 (a0 : Nat), .int .u64 (a1 : Nat), .int .u64 (a2 : Nat), .int .u64 (a3 : Nat)], .agg #[.int .u64 (b0 : Nat), .int .u64 (b1 : Nat), .int .u64 (b2 : Nat), .int .u64 (b3 : Nat)]] w fun e w' => e = .returned (.tuple #[.agg #[.int .u64 (s0 : Nat), .int .u64 (s1 : Nat), .int .u64 (s2 : Nat), .int .u64 (s3 : Nat)], .int .u64 (c3 : Nat)]) ∧ Gw w w' := by
  go_enter Tryd.func61, Tryd.ntmps61
  refine ve_go ?_
  simp only [List.map_cons, List.map_nil]
  refine vseq ?_
  apply vrp
  · apply VE.cons
    · exact ev_box rfl rfl (gn rfl) rfl
    simp only [nm, seval]
    apply VE.cons
    · exact ev_box rfl rfl (gn rfl) rfl
    simp only [nm, seval]
    apply VE.cons
    · exact ev_alloc rfl rfl (gn rfl) Tryd.zeroValue59
    simp only [nm, seval]
    apply VE.cons
    · exact ev_assign rfl (gn rfl)
    simp only [nm, seval]
    exact VE.nil _
  · kernel_rfl
  change VOk _ _ _ _ _
  refine vseq ?_
  apply vrp
  · apply VE.cons
    · exact ev_alloc rfl rfl (gn rfl) Tryd.zeroValue59
    simp only [nm, seval]
    exact VE.nil _
  · kernel_rfl
  change VOk _ _ _ _ _
  refine vseq ?_
  apply vrp
  · apply VE.cons
    · exact ev_assign rfl (gn rfl)
    simp only [nm, seval]
    exact VE.nil _
  · kernel_rfl
  change VOk _ _ _ _ _
  refine vseq ?_
  refine vseq ?_
  apply vrp
  · apply VE.cons
    · exact ev_move rfl (gn rfl)
    simp only [nm, seval]
    exact VE.nil _
  · kernel_rfl
  change VOk _ _ _ _ _
  refine vblock ?_
  refine vloop 5 ?_
  iterate 4
    change VOk _ _ _ _ _
    refine vseq ?_
    apply vrp
    · apply VE.cons
      · refine ev_pure' (gn rfl) (fun ρ w => by simp only [VS.act, SV.c, List.map_cons, List.map_nil]; go_simp; exact rfl) (fun _ _ => rfl)
      simp only [nm, seval]
      exact VE.nil _
    · kernel_rfl
    change VOk _ _ _ _ _
    refine vseq ?_
    refine vcond_t rfl ?_
    refine vskip ?_
    change VOk _ _ _ _ _
    refine vseq ?_
    refine vblock ?_
    refine vseq ?_
    apply vrp
    · apply VE.cons
      · exact ev_move rfl (gn rfl)
      simp only [nm, seval]
      apply VE.cons
      · exact ev_assign rfl (gn rfl)
      simp only [nm, seval]
      exact VE.nil _
    · kernel_rfl
    change VOk _ _ _ _ _
    apply vrd (by kernel_rfl)
    · apply VE.cons
      · exact ev_move rfl (gn rfl)
      simp only [nm, seval]
      apply VE.cons
      · exact ev_move rfl (gn rfl)
      simp only [nm, seval]
      apply VE.cons
      · first | exact ev_index rfl (gn rfl) rfl rfl Tryd.underlying59 Tryd.sizeOf28 (by decide) (by decide) | exact ev_indexx rfl (gn rfl) rfl rfl Tryd.underlying59 Tryd.sizeOf28 (by decide) (by decide)
      simp only [nm, seval]
      apply VE.cons
      · first | exact ev_load1 rfl (gn rfl) rfl rfl Tryd.underlying28 rfl rfl | exact ev_loadx1 rfl (gn rfl) rfl Tryd.underlying28 rfl (by first | assumption | exact hm 0 _ rfl | exact hm 1 _ rfl | exact hm 2 _ rfl | exact hm 3 _ rfl)
      simp only [nm, seval]
      apply VE.cons
      · exact ev_move rfl (gn rfl)
      simp only [nm, seval]
      apply VE.cons
      · first | exact ev_index rfl (gn rfl) rfl rfl Tryd.underlying59 Tryd.sizeOf28 (by decide) (by decide) | exact ev_indexx rfl (gn rfl) rfl rfl Tryd.underlying59 Tryd.sizeOf28 (by decide) (by decide)
      simp only [nm, seval]
      apply VE.cons
      · first | exact ev_load1 rfl (gn rfl) rfl rfl Tryd.underlying28 rfl rfl | exact ev_loadx1 rfl (gn rfl) rfl Tryd.underlying28 rfl (by first | assumption | exact hm 0 _ rfl | exact hm 1 _ rfl | exact hm 2 _ rfl | exact hm 3 _ rfl)
      simp only [nm, seval]
      apply VE.cons
      · exact ev_move rfl (gn rfl)
      simp only [nm, seval]
      apply VE.cons
      · exact ev_extern rfl (gn rfl) rfl (by intro w; first | exact h0 w | exact h1 w | exact h2 w | exact h3 w)
      simp only [nm, seval]
      apply VE.cons
      · exact ev_move rfl (gn rfl)
      simp only [nm, seval]
      apply VE.cons
      · exact ev_extract rfl (gn rfl) rfl rfl
      simp only [nm, seval]
      apply VE.cons
      · exact ev_extract rfl (gn rfl) rfl rfl
      simp only [nm, seval]
      apply VE.cons
      · first | exact ev_index rfl (gn rfl) rfl rfl Tryd.underlying59 Tryd.sizeOf28 (by decide) (by decide) | exact ev_indexx rfl (gn rfl) rfl rfl Tryd.underlying59 Tryd.sizeOf28 (by decide) (by decide)
      simp only [nm, seval]
      apply VE.cons
      · exact ev_store rfl (gn rfl) rfl rfl rfl Tryd.sizeOf28 rfl (by simp) rfl
      simp only [nm, seval]
      apply VE.cons
      · exact ev_assign rfl (gn rfl)
      simp only [nm, seval]
      exact VE.nil _
    · kernel_rfl
    change VOk _ _ _ _ _
    apply vrp
    · apply VE.cons
      · refine ev_pure' (gn rfl) (fun ρ w => by simp only [VS.act, SV.c, List.map_cons, List.map_nil]; go_simp; exact rfl) (fun _ _ => rfl)
      simp only [nm, seval]
      apply VE.cons
      · exact ev_move rfl (gn rfl)
      simp only [nm, seval]
      exact VE.nil _
    · kernel_rfl
  change VOk _ _ _ _ _
  refine vseq ?_
  apply vrp
  · apply VE.cons
    · refine ev_pure' (gn rfl) (fun ρ w => by simp only [VS.act, SV.c, List.map_cons, List.map_nil]; go_simp; exact rfl) (fun _ _ => rfl)
    simp only [nm, seval]
    exact VE.nil _
  · kernel_rfl
  change VOk _ _ _ _ _
  refine vseq ?_
  refine vcond_f rfl ?_
  refine vexit ?_
  change VOk _ _ _ _ _
  refine vseq ?_
  apply vrp
  · apply VE.cons
    · first | exact ev_load rfl (gn rfl) rfl rfl Tryd.underlying59 rfl Tryd.sizeOf59 rfl rfl | exact ev_loadx rfl (gn rfl) rfl Tryd.underlying59 rfl Tryd.sizeOf59 (by assumption) rfl
    simp only [nm, seval]
    apply VE.cons
    · exact ev_move rfl (gn rfl)
    simp only [nm, seval]
    apply VE.cons
    · exact ev_store rfl (gn rfl) rfl rfl rfl Tryd.sizeOf59 rfl (by simp) rfl
    simp only [nm, seval]
    apply VE.cons
    · exact ev_assign rfl (gn rfl)
    simp only [nm, seval]
    exact VE.nil _
  · kernel_rfl
  change VOk _ _ _ _ _
  refine vret ?_
  refine post_ret (res2 Tryd.results61 (rv_cell rfl rfl Tryd.underlying59 rfl Tryd.sizeOf59 rfl rfl) (rv_tmp rfl)) ?_
  intro w' hg
  exact ⟨rfl, hg⟩
theorem add_core (a0 a1 a2 a3 b0 b1 b2 b3 s0 s1 s2 s3 c0 c1 c2 c3 : Nat) (w : World)
   (h0 : ∀ w : World, (callFunc 66 #[.int .u64 (a0 : Nat), .int .u64 (b0 : Nat), .int .u64 0]).run Tryd.prog w = .ok (.value (.tuple #[.int .u64 (s0 : Nat), .int .u64 (c0 : Nat)])) w)
   (h1 : ∀ w : World, (callFunc 66 #[.int .u64 (a1 : Nat), .int .u64 (b1 : Nat), .int .u64 (c0 : Nat)]).run Tryd.prog w = .ok (.value (.tuple #[.int .u64 (s1 : Nat), .int .u64 (c1 : Nat)])) w)
   (h2 : ∀ w : World, (callFunc 66 #[.int .u64 (a2 : Nat), .int .u64 (b2 : Nat), .int .u64 (c1 : Nat)]).run Tryd.prog w = .ok (.value (.tuple #[.int .u64 (s2 : Nat), .int .u64 (c2 : Nat)])) w)
   (h3 : ∀ w : World, (callFunc 66 #[.int .u64 (a3 : Nat), .int .u64 (b3 : Nat), .int .u64 (c2 : Nat)]).run Tryd.prog w = .ok (.value (.tuple #[.int .u64 (s3 : Nat), .int .u64 (c3 : Nat)])) w) :
    Calls Tryd.prog 60 #[.agg #[.int .u64 (a0 : Nat), .int .u64 (a1 : Nat), .int .u64 (a2 : Nat), .int .u64 (a3 : Nat)], .agg #[.int .u64 (b0 : Nat), .int .u64 (b1 : Nat), .int .u64 (b2 : Nat), .int .u64 (b3 : Nat)]] w fun e w' => e = .returned (.tuple #[.agg #[.int .u64 (s0 : Nat), .int .u64 (s1 : Nat), .int .u64 (s2 : Nat), .int .u64 (s3 : Nat)], .int .u64 (c3 : Nat)]) ∧ Gw w w' := by
  go_enter Tryd.func60, Tryd.ntmps60
  refine ve_go ?_
  simp only [List.map_cons, List.map_nil]
  refine vseq ?_
  apply vrp
  · apply VE.cons
    · exact ev_box rfl rfl (gn rfl) rfl
    simp only [nm, seval]
    apply VE.cons
    · exact ev_box rfl rfl (gn rfl) rfl
    simp only [nm, seval]
    apply VE.cons
    · exact ev_alloc rfl rfl (gn rfl) Tryd.zeroValue59
    simp only [nm, seval]
    apply VE.cons
    · exact ev_assign rfl (gn rfl)
    simp only [nm, seval]
    exact VE.nil _
  · kernel_rfl
  change VOk _ _ _ _ _
  refine vseq ?_
  apply vrp
  · apply VE.cons
    · exact ev_alloc rfl rfl (gn rfl) Tryd.zeroValue59
    simp only [nm, seval]
    exact VE.nil _
  · kernel_rfl
  change VOk _ _ _ _ _
  refine vseq ?_
  apply vrp
  · apply VE.cons
    · exact ev_assign rfl (gn rfl)
    simp only [nm, seval]
    exact VE.nil _
  · kernel_rfl
  change VOk _ _ _ _ _
  refine vseq ?_
  refine vseq ?_
  apply vrp
  · apply VE.cons
    · exact ev_move rfl (gn rfl)
    simp only [nm, seval]
    exact VE.nil _
  · kernel_rfl
  change VOk _ _ _ _ _
  refine vblock ?_
  refine vloop 5 ?_
  iterate 4
    change VOk _ _ _ _ _
    refine vseq ?_
    apply vrp
    · apply VE.cons
      · refine ev_pure' (gn rfl) (fun ρ w => by simp only [VS.act, SV.c, List.map_cons, List.map_nil]; go_simp; exact rfl) (fun _ _ => rfl)
      simp only [nm, seval]
      exact VE.nil _
    · kernel_rfl
    change VOk _ _ _ _ _
    refine vseq ?_
    refine vcond_t rfl ?_
    refine vskip ?_
    change VOk _ _ _ _ _
    refine vseq ?_
    refine vblock ?_
    refine vseq ?_
    apply vrp
    · apply VE.cons
      · exact ev_move rfl (gn rfl)
      simp only [nm, seval]
      apply VE.cons
      · exact ev_assign rfl (gn rfl)
      simp only [nm, seval]
      exact VE.nil _
    · kernel_rfl
    change VOk _ _ _ _ _
    apply vrd (by kernel_rfl)
    · apply VE.cons
      · exact ev_move rfl (gn rfl)
      simp only [nm, seval]
      apply VE.cons
      · exact ev_move rfl (gn rfl)
      simp only [nm, seval]
      apply VE.cons
      · first | exact ev_index rfl (gn rfl) rfl rfl Tryd.underlying59 Tryd.sizeOf28 (by decide) (by decide) | exact ev_indexx rfl (gn rfl) rfl rfl Tryd.underlying59 Tryd.sizeOf28 (by decide) (by decide)
      simp only [nm, seval]
      apply VE.cons
      · first | exact ev_load1 rfl (gn rfl) rfl rfl Tryd.underlying28 rfl rfl | exact ev_loadx1 rfl (gn rfl) rfl Tryd.underlying28 rfl (by first | assumption | exact hm 0 _ rfl | exact hm 1 _ rfl | exact hm 2 _ rfl | exact hm 3 _ rfl)
      simp only [nm, seval]
      apply VE.cons
      · exact ev_move rfl (gn rfl)
      simp only [nm, seval]
      apply VE.cons
      · first | exact ev_index rfl (gn rfl) rfl rfl Tryd.underlying59 Tryd.sizeOf28 (by decide) (by decide) | exact ev_indexx rfl (gn rfl) rfl rfl Tryd.underlying59 Tryd.sizeOf28 (by decide) (by decide)
      simp only [nm, seval]
      apply VE.cons
      · first | exact ev_load1 rfl (gn rfl) rfl rfl Tryd.underlying28 rfl rfl | exact ev_loadx1 rfl (gn rfl) rfl Tryd.underlying28 rfl (by first | assumption | exact hm 0 _ rfl | exact hm 1 _ rfl | exact hm 2 _ rfl | exact hm 3 _ rfl)
      simp only [nm, seval]
      apply VE.cons
      · exact ev_move rfl (gn rfl)
      simp only [nm, seval]
      apply VE.cons
      · exact ev_extern rfl (gn rfl) rfl (by intro w; first | exact h0 w | exact h1 w | exact h2 w | exact h3 w)
      simp only [nm, seval]
      apply VE.cons
      · exact ev_move rfl (gn rfl)
      simp only [nm, seval]
      apply VE.cons
      · exact ev_extract rfl (gn rfl) rfl rfl
      simp only [nm, seval]
      apply VE.cons
      · exact ev_extract rfl (gn rfl) rfl rfl
      simp only [nm, seval]
      apply VE.cons
      · first | exact ev_index rfl (gn rfl) rfl rfl Tryd.underlying59 Tryd.sizeOf28 (by decide) (by decide) | exact ev_indexx rfl (gn rfl) rfl rfl Tryd.underlying59 Tryd.sizeOf28 (by decide) (by decide)
      simp only [nm, seval]
      apply VE.cons
      · exact ev_store rfl (gn rfl) rfl rfl rfl Tryd.sizeOf28 rfl (by simp) rfl
      simp only [nm, seval]
      apply VE.cons
      · exact ev_assign rfl (gn rfl)
      simp only [nm, seval]
      exact VE.nil _
    · kernel_rfl
    change VOk _ _ _ _ _
    apply vrp
    · apply VE.cons
      · refine ev_pure' (gn rfl) (fun ρ w => by simp only [VS.act, SV.c, List.map_cons, List.map_nil]; go_simp; exact rfl) (fun _ _ => rfl)
      simp only [nm, seval]
      apply VE.cons
      · exact ev_move rfl (gn rfl)
      simp only [nm, seval]
      exact VE.nil _
    · kernel_rfl
  change VOk _ _ _ _ _
  refine vseq ?_
  apply vrp
  · apply VE.cons
    · refine ev_pure' (gn rfl) (fun ρ w => by simp only [VS.act, SV.c, List.map_cons, List.map_nil]; go_simp; exact rfl) (fun _ _ => rfl)
    simp only [nm, seval]
    exact VE.nil _
  · kernel_rfl
  change VOk _ _ _ _ _
  refine vseq ?_
  refine vcond_f rfl ?_
  refine vexit ?_
  change VOk _ _ _ _ _
  refine vseq ?_
  apply vrp
  · apply VE.cons
    · first | exact ev_load rfl (gn rfl) rfl rfl Tryd.underlying59 rfl Tryd.sizeOf59 rfl rfl | exact ev_loadx rfl (gn rfl) rfl Tryd.underlying59 rfl Tryd.sizeOf59 (by assumption) rfl
    simp only [nm, seval]
    apply VE.cons
    · exact ev_move rfl (gn rfl)
    simp only [nm, seval]
    apply VE.cons
    · exact ev_store rfl (gn rfl) rfl rfl rfl Tryd.sizeOf59 rfl (by simp) rfl
    simp only [nm, seval]
    apply VE.cons
    · exact ev_assign rfl (gn rfl)
    simp only [nm, seval]
    exact VE.nil _
  · kernel_rfl
  change VOk _ _ _ _ _
  refine vret ?_
  refine post_ret (res2 Tryd.results60 (rv_cell rfl rfl Tryd.underlying59 rfl Tryd.sizeOf59 rfl rfl) (rv_tmp rfl)) ?_
  intro w' hg
  exact ⟨rfl, hg⟩
theorem shrink_01 (b : Nat) (m0 m1 m2 m3 a0 a1 a2 a3 d0 d1 d2 d3 : Nat) (w : World) (hm : ∀ (j : Nat) (v : Value), [.int .u64 (m0 : Nat), .int .u64 (m1 : Nat), .int .u64 (m2 : Nat), .int .u64 (m3 : Nat)][j]? = some v → w.cell? ⟨b, 0 + j, none⟩ = some v)
  (hs : ∀ w', Gw w w' → Calls Tryd.prog 61 #[.agg #[.int .u64 (a0 : Nat), .int .u64 (a1 : Nat), .int .u64 (a2 : Nat), .int .u64 (a3 : Nat)], .agg #[.int .u64 (m0 : Nat), .int .u64 (m1 : Nat), .int .u64 (m2 : Nat), .int .u64 (m3 : Nat)]] w' fun e w'' => e = .returned (.tuple #[.agg #[.int .u64 (d0 : Nat), .int .u64 (d1 : Nat), .int .u64 (d2 : Nat), .int .u64 (d3 : Nat)], .int .u64 1]) ∧ Gw w' w'') :
  Calls Tryd.prog 59 #[.pointer (some ⟨b, 0, none⟩), .agg #[.int .u64 (a0 : Nat), .int .u64 (a1 : Nat), .int .u64 (a2 : Nat), .int .u64 (a3 : Nat)], .int .u64 0] w fun e w' => e = .returned (.agg #[.int .u64 (a0 : Nat), .int .u64 (a1 : Nat), .int .u64 (a2 : Nat), .int .u64 (a3 : Nat)]) ∧ Gw w w' := by
  go_enter Tryd.func59, Tryd.ntmps59
  refine ve_go ?_
  simp only [List.map_cons, List.map_nil]
  refine vseq ?_
  apply vrp
  · apply VE.cons
    · exact ev_box rfl rfl (gn rfl) rfl
    simp only [nm, seval]
    apply VE.cons
    · exact ev_alloc rfl rfl (gn rfl) Tryd.zeroValue59
    simp only [nm, seval]
    exact VE.nil _
  · kernel_rfl
  change VOk _ _ _ _ _
  refine vseq ?_
  apply vrd (by kernel_rfl)
  · apply VE.cons
    · first | exact ev_load rfl (gn rfl) rfl rfl Tryd.underlying59 rfl Tryd.sizeOf59 rfl rfl | exact ev_loadx rfl (gn rfl) rfl Tryd.underlying59 rfl Tryd.sizeOf59 (by assumption) rfl
    simp only [nm, seval]
    apply VE.cons
    · exact ev_move rfl (gn rfl)
    simp only [nm, seval]
    apply VE.cons
    · first | exact ev_nil rfl (gn rfl) rfl | exact ev_nilx rfl (gn rfl) rfl
    simp only [nm, seval]
    apply VE.cons
    · first | exact ev_field rfl (gn rfl) rfl Tryd.underlying83 rfl Tryd.sizeOf59 | exact ev_fieldx rfl (gn rfl) rfl Tryd.underlying83 rfl Tryd.sizeOf59
    simp only [nm, seval]
    apply VE.cons
    · first | exact ev_load rfl (gn rfl) rfl rfl Tryd.underlying59 rfl Tryd.sizeOf59 rfl rfl | exact ev_loadx rfl (gn rfl) rfl Tryd.underlying59 rfl Tryd.sizeOf59 (by assumption) rfl
    simp only [nm, seval]
    apply VE.cons
    · exact ev_call rfl (gn rfl) rfl (en_of Tryd.func61 (by kernel_rfl) rfl) hs
    simp only [nm, seval]
    apply VE.cons
    · exact ev_move rfl (gn rfl)
    simp only [nm, seval]
    apply VE.cons
    · exact ev_extract rfl (gn rfl) rfl rfl
    simp only [nm, seval]
    apply VE.cons
    · exact ev_extract rfl (gn rfl) rfl rfl
    simp only [nm, seval]
    apply VE.cons
    · exact ev_alloc rfl rfl (gn rfl) Tryd.zeroValue59
    simp only [nm, seval]
    apply VE.cons
    · exact ev_store rfl (gn rfl) rfl rfl rfl Tryd.sizeOf59 rfl (by simp) rfl
    simp only [nm, seval]
    apply VE.cons
    · exact ev_assign rfl (gn rfl)
    simp only [nm, seval]
    exact VE.nil _
  · kernel_rfl
  change VOk _ _ _ _ _
  refine vseq ?_
  refine vseq ?_
  apply vrp
  · apply VE.cons
    · exact ev_move rfl (gn rfl)
    simp only [nm, seval]
    apply VE.cons
    · refine ev_pure' (gn rfl) (fun ρ w => by simp only [VS.act, SV.c, List.map_cons, List.map_nil]; go_simp; exact rfl) (fun _ _ => rfl)
    simp only [nm, seval]
    apply VE.cons
    · exact ev_move rfl (gn rfl)
    simp only [nm, seval]
    apply VE.cons
    · first | exact Ev.skip (fun _ => rfl) | exact ev_move rfl (fun _ => rfl)
    simp only [nm, seval]
    apply VE.cons
    · first | exact Ev.skip (fun _ => rfl) | refine ev_pure' (fun _ => rfl) (fun ρ w => by simp only [VS.act, SV.c, List.map_cons, List.map_nil]; go_simp; exact rfl) (fun _ _ => rfl)
    simp only [nm, seval]
    apply VE.cons
    · refine ev_pure' (gn rfl) (fun ρ w => by simp only [VS.act, SV.c, List.map_cons, List.map_nil]; go_simp; exact rfl) (fun _ _ => rfl)
    simp only [nm, seval]
    exact VE.nil _
  · kernel_rfl
  change VOk _ _ _ _ _
  refine vcond_t rfl ?_
  refine vseq ?_
  apply vrp
  · apply VE.cons
    · first | exact ev_load rfl (gn rfl) rfl rfl Tryd.underlying59 rfl Tryd.sizeOf59 rfl rfl | exact ev_loadx rfl (gn rfl) rfl Tryd.underlying59 rfl Tryd.sizeOf59 (by assumption) rfl
    simp only [nm, seval]
    apply VE.cons
    · exact ev_store rfl (gn rfl) rfl rfl rfl Tryd.sizeOf59 rfl (by simp) rfl
    simp only [nm, seval]
    exact VE.nil _
  · kernel_rfl
  change VOk _ _ _ _ _
  refine vret ?_
  refine post_ret (res1 Tryd.results59 (rv_cell rfl rfl Tryd.underlying59 rfl Tryd.sizeOf59 rfl rfl)) ?_
  intro w' hg
  exact ⟨rfl, hg⟩
theorem shrink_00 (b : Nat) (m0 m1 m2 m3 a0 a1 a2 a3 d0 d1 d2 d3 : Nat) (w : World) (hm : ∀ (j : Nat) (v : Value), [.int .u64 (m0 : Nat), .int .u64 (m1 : Nat), .int .u64 (m2 : Nat), .int .u64 (m3 : Nat)][j]? = some v → w.cell? ⟨b, 0 + j, none⟩ = some v)
  (hs : ∀ w', Gw w w' → Calls Tryd.prog 61 #[.agg #[.int .u64 (a0 : Nat), .int .u64 (a1 : Nat), .int .u64 (a2 : Nat), .int .u64 (a3 : Nat)], .agg #[.int .u64 (m0 : Nat), .int .u64 (m1 : Nat), .int .u64 (m2 : Nat), .int .u64 (m3 : Nat)]] w' fun e w'' => e = .returned (.tuple #[.agg #[.int .u64 (d0 : Nat), .int .u64 (d1 : Nat), .int .u64 (d2 : Nat), .int .u64 (d3 : Nat)], .int .u64 0]) ∧ Gw w' w'') :
  Calls Tryd.prog 59 #[.pointer (some ⟨b, 0, none⟩), .agg #[.int .u64 (a0 : Nat), .int .u64 (a1 : Nat), .int .u64 (a2 : Nat), .int .u64 (a3 : Nat)], .int .u64 0] w fun e w' => e = .returned (.agg #[.int .u64 (d0 : Nat), .int .u64 (d1 : Nat), .int .u64 (d2 : Nat), .int .u64 (d3 : Nat)]) ∧ Gw w w' := by
  go_enter Tryd.func59, Tryd.ntmps59
  refine ve_go ?_
  simp only [List.map_cons, List.map_nil]
  refine vseq ?_
  apply vrp
  · apply VE.cons
    · exact ev_box rfl rfl (gn rfl) rfl
    simp only [nm, seval]
    apply VE.cons
    · exact ev_alloc rfl rfl (gn rfl) Tryd.zeroValue59
    simp only [nm, seval]
    exact VE.nil _
  · kernel_rfl
  change VOk _ _ _ _ _
  refine vseq ?_
  apply vrd (by kernel_rfl)
  · apply VE.cons
    · first | exact ev_load rfl (gn rfl) rfl rfl Tryd.underlying59 rfl Tryd.sizeOf59 rfl rfl | exact ev_loadx rfl (gn rfl) rfl Tryd.underlying59 rfl Tryd.sizeOf59 (by assumption) rfl
    simp only [nm, seval]
    apply VE.cons
    · exact ev_move rfl (gn rfl)
    simp only [nm, seval]
    apply VE.cons
    · first | exact ev_nil rfl (gn rfl) rfl | exact ev_nilx rfl (gn rfl) rfl
    simp only [nm, seval]
    apply VE.cons
    · first | exact ev_field rfl (gn rfl) rfl Tryd.underlying83 rfl Tryd.sizeOf59 | exact ev_fieldx rfl (gn rfl) rfl Tryd.underlying83 rfl Tryd.sizeOf59
    simp only [nm, seval]
    apply VE.cons
    · first | exact ev_load rfl (gn rfl) rfl rfl Tryd.underlying59 rfl Tryd.sizeOf59 rfl rfl | exact ev_loadx rfl (gn rfl) rfl Tryd.underlying59 rfl Tryd.sizeOf59 (by assumption) rfl
    simp only [nm, seval]
    apply VE.cons
    · exact ev_call rfl (gn rfl) rfl (en_of Tryd.func61 (by kernel_rfl) rfl) hs
    simp only [nm, seval]
    apply VE.cons
    · exact ev_move rfl (gn rfl)
    simp only [nm, seval]
    apply VE.cons
    · exact ev_extract rfl (gn rfl) rfl rfl
    simp only [nm, seval]
    apply VE.cons
    · exact ev_extract rfl (gn rfl) rfl rfl
    simp only [nm, seval]
    apply VE.cons
    · exact ev_alloc rfl rfl (gn rfl) Tryd.zeroValue59
    simp only [nm, seval]
    apply VE.cons
    · exact ev_store rfl (gn rfl) rfl rfl rfl Tryd.sizeOf59 rfl (by simp) rfl
    simp only [nm, seval]
    apply VE.cons
    · exact ev_assign rfl (gn rfl)
    simp only [nm, seval]
    exact VE.nil _
  · kernel_rfl
  change VOk _ _ _ _ _
  refine vseq ?_
  refine vseq ?_
  apply vrp
  · apply VE.cons
    · exact ev_move rfl (gn rfl)
    simp only [nm, seval]
    apply VE.cons
    · refine ev_pure' (gn rfl) (fun ρ w => by simp only [VS.act, SV.c, List.map_cons, List.map_nil]; go_simp; exact rfl) (fun _ _ => rfl)
    simp only [nm, seval]
    apply VE.cons
    · exact ev_move rfl (gn rfl)
    simp only [nm, seval]
    apply VE.cons
    · first | exact Ev.skip (fun _ => rfl) | exact ev_move rfl (fun _ => rfl)
    simp only [nm, seval]
    apply VE.cons
    · first | exact Ev.skip (fun _ => rfl) | refine ev_pure' (fun _ => rfl) (fun ρ w => by simp only [VS.act, SV.c, List.map_cons, List.map_nil]; go_simp; exact rfl) (fun _ _ => rfl)
    simp only [nm, seval]
    apply VE.cons
    · refine ev_pure' (gn rfl) (fun ρ w => by simp only [VS.act, SV.c, List.map_cons, List.map_nil]; go_simp; exact rfl) (fun _ _ => rfl)
    simp only [nm, seval]
    exact VE.nil _
  · kernel_rfl
  change VOk _ _ _ _ _
  refine vcond_f rfl ?_
  refine vskip ?_
  change VOk _ _ _ _ _
  refine vseq ?_
  apply vrp
  · apply VE.cons
    · first | exact ev_load rfl (gn rfl) rfl rfl Tryd.underlying59 rfl Tryd.sizeOf59 rfl rfl | exact ev_loadx rfl (gn rfl) rfl Tryd.underlying59 rfl Tryd.sizeOf59 (by assumption) rfl
    simp only [nm, seval]
    apply VE.cons
    · exact ev_store rfl (gn rfl) rfl rfl rfl Tryd.sizeOf59 rfl (by simp) rfl
    simp only [nm, seval]
    exact VE.nil _
  · kernel_rfl
  change VOk _ _ _ _ _
  refine vret ?_
  refine post_ret (res1 Tryd.results59 (rv_cell rfl rfl Tryd.underlying59 rfl Tryd.sizeOf59 rfl rfl)) ?_
  intro w' hg
  exact ⟨rfl, hg⟩
theorem shrink_10 (b : Nat) (m0 m1 m2 m3 a0 a1 a2 a3 d0 d1 d2 d3 : Nat) (w : World) (hm : ∀ (j : Nat) (v : Value), [.int .u64 (m0 : Nat), .int .u64 (m1 : Nat), .int .u64 (m2 : Nat), .int .u64 (m3 : Nat)][j]? = some v → w.cell? ⟨b, 0 + j, none⟩ = some v)
  (hs : ∀ w', Gw w w' → Calls Tryd.prog 61 #[.agg #[.int .u64 (a0 : Nat), .int .u64 (a1 : Nat), .int .u64 (a2 : Nat), .int .u64 (a3 : Nat)], .agg #[.int .u64 (m0 : Nat), .int .u64 (m1 : Nat), .int .u64 (m2 : Nat), .int .u64 (m3 : Nat)]] w' fun e w'' => e = .returned (.tuple #[.agg #[.int .u64 (d0 : Nat), .int .u64 (d1 : Nat), .int .u64 (d2 : Nat), .int .u64 (d3 : Nat)], .int .u64 0]) ∧ Gw w' w'') :
  Calls Tryd.prog 59 #[.pointer (some ⟨b, 0, none⟩), .agg #[.int .u64 (a0 : Nat), .int .u64 (a1 : Nat), .int .u64 (a2 : Nat), .int .u64 (a3 : Nat)], .int .u64 1] w fun e w' => e = .returned (.agg #[.int .u64 (d0 : Nat), .int .u64 (d1 : Nat), .int .u64 (d2 : Nat), .int .u64 (d3 : Nat)]) ∧ Gw w w' := by
  go_enter Tryd.func59, Tryd.ntmps59
  refine ve_go ?_
  simp only [List.map_cons, List.map_nil]
  refine vseq ?_
  apply vrp
  · apply VE.cons
    · exact ev_box rfl rfl (gn rfl) rfl
    simp only [nm, seval]
    apply VE.cons
    · exact ev_alloc rfl rfl (gn rfl) Tryd.zeroValue59
    simp only [nm, seval]
    exact VE.nil _
  · kernel_rfl
  change VOk _ _ _ _ _
  refine vseq ?_
  apply vrd (by kernel_rfl)
  · apply VE.cons
    · first | exact ev_load rfl (gn rfl) rfl rfl Tryd.underlying59 rfl Tryd.sizeOf59 rfl rfl | exact ev_loadx rfl (gn rfl) rfl Tryd.underlying59 rfl Tryd.sizeOf59 (by assumption) rfl
    simp only [nm, seval]
    apply VE.cons
    · exact ev_move rfl (gn rfl)
    simp only [nm, seval]
    apply VE.cons
    · first | exact ev_nil rfl (gn rfl) rfl | exact ev_nilx rfl (gn rfl) rfl
    simp only [nm, seval]
    apply VE.cons
    · first | exact ev_field rfl (gn rfl) rfl Tryd.underlying83 rfl Tryd.sizeOf59 | exact ev_fieldx rfl (gn rfl) rfl Tryd.underlying83 rfl Tryd.sizeOf59
    simp only [nm, seval]
    apply VE.cons
    · first | exact ev_load rfl (gn rfl) rfl rfl Tryd.underlying59 rfl Tryd.sizeOf59 rfl rfl | exact ev_loadx rfl (gn rfl) rfl Tryd.underlying59 rfl Tryd.sizeOf59 (by assumption) rfl
    simp only [nm, seval]
    apply VE.cons
    · exact ev_call rfl (gn rfl) rfl (en_of Tryd.func61 (by kernel_rfl) rfl) hs
    simp only [nm, seval]
    apply VE.cons
    · exact ev_move rfl (gn rfl)
    simp only [nm, seval]
    apply VE.cons
    · exact ev_extract rfl (gn rfl) rfl rfl
    simp only [nm, seval]
    apply VE.cons
    · exact ev_extract rfl (gn rfl) rfl rfl
    simp only [nm, seval]
    apply VE.cons
    · exact ev_alloc rfl rfl (gn rfl) Tryd.zeroValue59
    simp only [nm, seval]
    apply VE.cons
    · exact ev_store rfl (gn rfl) rfl rfl rfl Tryd.sizeOf59 rfl (by simp) rfl
    simp only [nm, seval]
    apply VE.cons
    · exact ev_assign rfl (gn rfl)
    simp only [nm, seval]
    exact VE.nil _
  · kernel_rfl
  change VOk _ _ _ _ _
  refine vseq ?_
  refine vseq ?_
  apply vrp
  · apply VE.cons
    · exact ev_move rfl (gn rfl)
    simp only [nm, seval]
    apply VE.cons
    · refine ev_pure' (gn rfl) (fun ρ w => by simp only [VS.act, SV.c, List.map_cons, List.map_nil]; go_simp; exact rfl) (fun _ _ => rfl)
    simp only [nm, seval]
    apply VE.cons
    · exact ev_move rfl (gn rfl)
    simp only [nm, seval]
    apply VE.cons
    · first | exact Ev.skip (fun _ => rfl) | exact ev_move rfl (fun _ => rfl)
    simp only [nm, seval]
    apply VE.cons
    · first | exact Ev.skip (fun _ => rfl) | refine ev_pure' (fun _ => rfl) (fun ρ w => by simp only [VS.act, SV.c, List.map_cons, List.map_nil]; go_simp; exact rfl) (fun _ _ => rfl)
    simp only [nm, seval]
    apply VE.cons
    · refine ev_pure' (gn rfl) (fun ρ w => by simp only [VS.act, SV.c, List.map_cons, List.map_nil]; go_simp; exact rfl) (fun _ _ => rfl)
    simp only [nm, seval]
    exact VE.nil _
  · kernel_rfl
  change VOk _ _ _ _ _
  refine vcond_f rfl ?_
  refine vskip ?_
  change VOk _ _ _ _ _
  refine vseq ?_
  apply vrp
  · apply VE.cons
    · first | exact ev_load rfl (gn rfl) rfl rfl Tryd.underlying59 rfl Tryd.sizeOf59 rfl rfl | exact ev_loadx rfl (gn rfl) rfl Tryd.underlying59 rfl Tryd.sizeOf59 (by assumption) rfl
    simp only [nm, seval]
    apply VE.cons
    · exact ev_store rfl (gn rfl) rfl rfl rfl Tryd.sizeOf59 rfl (by simp) rfl
    simp only [nm, seval]
    exact VE.nil _
  · kernel_rfl
  change VOk _ _ _ _ _
  refine vret ?_
  refine post_ret (res1 Tryd.results59 (rv_cell rfl rfl Tryd.underlying59 rfl Tryd.sizeOf59 rfl rfl)) ?_
  intro w' hg
  exact ⟨rfl, hg⟩
theorem shrink_11 (b : Nat) (m0 m1 m2 m3 a0 a1 a2 a3 d0 d1 d2 d3 : Nat) (w : World) (hm : ∀ (j : Nat) (v : Value), [.int .u64 (m0 : Nat), .int .u64 (m1 : Nat), .int .u64 (m2 : Nat), .int .u64 (m3 : Nat)][j]? = some v → w.cell? ⟨b, 0 + j, none⟩ = some v)
  (hs : ∀ w', Gw w w' → Calls Tryd.prog 61 #[.agg #[.int .u64 (a0 : Nat), .int .u64 (a1 : Nat), .int .u64 (a2 : Nat), .int .u64 (a3 : Nat)], .agg #[.int .u64 (m0 : Nat), .int .u64 (m1 : Nat), .int .u64 (m2 : Nat), .int .u64 (m3 : Nat)]] w' fun e w'' => e = .returned (.tuple #[.agg #[.int .u64 (d0 : Nat), .int .u64 (d1 : Nat), .int .u64 (d2 : Nat), .int .u64 (d3 : Nat)], .int .u64 1]) ∧ Gw w' w'') :
  Calls Tryd.prog 59 #[.pointer (some ⟨b, 0, none⟩), .agg #[.int .u64 (a0 : Nat), .int .u64 (a1 : Nat), .int .u64 (a2 : Nat), .int .u64 (a3 : Nat)], .int .u64 1] w fun e w' => e = .returned (.agg #[.int .u64 (d0 : Nat), .int .u64 (d1 : Nat), .int .u64 (d2 : Nat), .int .u64 (d3 : Nat)]) ∧ Gw w w' := by
  go_enter Tryd.func59, Tryd.ntmps59
  refine ve_go ?_
  simp only [List.map_cons, List.map_nil]
  refine vseq ?_
  apply vrp
  · apply VE.cons
    · exact ev_box rfl rfl (gn rfl) rfl
    simp only [nm, seval]
    apply VE.cons
    · exact ev_alloc rfl rfl (gn rfl) Tryd.zeroValue59
    simp only [nm, seval]
    exact VE.nil _
  · kernel_rfl
  change VOk _ _ _ _ _
  refine vseq ?_
  apply vrd (by kernel_rfl)
  · apply VE.cons
    · first | exact ev_load rfl (gn rfl) rfl rfl Tryd.underlying59 rfl Tryd.sizeOf59 rfl rfl | exact ev_loadx rfl (gn rfl) rfl Tryd.underlying59 rfl Tryd.sizeOf59 (by assumption) rfl
    simp only [nm, seval]
    apply VE.cons
    · exact ev_move rfl (gn rfl)
    simp only [nm, seval]
    apply VE.cons
    · first | exact ev_nil rfl (gn rfl) rfl | exact ev_nilx rfl (gn rfl) rfl
    simp only [nm, seval]
    apply VE.cons
    · first | exact ev_field rfl (gn rfl) rfl Tryd.underlying83 rfl Tryd.sizeOf59 | exact ev_fieldx rfl (gn rfl) rfl Tryd.underlying83 rfl Tryd.sizeOf59
    simp only [nm, seval]
    apply VE.cons
    · first | exact ev_load rfl (gn rfl) rfl rfl Tryd.underlying59 rfl Tryd.sizeOf59 rfl rfl | exact ev_loadx rfl (gn rfl) rfl Tryd.underlying59 rfl Tryd.sizeOf59 (by assumption) rfl
    simp only [nm, seval]
    apply VE.cons
    · exact ev_call rfl (gn rfl) rfl (en_of Tryd.func61 (by kernel_rfl) rfl) hs
    simp only [nm, seval]
    apply VE.cons
    · exact ev_move rfl (gn rfl)
    simp only [nm, seval]
    apply VE.cons
    · exact ev_extract rfl (gn rfl) rfl rfl
    simp only [nm, seval]
    apply VE.cons
    · exact ev_extract rfl (gn rfl) rfl rfl
    simp only [nm, seval]
    apply VE.cons
    · exact ev_alloc rfl rfl (gn rfl) Tryd.zeroValue59
    simp only [nm, seval]
    apply VE.cons
    · exact ev_store rfl (gn rfl) rfl rfl rfl Tryd.sizeOf59 rfl (by simp) rfl
    simp only [nm, seval]
    apply VE.cons
    · exact ev_assign rfl (gn rfl)
    simp only [nm, seval]
    exact VE.nil _
  · kernel_rfl
  change VOk _ _ _ _ _
  refine vseq ?_
  refine vseq ?_
  apply vrp
  · apply VE.cons
    · exact ev_move rfl (gn rfl)
    simp only [nm, seval]
    apply VE.cons
    · refine ev_pure' (gn rfl) (fun ρ w => by simp only [VS.act, SV.c, List.map_cons, List.map_nil]; go_simp; exact rfl) (fun _ _ => rfl)
    simp only [nm, seval]
    apply VE.cons
    · exact ev_move rfl (gn rfl)
    simp only [nm, seval]
    apply VE.cons
    · first | exact Ev.skip (fun _ => rfl) | exact ev_move rfl (fun _ => rfl)
    simp only [nm, seval]
    apply VE.cons
    · first | exact Ev.skip (fun _ => rfl) | refine ev_pure' (fun _ => rfl) (fun ρ w => by simp only [VS.act, SV.c, List.map_cons, List.map_nil]; go_simp; exact rfl) (fun _ _ => rfl)
    simp only [nm, seval]
    apply VE.cons
    · refine ev_pure' (gn rfl) (fun ρ w => by simp only [VS.act, SV.c, List.map_cons, List.map_nil]; go_simp; exact rfl) (fun _ _ => rfl)
    simp only [nm, seval]
    exact VE.nil _
  · kernel_rfl
  change VOk _ _ _ _ _
  refine vcond_f rfl ?_
  refine vskip ?_
  change VOk _ _ _ _ _
  refine vseq ?_
  apply vrp
  · apply VE.cons
    · first | exact ev_load rfl (gn rfl) rfl rfl Tryd.underlying59 rfl Tryd.sizeOf59 rfl rfl | exact ev_loadx rfl (gn rfl) rfl Tryd.underlying59 rfl Tryd.sizeOf59 (by assumption) rfl
    simp only [nm, seval]
    apply VE.cons
    · exact ev_store rfl (gn rfl) rfl rfl rfl Tryd.sizeOf59 rfl (by simp) rfl
    simp only [nm, seval]
    exact VE.nil _
  · kernel_rfl
  change VOk _ _ _ _ _
  refine vret ?_
  refine post_ret (res1 Tryd.results59 (rv_cell rfl rfl Tryd.underlying59 rfl Tryd.sizeOf59 rfl rfl)) ?_
  intro w' hg
  exact ⟨rfl, hg⟩
theorem less_0 (a0 a1 a2 a3 m0 m1 m2 m3 d0 d1 d2 d3 : Nat) (w : World)
  (hs : ∀ w', Gw w w' → Calls Tryd.prog 61 #[.agg #[.int .u64 (a0 : Nat), .int .u64 (a1 : Nat), .int .u64 (a2 : Nat), .int .u64 (a3 : Nat)], .agg #[.int .u64 (m0 : Nat), .int .u64 (m1 : Nat), .int .u64 (m2 : Nat), .int .u64 (m3 : Nat)]] w' fun e w'' => e = .returned (.tuple #[.agg #[.int .u64 (d0 : Nat), .int .u64 (d1 : Nat), .int .u64 (d2 : Nat), .int .u64 (d3 : Nat)], .int .u64 0]) ∧ Gw w' w'') :
  Calls Tryd.prog 52 #[.agg #[.int .u64 (a0 : Nat), .int .u64 (a1 : Nat), .int .u64 (a2 : Nat), .int .u64 (a3 : Nat)], .agg #[.int .u64 (m0 : Nat), .int .u64 (m1 : Nat), .int .u64 (m2 : Nat), .int .u64 (m3 : Nat)]] w fun e w' => e = .returned (.bool false) ∧ Gw w w' := by
  go_enter Tryd.func52, Tryd.ntmps52
  refine ve_go ?_
  simp only [List.map_cons, List.map_nil]
  refine vseq ?_
  apply vrp
  · apply VE.cons
    · exact ev_box rfl rfl (gn rfl) rfl
    simp only [nm, seval]
    apply VE.cons
    · exact ev_box rfl rfl (gn rfl) rfl
    simp only [nm, seval]
    apply VE.cons
    · exact ev_assign rfl (gn rfl)
    simp only [nm, seval]
    exact VE.nil _
  · kernel_rfl
  change VOk _ _ _ _ _
  refine vseq ?_
  apply vrp
  · apply VE.cons
    · first | exact ev_load rfl (gn rfl) rfl rfl Tryd.underlying59 rfl Tryd.sizeOf59 rfl rfl | exact ev_loadx rfl (gn rfl) rfl Tryd.underlying59 rfl Tryd.sizeOf59 (by assumption) rfl
    simp only [nm, seval]
    apply VE.cons
    · first | exact ev_load rfl (gn rfl) rfl rfl Tryd.underlying59 rfl Tryd.sizeOf59 rfl rfl | exact ev_loadx rfl (gn rfl) rfl Tryd.underlying59 rfl Tryd.sizeOf59 (by assumption) rfl
    simp only [nm, seval]
    apply VE.cons
    · exact ev_call rfl (gn rfl) rfl (en_of Tryd.func61 (by kernel_rfl) rfl) hs
    simp only [nm, seval]
    apply VE.cons
    · exact ev_move rfl (gn rfl)
    simp only [nm, seval]
    apply VE.cons
    · exact ev_extract rfl (gn rfl) rfl rfl
    simp only [nm, seval]
    apply VE.cons
    · exact ev_extract rfl (gn rfl) rfl rfl
    simp only [nm, seval]
    apply VE.cons
    · exact ev_alloc rfl rfl (gn rfl) Tryd.zeroValue59
    simp only [nm, seval]
    apply VE.cons
    · exact ev_store rfl (gn rfl) rfl rfl rfl Tryd.sizeOf59 rfl (by simp) rfl
    simp only [nm, seval]
    apply VE.cons
    · exact ev_assign rfl (gn rfl)
    simp only [nm, seval]
    exact VE.nil _
  · kernel_rfl
  change VOk _ _ _ _ _
  refine vseq ?_
  apply vrp
  · apply VE.cons
    · exact ev_move rfl (gn rfl)
    simp only [nm, seval]
    apply VE.cons
    · refine ev_pure' (gn rfl) (fun ρ w => by simp only [VS.act, SV.c, List.map_cons, List.map_nil]; go_simp; exact rfl) (fun _ _ => rfl)
    simp only [nm, seval]
    apply VE.cons
    · exact ev_assign rfl (gn rfl)
    simp only [nm, seval]
    exact VE.nil _
  · kernel_rfl
  change VOk _ _ _ _ _
  refine vret ?_
  refine post_ret (res1 Tryd.results52 (rv_tmp rfl)) ?_
  intro w' hg
  exact ⟨rfl, hg⟩
theorem less_1 (a0 a1 a2 a3 m0 m1 m2 m3 d0 d1 d2 d3 : Nat) (w : World)
  (hs : ∀ w', Gw w w' → Calls Tryd.prog 61 #[.agg #[.int .u64 (a0 : Nat), .int .u64 (a1 : Nat), .int .u64 (a2 : Nat), .int .u64 (a3 : Nat)], .agg #[.int .u64 (m0 : Nat), .int .u64 (m1 : Nat), .int .u64 (m2 : Nat), .int .u64 (m3 : Nat)]] w' fun e w'' => e = .returned (.tuple #[.agg #[.int .u64 (d0 : Nat), .int .u64 (d1 : Nat), .int .u64 (d2 : Nat), .int .u64 (d3 : Nat)], .int .u64 1]) ∧ Gw w' w'') :
  Calls Tryd.prog 52 #[.agg #[.int .u64 (a0 : Nat), .int .u64 (a1 : Nat), .int .u64 (a2 : Nat), .int .u64 (a3 : Nat)], .agg #[.int .u64 (m0 : Nat), .int .u64 (m1 : Nat), .int .u64 (m2 : Nat), .int .u64 (m3 : Nat)]] w fun e w' => e = .returned (.bool true) ∧ Gw w w' := by
  go_enter Tryd.func52, Tryd.ntmps52
  refine ve_go ?_
  simp only [List.map_cons, List.map_nil]
  refine vseq ?_
  apply vrp
  · apply VE.cons
    · exact ev_box rfl rfl (gn rfl) rfl
    simp only [nm, seval]
    apply VE.cons
    · exact ev_box rfl rfl (gn rfl) rfl
    simp only [nm, seval]
    apply VE.cons
    · exact ev_assign rfl (gn rfl)
    simp only [nm, seval]
    exact VE.nil _
  · kernel_rfl
  change VOk _ _ _ _ _
  refine vseq ?_
  apply vrp
  · apply VE.cons
    · first | exact ev_load rfl (gn rfl) rfl rfl Tryd.underlying59 rfl Tryd.sizeOf59 rfl rfl | exact ev_loadx rfl (gn rfl) rfl Tryd.underlying59 rfl Tryd.sizeOf59 (by assumption) rfl
    simp only [nm, seval]
    apply VE.cons
    · first | exact ev_load rfl (gn rfl) rfl rfl Tryd.underlying59 rfl Tryd.sizeOf59 rfl rfl | exact ev_loadx rfl (gn rfl) rfl Tryd.underlying59 rfl Tryd.sizeOf59 (by assumption) rfl
    simp only [nm, seval]
    apply VE.cons
    · exact ev_call rfl (gn rfl) rfl (en_of Tryd.func61 (by kernel_rfl) rfl) hs
    simp only [nm, seval]
    apply VE.cons
    · exact ev_move rfl (gn rfl)
    simp only [nm, seval]
    apply VE.cons
    · exact ev_extract rfl (gn rfl) rfl rfl
    simp only [nm, seval]
    apply VE.cons
    · exact ev_extract rfl (gn rfl) rfl rfl
    simp only [nm, seval]
    apply VE.cons
    · exact ev_alloc rfl rfl (gn rfl) Tryd.zeroValue59
    simp only [nm, seval]
    apply VE.cons
    · exact ev_store rfl (gn rfl) rfl rfl rfl Tryd.sizeOf59 rfl (by simp) rfl
    simp only [nm, seval]
    apply VE.cons
    · exact ev_assign rfl (gn rfl)
    simp only [nm, seval]
    exact VE.nil _
  · kernel_rfl
  change VOk _ _ _ _ _
  refine vseq ?_
  apply vrp
  · apply VE.cons
    · exact ev_move rfl (gn rfl)
    simp only [nm, seval]
    apply VE.cons
    · refine ev_pure' (gn rfl) (fun ρ w => by simp only [VS.act, SV.c, List.map_cons, List.map_nil]; go_simp; exact rfl) (fun _ _ => rfl)
    simp only [nm, seval]
    apply VE.cons
    · exact ev_assign rfl (gn rfl)
    simp only [nm, seval]
    exact VE.nil _
  · kernel_rfl
  change VOk _ _ _ _ _
  refine vret ?_
  refine post_ret (res1 Tryd.results52 (rv_tmp rfl)) ?_
  intro w' hg
  exact ⟨rfl, hg⟩
theorem rest_core (b : Nat) (t0 t1 t2 t3 a0 a1 a2 a3 x0 x1 x2 x3 y0 y1 y2 y3 : Nat) (w : World) (ht : ∀ (j : Nat) (v : Value), [.int .u64 (t0 : Nat), .int .u64 (t1 : Nat), .int .u64 (t2 : Nat), .int .u64 (t3 : Nat)][j]? = some v → w.cell? ⟨b, 9 + j, none⟩ = some v)
  (h1 : ∀ w', Gw w w' → Calls Tryd.prog 63 #[.pointer (some ⟨b, 0, none⟩), .agg #[.int .u64 (a0 : Nat), .int .u64 (a1 : Nat), .int .u64 (a2 : Nat), .int .u64 (a3 : Nat)], .agg #[.int .u64 (t0 : Nat), .int .u64 (t1 : Nat), .int .u64 (t2 : Nat), .int .u64 (t3 : Nat)]] w' fun e w'' => e = .returned (.agg #[.int .u64 (x0 : Nat), .int .u64 (x1 : Nat), .int .u64 (x2 : Nat), .int .u64 (x3 : Nat)]) ∧ Gw w' w'')
  (h2 : ∀ w', Gw w w' → Calls Tryd.prog 63 #[.pointer (some ⟨b, 0, none⟩), .agg #[.int .u64 (x0 : Nat), .int .u64 (x1 : Nat), .int .u64 (x2 : Nat), .int .u64 (x3 : Nat)], .agg #[.int .u64 1, .int .u64 0, .int .u64 0, .int .u64 0]] w' fun e w'' => e = .returned (.agg #[.int .u64 (y0 : Nat), .int .u64 (y1 : Nat), .int .u64 (y2 : Nat), .int .u64 (y3 : Nat)]) ∧ Gw w' w'') :
  Calls Tryd.prog 62 #[.pointer (some ⟨b, 0, none⟩), .agg #[.int .u64 (a0 : Nat), .int .u64 (a1 : Nat), .int .u64 (a2 : Nat), .int .u64 (a3 : Nat)]] w fun e w' => e = .returned (.agg #[.int .u64 (y0 : Nat), .int .u64 (y1 : Nat), .int .u64 (y2 : Nat), .int .u64 (y3 : Nat)]) ∧ Gw w w' := by
  go_enter Tryd.func62, Tryd.ntmps62
  refine ve_go ?_
  simp only [List.map_cons, List.map_nil]
  refine vseq ?_
  apply vrp
  · apply VE.cons
    · exact ev_box rfl rfl (gn rfl) rfl
    simp only [nm, seval]
    apply VE.cons
    · exact ev_alloc rfl rfl (gn rfl) Tryd.zeroValue59
    simp only [nm, seval]
    exact VE.nil _
  · kernel_rfl
  change VOk _ _ _ _ _
  refine vseq ?_
  refine vseq ?_
  apply vrp
  · apply VE.cons
    · exact ev_move rfl (gn rfl)
    simp only [nm, seval]
    apply VE.cons
    · refine ev_pure' (gn rfl) (fun ρ w => by simp only [VS.act, SV.c, List.map_cons, List.map_nil]; go_simp; exact rfl) (fun _ _ => rfl)
    simp only [nm, seval]
    exact VE.nil _
  · kernel_rfl
  change VOk _ _ _ _ _
  refine vcond_f rfl ?_
  refine vskip ?_
  change VOk _ _ _ _ _
  refine vseq ?_
  apply vrd (by kernel_rfl)
  · apply VE.cons
    · exact ev_move rfl (gn rfl)
    simp only [nm, seval]
    apply VE.cons
    · exact ev_move rfl (gn rfl)
    simp only [nm, seval]
    apply VE.cons
    · first | exact ev_load rfl (gn rfl) rfl rfl Tryd.underlying59 rfl Tryd.sizeOf59 rfl rfl | exact ev_loadx rfl (gn rfl) rfl Tryd.underlying59 rfl Tryd.sizeOf59 (by assumption) rfl
    simp only [nm, seval]
    apply VE.cons
    · exact ev_move rfl (gn rfl)
    simp only [nm, seval]
    apply VE.cons
    · first | exact ev_nil rfl (gn rfl) rfl | exact ev_nilx rfl (gn rfl) rfl
    simp only [nm, seval]
    apply VE.cons
    · first | exact ev_field rfl (gn rfl) rfl Tryd.underlying83 rfl Tryd.sizeOf59 | exact ev_fieldx rfl (gn rfl) rfl Tryd.underlying83 rfl Tryd.sizeOf59
    simp only [nm, seval]
    apply VE.cons
    · first | exact ev_load rfl (gn rfl) rfl rfl Tryd.underlying59 rfl Tryd.sizeOf59 rfl rfl | exact ev_loadx rfl (gn rfl) rfl Tryd.underlying59 rfl Tryd.sizeOf59 (by assumption) rfl
    simp only [nm, seval]
    apply VE.cons
    · exact ev_call rfl (gn rfl) rfl (en_of Tryd.func63 (by kernel_rfl) rfl) h1
    simp only [nm, seval]
    apply VE.cons
    · refine ev_pure' (gn rfl) (fun ρ w => by simp only [VS.act, SV.c, List.map_cons, List.map_nil]; go_simp; exact rfl) (fun _ _ => rfl)
    simp only [nm, seval]
    apply VE.cons
    · exact ev_call rfl (gn rfl) rfl (en_of Tryd.func63 (by kernel_rfl) rfl) h2
    simp only [nm, seval]
    apply VE.cons
    · exact ev_store rfl (gn rfl) rfl rfl rfl Tryd.sizeOf59 rfl (by simp) rfl
    simp only [nm, seval]
    exact VE.nil _
  · kernel_rfl
  change VOk _ _ _ _ _
  refine vret ?_
  refine post_ret (res1 Tryd.results62 (rv_cell rfl rfl Tryd.underlying59 rfl Tryd.sizeOf59 rfl rfl)) ?_
  intro w' hg
  exact ⟨rfl, hg⟩
theorem mul_core (b : Nat) (t0 t1 t2 t3 a0 a1 a2 a3 c0 c1 c2 c3 x0 x1 x2 x3 y0 y1 y2 y3 z0 z1 z2 z3 : Nat) (w : World) (ht : ∀ (j : Nat) (v : Value), [.int .u64 (t0 : Nat), .int .u64 (t1 : Nat), .int .u64 (t2 : Nat), .int .u64 (t3 : Nat)][j]? = some v → w.cell? ⟨b, 9 + j, none⟩ = some v)
  (h1 : ∀ w', Gw w w' → Calls Tryd.prog 63 #[.pointer (some ⟨b, 0, none⟩), .agg #[.int .u64 (a0 : Nat), .int .u64 (a1 : Nat), .int .u64 (a2 : Nat), .int .u64 (a3 : Nat)], .agg #[.int .u64 (t0 : Nat), .int .u64 (t1 : Nat), .int .u64 (t2 : Nat), .int .u64 (t3 : Nat)]] w' fun e w'' => e = .returned (.agg #[.int .u64 (x0 : Nat), .int .u64 (x1 : Nat), .int .u64 (x2 : Nat), .int .u64 (x3 : Nat)]) ∧ Gw w' w'')
  (h2 : ∀ w', Gw w w' → Calls Tryd.prog 62 #[.pointer (some ⟨b, 0, none⟩), .agg #[.int .u64 (c0 : Nat), .int .u64 (c1 : Nat), .int .u64 (c2 : Nat), .int .u64 (c3 : Nat)]] w' fun e w'' => e = .returned (.agg #[.int .u64 (y0 : Nat), .int .u64 (y1 : Nat), .int .u64 (y2 : Nat), .int .u64 (y3 : Nat)]) ∧ Gw w' w'')
  (h3 : ∀ w', Gw w w' → Calls Tryd.prog 63 #[.pointer (some ⟨b, 0, none⟩), .agg #[.int .u64 (x0 : Nat), .int .u64 (x1 : Nat), .int .u64 (x2 : Nat), .int .u64 (x3 : Nat)], .agg #[.int .u64 (y0 : Nat), .int .u64 (y1 : Nat), .int .u64 (y2 : Nat), .int .u64 (y3 : Nat)]] w' fun e w'' => e = .returned (.agg #[.int .u64 (z0 : Nat), .int .u64 (z1 : Nat), .int .u64 (z2 : Nat), .int .u64 (z3 : Nat)]) ∧ Gw w' w'') :
  Calls Tryd.prog 54 #[.pointer (some ⟨b, 0, none⟩), .agg #[.int .u64 (a0 : Nat), .int .u64 (a1 : Nat), .int .u64 (a2 : Nat), .int .u64 (a3 : Nat)], .agg #[.int .u64 (c0 : Nat), .int .u64 (c1 : Nat), .int .u64 (c2 : Nat), .int .u64 (c3 : Nat)]] w fun e w' => e = .returned (.agg #[.int .u64 (z0 : Nat), .int .u64 (z1 : Nat), .int .u64 (z2 : Nat), .int .u64 (z3 : Nat)]) ∧ Gw w w' := by
  go_enter Tryd.func54, Tryd.ntmps54
  refine ve_go ?_
  simp only [List.map_cons, List.map_nil]
  refine vseq ?_
  apply vrp
  · apply VE.cons
    · exact ev_box rfl rfl (gn rfl) rfl
    simp only [nm, seval]
    apply VE.cons
    · exact ev_box rfl rfl (gn rfl) rfl
    simp only [nm, seval]
    apply VE.cons
    · exact ev_alloc rfl rfl (gn rfl) Tryd.zeroValue59
    simp only [nm, seval]
    exact VE.nil _
  · kernel_rfl
  change VOk _ _ _ _ _
  refine vseq ?_
  refine vseq ?_
  apply vrp
  · apply VE.cons
    · exact ev_move rfl (gn rfl)
    simp only [nm, seval]
    apply VE.cons
    · refine ev_pure' (gn rfl) (fun ρ w => by simp only [VS.act, SV.c, List.map_cons, List.map_nil]; go_simp; exact rfl) (fun _ _ => rfl)
    simp only [nm, seval]
    exact VE.nil _
  · kernel_rfl
  change VOk _ _ _ _ _
  refine vcond_f rfl ?_
  refine vskip ?_
  change VOk _ _ _ _ _
  refine vseq ?_
  apply vrd (by kernel_rfl)
  · apply VE.cons
    · exact ev_move rfl (gn rfl)
    simp only [nm, seval]
    apply VE.cons
    · exact ev_move rfl (gn rfl)
    simp only [nm, seval]
    apply VE.cons
    · first | exact ev_load rfl (gn rfl) rfl rfl Tryd.underlying59 rfl Tryd.sizeOf59 rfl rfl | exact ev_loadx rfl (gn rfl) rfl Tryd.underlying59 rfl Tryd.sizeOf59 (by assumption) rfl
    simp only [nm, seval]
    apply VE.cons
    · exact ev_move rfl (gn rfl)
    simp only [nm, seval]
    apply VE.cons
    · first | exact ev_nil rfl (gn rfl) rfl | exact ev_nilx rfl (gn rfl) rfl
    simp only [nm, seval]
    apply VE.cons
    · first | exact ev_field rfl (gn rfl) rfl Tryd.underlying83 rfl Tryd.sizeOf59 | exact ev_fieldx rfl (gn rfl) rfl Tryd.underlying83 rfl Tryd.sizeOf59
    simp only [nm, seval]
    apply VE.cons
    · first | exact ev_load rfl (gn rfl) rfl rfl Tryd.underlying59 rfl Tryd.sizeOf59 rfl rfl | exact ev_loadx rfl (gn rfl) rfl Tryd.underlying59 rfl Tryd.sizeOf59 (by assumption) rfl
    simp only [nm, seval]
    apply VE.cons
    · exact ev_call rfl (gn rfl) rfl (en_of Tryd.func63 (by kernel_rfl) rfl) h1
    simp only [nm, seval]
    apply VE.cons
    · exact ev_move rfl (gn rfl)
    simp only [nm, seval]
    apply VE.cons
    · first | exact ev_load rfl (gn rfl) rfl rfl Tryd.underlying59 rfl Tryd.sizeOf59 rfl rfl | exact ev_loadx rfl (gn rfl) rfl Tryd.underlying59 rfl Tryd.sizeOf59 (by assumption) rfl
    simp only [nm, seval]
    apply VE.cons
    · exact ev_call rfl (gn rfl) rfl (en_of Tryd.func62 (by kernel_rfl) rfl) h2
    simp only [nm, seval]
    apply VE.cons
    · exact ev_call rfl (gn rfl) rfl (en_of Tryd.func63 (by kernel_rfl) rfl) h3
    simp only [nm, seval]
    apply VE.cons
    · exact ev_store rfl (gn rfl) rfl rfl rfl Tryd.sizeOf59 rfl (by simp) rfl
    simp only [nm, seval]
    exact VE.nil _
  · kernel_rfl
  change VOk _ _ _ _ _
  refine vret ?_
  refine post_ret (res1 Tryd.results54 (rv_cell rfl rfl Tryd.underlying59 rfl Tryd.sizeOf59 rfl rfl)) ?_
  intro w' hg
  exact ⟨rfl, hg⟩
theorem madd_0 (b : Nat) (a0 a1 a2 a3 c0 c1 c2 c3 x0 x1 x2 x3 y0 y1 y2 y3 s0 s1 s2 s3 z0 z1 z2 z3 : Nat) (w : World)
  (h1 : ∀ w', Gw w w' → Calls Tryd.prog 62 #[.pointer (some ⟨b, 0, none⟩), .agg #[.int .u64 (a0 : Nat), .int .u64 (a1 : Nat), .int .u64 (a2 : Nat), .int .u64 (a3 : Nat)]] w' fun e w'' => e = .returned (.agg #[.int .u64 (x0 : Nat), .int .u64 (x1 : Nat), .int .u64 (x2 : Nat), .int .u64 (x3 : Nat)]) ∧ Gw w' w'')
  (h2 : ∀ w', Gw w w' → Calls Tryd.prog 62 #[.pointer (some ⟨b, 0, none⟩), .agg #[.int .u64 (c0 : Nat), .int .u64 (c1 : Nat), .int .u64 (c2 : Nat), .int .u64 (c3 : Nat)]] w' fun e w'' => e = .returned (.agg #[.int .u64 (y0 : Nat), .int .u64 (y1 : Nat), .int .u64 (y2 : Nat), .int .u64 (y3 : Nat)]) ∧ Gw w' w'')
  (h3 : ∀ w', Gw w w' → Calls Tryd.prog 60 #[.agg #[.int .u64 (x0 : Nat), .int .u64 (x1 : Nat), .int .u64 (x2 : Nat), .int .u64 (x3 : Nat)], .agg #[.int .u64 (y0 : Nat), .int .u64 (y1 : Nat), .int .u64 (y2 : Nat), .int .u64 (y3 : Nat)]] w' fun e w'' => e = .returned (.tuple #[.agg #[.int .u64 (s0 : Nat), .int .u64 (s1 : Nat), .int .u64 (s2 : Nat), .int .u64 (s3 : Nat)], .int .u64 0]) ∧ Gw w' w'')
  (h4 : ∀ w', Gw w w' → Calls Tryd.prog 59 #[.pointer (some ⟨b, 0, none⟩), .agg #[.int .u64 (s0 : Nat), .int .u64 (s1 : Nat), .int .u64 (s2 : Nat), .int .u64 (s3 : Nat)], .int .u64 0] w' fun e w'' => e = .returned (.agg #[.int .u64 (z0 : Nat), .int .u64 (z1 : Nat), .int .u64 (z2 : Nat), .int .u64 (z3 : Nat)]) ∧ Gw w' w'') :
  Calls Tryd.prog 53 #[.pointer (some ⟨b, 0, none⟩), .agg #[.int .u64 (a0 : Nat), .int .u64 (a1 : Nat), .int .u64 (a2 : Nat), .int .u64 (a3 : Nat)], .agg #[.int .u64 (c0 : Nat), .int .u64 (c1 : Nat), .int .u64 (c2 : Nat), .int .u64 (c3 : Nat)]] w fun e w' => e = .returned (.agg #[.int .u64 (z0 : Nat), .int .u64 (z1 : Nat), .int .u64 (z2 : Nat), .int .u64 (z3 : Nat)]) ∧ Gw w w' := by
  go_enter Tryd.func53, Tryd.ntmps53
  refine ve_go ?_
  simp only [List.map_cons, List.map_nil]
  refine vseq ?_
  apply vrp
  · apply VE.cons
    · exact ev_box rfl rfl (gn rfl) rfl
    simp only [nm, seval]
    apply VE.cons
    · exact ev_box rfl rfl (gn rfl) rfl
    simp only [nm, seval]
    apply VE.cons
    · exact ev_alloc rfl rfl (gn rfl) Tryd.zeroValue59
    simp only [nm, seval]
    exact VE.nil _
  · kernel_rfl
  change VOk _ _ _ _ _
  refine vseq ?_
  refine vseq ?_
  apply vrp
  · apply VE.cons
    · exact ev_move rfl (gn rfl)
    simp only [nm, seval]
    apply VE.cons
    · refine ev_pure' (gn rfl) (fun ρ w => by simp only [VS.act, SV.c, List.map_cons, List.map_nil]; go_simp; exact rfl) (fun _ _ => rfl)
    simp only [nm, seval]
    exact VE.nil _
  · kernel_rfl
  change VOk _ _ _ _ _
  refine vcond_f rfl ?_
  refine vskip ?_
  change VOk _ _ _ _ _
  refine vseq ?_
  apply vrd (by kernel_rfl)
  · apply VE.cons
    · exact ev_move rfl (gn rfl)
    simp only [nm, seval]
    apply VE.cons
    · first | exact ev_load rfl (gn rfl) rfl rfl Tryd.underlying59 rfl Tryd.sizeOf59 rfl rfl | exact ev_loadx rfl (gn rfl) rfl Tryd.underlying59 rfl Tryd.sizeOf59 (by assumption) rfl
    simp only [nm, seval]
    apply VE.cons
    · exact ev_call rfl (gn rfl) rfl (en_of Tryd.func62 (by kernel_rfl) rfl) h1
    simp only [nm, seval]
    apply VE.cons
    · exact ev_move rfl (gn rfl)
    simp only [nm, seval]
    apply VE.cons
    · first | exact ev_load rfl (gn rfl) rfl rfl Tryd.underlying59 rfl Tryd.sizeOf59 rfl rfl | exact ev_loadx rfl (gn rfl) rfl Tryd.underlying59 rfl Tryd.sizeOf59 (by assumption) rfl
    simp only [nm, seval]
    apply VE.cons
    · exact ev_call rfl (gn rfl) rfl (en_of Tryd.func62 (by kernel_rfl) rfl) h2
    simp only [nm, seval]
    apply VE.cons
    · exact ev_call rfl (gn rfl) rfl (en_of Tryd.func60 (by kernel_rfl) rfl) h3
    simp only [nm, seval]
    apply VE.cons
    · exact ev_move rfl (gn rfl)
    simp only [nm, seval]
    apply VE.cons
    · exact ev_extract rfl (gn rfl) rfl rfl
    simp only [nm, seval]
    apply VE.cons
    · exact ev_extract rfl (gn rfl) rfl rfl
    simp only [nm, seval]
    apply VE.cons
    · exact ev_alloc rfl rfl (gn rfl) Tryd.zeroValue59
    simp only [nm, seval]
    apply VE.cons
    · exact ev_store rfl (gn rfl) rfl rfl rfl Tryd.sizeOf59 rfl (by simp) rfl
    simp only [nm, seval]
    apply VE.cons
    · exact ev_assign rfl (gn rfl)
    simp only [nm, seval]
    exact VE.nil _
  · kernel_rfl
  change VOk _ _ _ _ _
  refine vseq ?_
  apply vrp
  · apply VE.cons
    · exact ev_move rfl (gn rfl)
    simp only [nm, seval]
    apply VE.cons
    · first | exact ev_load rfl (gn rfl) rfl rfl Tryd.underlying59 rfl Tryd.sizeOf59 rfl rfl | exact ev_loadx rfl (gn rfl) rfl Tryd.underlying59 rfl Tryd.sizeOf59 (by assumption) rfl
    simp only [nm, seval]
    apply VE.cons
    · exact ev_move rfl (gn rfl)
    simp only [nm, seval]
    apply VE.cons
    · exact ev_call rfl (gn rfl) rfl (en_of Tryd.func59 (by kernel_rfl) rfl) h4
    simp only [nm, seval]
    apply VE.cons
    · exact ev_store rfl (gn rfl) rfl rfl rfl Tryd.sizeOf59 rfl (by simp) rfl
    simp only [nm, seval]
    exact VE.nil _
  · kernel_rfl
  change VOk _ _ _ _ _
  refine vret ?_
  refine post_ret (res1 Tryd.results53 (rv_cell rfl rfl Tryd.underlying59 rfl Tryd.sizeOf59 rfl rfl)) ?_
  intro w' hg
  exact ⟨rfl, hg⟩
theorem msub_0 (b : Nat) (m0 m1 m2 m3 a0 a1 a2 a3 c0 c1 c2 c3 x0 x1 x2 x3 y0 y1 y2 y3 s0 s1 s2 s3 z0 z1 z2 z3 : Nat) (k : Nat) (w : World) (_hm : ∀ (j : Nat) (v : Value), [.int .u64 (m0 : Nat), .int .u64 (m1 : Nat), .int .u64 (m2 : Nat), .int .u64 (m3 : Nat)][j]? = some v → w.cell? ⟨b, 0 + j, none⟩ = some v)
  (h1 : ∀ w', Gw w w' → Calls Tryd.prog 62 #[.pointer (some ⟨b, 0, none⟩), .agg #[.int .u64 (a0 : Nat), .int .u64 (a1 : Nat), .int .u64 (a2 : Nat), .int .u64 (a3 : Nat)]] w' fun e w'' => e = .returned (.agg #[.int .u64 (x0 : Nat), .int .u64 (x1 : Nat), .int .u64 (x2 : Nat), .int .u64 (x3 : Nat)]) ∧ Gw w' w'')
  (h2 : ∀ w', Gw w w' → Calls Tryd.prog 62 #[.pointer (some ⟨b, 0, none⟩), .agg #[.int .u64 (c0 : Nat), .int .u64 (c1 : Nat), .int .u64 (c2 : Nat), .int .u64 (c3 : Nat)]] w' fun e w'' => e = .returned (.agg #[.int .u64 (y0 : Nat), .int .u64 (y1 : Nat), .int .u64 (y2 : Nat), .int .u64 (y3 : Nat)]) ∧ Gw w' w'')
  (h3 : ∀ w', Gw w w' → Calls Tryd.prog 61 #[.agg #[.int .u64 (x0 : Nat), .int .u64 (x1 : Nat), .int .u64 (x2 : Nat), .int .u64 (x3 : Nat)], .agg #[.int .u64 (y0 : Nat), .int .u64 (y1 : Nat), .int .u64 (y2 : Nat), .int .u64 (y3 : Nat)]] w' fun e w'' => e = .returned (.tuple #[.agg #[.int .u64 (s0 : Nat), .int .u64 (s1 : Nat), .int .u64 (s2 : Nat), .int .u64 (s3 : Nat)], .int .u64 0]) ∧ Gw w' w'')
  (_h4 : ∀ w', Gw w w' → Calls Tryd.prog 60 #[.agg #[.int .u64 (s0 : Nat), .int .u64 (s1 : Nat), .int .u64 (s2 : Nat), .int .u64 (s3 : Nat)], .agg #[.int .u64 (m0 : Nat), .int .u64 (m1 : Nat), .int .u64 (m2 : Nat), .int .u64 (m3 : Nat)]] w' fun e w'' => e = .returned (.tuple #[.agg #[.int .u64 (z0 : Nat), .int .u64 (z1 : Nat), .int .u64 (z2 : Nat), .int .u64 (z3 : Nat)], .int .u64 (k : Nat)]) ∧ Gw w' w'') :
  Calls Tryd.prog 55 #[.pointer (some ⟨b, 0, none⟩), .agg #[.int .u64 (a0 : Nat), .int .u64 (a1 : Nat), .int .u64 (a2 : Nat), .int .u64 (a3 : Nat)], .agg #[.int .u64 (c0 : Nat), .int .u64 (c1 : Nat), .int .u64 (c2 : Nat), .int .u64 (c3 : Nat)]] w fun e w' => e = .returned (.agg #[.int .u64 (s0 : Nat), .int .u64 (s1 : Nat), .int .u64 (s2 : Nat), .int .u64 (s3 : Nat)]) ∧ Gw w w' := by
  go_enter Tryd.func55, Tryd.ntmps55
  refine ve_go ?_
  simp only [List.map_cons, List.map_nil]
  refine vseq ?_
  apply vrp
  · apply VE.cons
    · exact ev_box rfl rfl (gn rfl) rfl
    simp only [nm, seval]
    apply VE.cons
    · exact ev_box rfl rfl (gn rfl) rfl
    simp only [nm, seval]
    apply VE.cons
    · exact ev_alloc rfl rfl (gn rfl) Tryd.zeroValue59
    simp only [nm, seval]
    exact VE.nil _
  · kernel_rfl
  change VOk _ _ _ _ _
  refine vseq ?_
  refine vseq ?_
  apply vrp
  · apply VE.cons
    · exact ev_move rfl (gn rfl)
    simp only [nm, seval]
    apply VE.cons
    · refine ev_pure' (gn rfl) (fun ρ w => by simp only [VS.act, SV.c, List.map_cons, List.map_nil]; go_simp; exact rfl) (fun _ _ => rfl)
    simp only [nm, seval]
    exact VE.nil _
  · kernel_rfl
  change VOk _ _ _ _ _
  refine vcond_f rfl ?_
  refine vskip ?_
  change VOk _ _ _ _ _
  refine vseq ?_
  apply vrd (by kernel_rfl)
  · apply VE.cons
    · exact ev_move rfl (gn rfl)
    simp only [nm, seval]
    apply VE.cons
    · first | exact ev_load rfl (gn rfl) rfl rfl Tryd.underlying59 rfl Tryd.sizeOf59 rfl rfl | exact ev_loadx rfl (gn rfl) rfl Tryd.underlying59 rfl Tryd.sizeOf59 (by assumption) rfl
    simp only [nm, seval]
    apply VE.cons
    · exact ev_call rfl (gn rfl) rfl (en_of Tryd.func62 (by kernel_rfl) rfl) h1
    simp only [nm, seval]
    apply VE.cons
    · exact ev_move rfl (gn rfl)
    simp only [nm, seval]
    apply VE.cons
    · first | exact ev_load rfl (gn rfl) rfl rfl Tryd.underlying59 rfl Tryd.sizeOf59 rfl rfl | exact ev_loadx rfl (gn rfl) rfl Tryd.underlying59 rfl Tryd.sizeOf59 (by assumption) rfl
    simp only [nm, seval]
    apply VE.cons
    · exact ev_call rfl (gn rfl) rfl (en_of Tryd.func62 (by kernel_rfl) rfl) h2
    simp only [nm, seval]
    apply VE.cons
    · exact ev_call rfl (gn rfl) rfl (en_of Tryd.func61 (by kernel_rfl) rfl) h3
    simp only [nm, seval]
    apply VE.cons
    · exact ev_move rfl (gn rfl)
    simp only [nm, seval]
    apply VE.cons
    · exact ev_extract rfl (gn rfl) rfl rfl
    simp only [nm, seval]
    apply VE.cons
    · exact ev_extract rfl (gn rfl) rfl rfl
    simp only [nm, seval]
    apply VE.cons
    · exact ev_alloc rfl rfl (gn rfl) Tryd.zeroValue59
    simp only [nm, seval]
    apply VE.cons
    · exact ev_store rfl (gn rfl) rfl rfl rfl Tryd.sizeOf59 rfl (by simp) rfl
    simp only [nm, seval]
    apply VE.cons
    · exact ev_assign rfl (gn rfl)
    simp only [nm, seval]
    exact VE.nil _
  · kernel_rfl
  change VOk _ _ _ _ _
  refine vseq ?_
  refine vseq ?_
  apply vrp
  · apply VE.cons
    · exact ev_move rfl (gn rfl)
    simp only [nm, seval]
    apply VE.cons
    · refine ev_pure' (gn rfl) (fun ρ w => by simp only [VS.act, SV.c, List.map_cons, List.map_nil]; go_simp; exact rfl) (fun _ _ => rfl)
    simp only [nm, seval]
    exact VE.nil _
  · kernel_rfl
  change VOk _ _ _ _ _
  refine vcond_f rfl ?_
  refine vskip ?_
  change VOk _ _ _ _ _
  refine vseq ?_
  apply vrp
  · apply VE.cons
    · first | exact ev_load rfl (gn rfl) rfl rfl Tryd.underlying59 rfl Tryd.sizeOf59 rfl rfl | exact ev_loadx rfl (gn rfl) rfl Tryd.underlying59 rfl Tryd.sizeOf59 (by assumption) rfl
    simp only [nm, seval]
    apply VE.cons
    · exact ev_store rfl (gn rfl) rfl rfl rfl Tryd.sizeOf59 rfl (by simp) rfl
    simp only [nm, seval]
    exact VE.nil _
  · kernel_rfl
  change VOk _ _ _ _ _
  refine vret ?_
  refine post_ret (res1 Tryd.results55 (rv_cell rfl rfl Tryd.underlying59 rfl Tryd.sizeOf59 rfl rfl)) ?_
  intro w' hg
  exact ⟨rfl, hg⟩
theorem madd_1 (b : Nat) (a0 a1 a2 a3 c0 c1 c2 c3 x0 x1 x2 x3 y0 y1 y2 y3 s0 s1 s2 s3 z0 z1 z2 z3 : Nat) (w : World)
  (h1 : ∀ w', Gw w w' → Calls Tryd.prog 62 #[.pointer (some ⟨b, 0, none⟩), .agg #[.int .u64 (a0 : Nat), .int .u64 (a1 : Nat), .int .u64 (a2 : Nat), .int .u64 (a3 : Nat)]] w' fun e w'' => e = .returned (.agg #[.int .u64 (x0 : Nat), .int .u64 (x1 : Nat), .int .u64 (x2 : Nat), .int .u64 (x3 : Nat)]) ∧ Gw w' w'')
  (h2 : ∀ w', Gw w w' → Calls Tryd.prog 62 #[.pointer (some ⟨b, 0, none⟩), .agg #[.int .u64 (c0 : Nat), .int .u64 (c1 : Nat), .int .u64 (c2 : Nat), .int .u64 (c3 : Nat)]] w' fun e w'' => e = .returned (.agg #[.int .u64 (y0 : Nat), .int .u64 (y1 : Nat), .int .u64 (y2 : Nat), .int .u64 (y3 : Nat)]) ∧ Gw w' w'')
  (h3 : ∀ w', Gw w w' → Calls Tryd.prog 60 #[.agg #[.int .u64 (x0 : Nat), .int .u64 (x1 : Nat), .int .u64 (x2 : Nat), .int .u64 (x3 : Nat)], .agg #[.int .u64 (y0 : Nat), .int .u64 (y1 : Nat), .int .u64 (y2 : Nat), .int .u64 (y3 : Nat)]] w' fun e w'' => e = .returned (.tuple #[.agg #[.int .u64 (s0 : Nat), .int .u64 (s1 : Nat), .int .u64 (s2 : Nat), .int .u64 (s3 : Nat)], .int .u64 1]) ∧ Gw w' w'')
  (h4 : ∀ w', Gw w w' → Calls Tryd.prog 59 #[.pointer (some ⟨b, 0, none⟩), .agg #[.int .u64 (s0 : Nat), .int .u64 (s1 : Nat), .int .u64 (s2 : Nat), .int .u64 (s3 : Nat)], .int .u64 1] w' fun e w'' => e = .returned (.agg #[.int .u64 (z0 : Nat), .int .u64 (z1 : Nat), .int .u64 (z2 : Nat), .int .u64 (z3 : Nat)]) ∧ Gw w' w'') :
  Calls Tryd.prog 53 #[.pointer (some ⟨b, 0, none⟩), .agg #[.int .u64 (a0 : Nat), .int .u64 (a1 : Nat), .int .u64 (a2 : Nat), .int .u64 (a3 : Nat)], .agg #[.int .u64 (c0 : Nat), .int .u64 (c1 : Nat), .int .u64 (c2 : Nat), .int .u64 (c3 : Nat)]] w fun e w' => e = .returned (.agg #[.int .u64 (z0 : Nat), .int .u64 (z1 : Nat), .int .u64 (z2 : Nat), .int .u64 (z3 : Nat)]) ∧ Gw w w' := by
  go_enter Tryd.func53, Tryd.ntmps53
  refine ve_go ?_
  simp only [List.map_cons, List.map_nil]
  refine vseq ?_
  apply vrp
  · apply VE.cons
    · exact ev_box rfl rfl (gn rfl) rfl
    simp only [nm, seval]
    apply VE.cons
    · exact ev_box rfl rfl (gn rfl) rfl
    simp only [nm, seval]
    apply VE.cons
    · exact ev_alloc rfl rfl (gn rfl) Tryd.zeroValue59
    simp only [nm, seval]
    exact VE.nil _
  · kernel_rfl
  change VOk _ _ _ _ _
  refine vseq ?_
  refine vseq ?_
  apply vrp
  · apply VE.cons
    · exact ev_move rfl (gn rfl)
    simp only [nm, seval]
    apply VE.cons
    · refine ev_pure' (gn rfl) (fun ρ w => by simp only [VS.act, SV.c, List.map_cons, List.map_nil]; go_simp; exact rfl) (fun _ _ => rfl)
    simp only [nm, seval]
    exact VE.nil _
  · kernel_rfl
  change VOk _ _ _ _ _
  refine vcond_f rfl ?_
  refine vskip ?_
  change VOk _ _ _ _ _
  refine vseq ?_
  apply vrd (by kernel_rfl)
  · apply VE.cons
    · exact ev_move rfl (gn rfl)
    simp only [nm, seval]
    apply VE.cons
    · first | exact ev_load rfl (gn rfl) rfl rfl Tryd.underlying59 rfl Tryd.sizeOf59 rfl rfl | exact ev_loadx rfl (gn rfl) rfl Tryd.underlying59 rfl Tryd.sizeOf59 (by assumption) rfl
    simp only [nm, seval]
    apply VE.cons
    · exact ev_call rfl (gn rfl) rfl (en_of Tryd.func62 (by kernel_rfl) rfl) h1
    simp only [nm, seval]
    apply VE.cons
    · exact ev_move rfl (gn rfl)
    simp only [nm, seval]
    apply VE.cons
    · first | exact ev_load rfl (gn rfl) rfl rfl Tryd.underlying59 rfl Tryd.sizeOf59 rfl rfl | exact ev_loadx rfl (gn rfl) rfl Tryd.underlying59 rfl Tryd.sizeOf59 (by assumption) rfl
    simp only [nm, seval]
    apply VE.cons
    · exact ev_call rfl (gn rfl) rfl (en_of Tryd.func62 (by kernel_rfl) rfl) h2
    simp only [nm, seval]
    apply VE.cons
    · exact ev_call rfl (gn rfl) rfl (en_of Tryd.func60 (by kernel_rfl) rfl) h3
    simp only [nm, seval]
    apply VE.cons
    · exact ev_move rfl (gn rfl)
    simp only [nm, seval]
    apply VE.cons
    · exact ev_extract rfl (gn rfl) rfl rfl
    simp only [nm, seval]
    apply VE.cons
    · exact ev_extract rfl (gn rfl) rfl rfl
    simp only [nm, seval]
    apply VE.cons
    · exact ev_alloc rfl rfl (gn rfl) Tryd.zeroValue59
    simp only [nm, seval]
    apply VE.cons
    · exact ev_store rfl (gn rfl) rfl rfl rfl Tryd.sizeOf59 rfl (by simp) rfl
    simp only [nm, seval]
    apply VE.cons
    · exact ev_assign rfl (gn rfl)
    simp only [nm, seval]
    exact VE.nil _
  · kernel_rfl
  change VOk _ _ _ _ _
  refine vseq ?_
  apply vrp
  · apply VE.cons
    · exact ev_move rfl (gn rfl)
    simp only [nm, seval]
    apply VE.cons
    · first | exact ev_load rfl (gn rfl) rfl rfl Tryd.underlying59 rfl Tryd.sizeOf59 rfl rfl | exact ev_loadx rfl (gn rfl) rfl Tryd.underlying59 rfl Tryd.sizeOf59 (by assumption) rfl
    simp only [nm, seval]
    apply VE.cons
    · exact ev_move rfl (gn rfl)
    simp only [nm, seval]
    apply VE.cons
    · exact ev_call rfl (gn rfl) rfl (en_of Tryd.func59 (by kernel_rfl) rfl) h4
    simp only [nm, seval]
    apply VE.cons
    · exact ev_store rfl (gn rfl) rfl rfl rfl Tryd.sizeOf59 rfl (by simp) rfl
    simp only [nm, seval]
    exact VE.nil _
  · kernel_rfl
  change VOk _ _ _ _ _
  refine vret ?_
  refine post_ret (res1 Tryd.results53 (rv_cell rfl rfl Tryd.underlying59 rfl Tryd.sizeOf59 rfl rfl)) ?_
  intro w' hg
  exact ⟨rfl, hg⟩
theorem msub_1 (b : Nat) (m0 m1 m2 m3 a0 a1 a2 a3 c0 c1 c2 c3 x0 x1 x2 x3 y0 y1 y2 y3 s0 s1 s2 s3 z0 z1 z2 z3 : Nat) (k : Nat) (w : World) (hm : ∀ (j : Nat) (v : Value), [.int .u64 (m0 : Nat), .int .u64 (m1 : Nat), .int .u64 (m2 : Nat), .int .u64 (m3 : Nat)][j]? = some v → w.cell? ⟨b, 0 + j, none⟩ = some v)
  (h1 : ∀ w', Gw w w' → Calls Tryd.prog 62 #[.pointer (some ⟨b, 0, none⟩), .agg #[.int .u64 (a0 : Nat), .int .u64 (a1 : Nat), .int .u64 (a2 : Nat), .int .u64 (a3 : Nat)]] w' fun e w'' => e = .returned (.agg #[.int .u64 (x0 : Nat), .int .u64 (x1 : Nat), .int .u64 (x2 : Nat), .int .u64 (x3 : Nat)]) ∧ Gw w' w'')
  (h2 : ∀ w', Gw w w' → Calls Tryd.prog 62 #[.pointer (some ⟨b, 0, none⟩), .agg #[.int .u64 (c0 : Nat), .int .u64 (c1 : Nat), .int .u64 (c2 : Nat), .int .u64 (c3 : Nat)]] w' fun e w'' => e = .returned (.agg #[.int .u64 (y0 : Nat), .int .u64 (y1 : Nat), .int .u64 (y2 : Nat), .int .u64 (y3 : Nat)]) ∧ Gw w' w'')
  (h3 : ∀ w', Gw w w' → Calls Tryd.prog 61 #[.agg #[.int .u64 (x0 : Nat), .int .u64 (x1 : Nat), .int .u64 (x2 : Nat), .int .u64 (x3 : Nat)], .agg #[.int .u64 (y0 : Nat), .int .u64 (y1 : Nat), .int .u64 (y2 : Nat), .int .u64 (y3 : Nat)]] w' fun e w'' => e = .returned (.tuple #[.agg #[.int .u64 (s0 : Nat), .int .u64 (s1 : Nat), .int .u64 (s2 : Nat), .int .u64 (s3 : Nat)], .int .u64 1]) ∧ Gw w' w'')
  (h4 : ∀ w', Gw w w' → Calls Tryd.prog 60 #[.agg #[.int .u64 (s0 : Nat), .int .u64 (s1 : Nat), .int .u64 (s2 : Nat), .int .u64 (s3 : Nat)], .agg #[.int .u64 (m0 : Nat), .int .u64 (m1 : Nat), .int .u64 (m2 : Nat), .int .u64 (m3 : Nat)]] w' fun e w'' => e = .returned (.tuple #[.agg #[.int .u64 (z0 : Nat), .int .u64 (z1 : Nat), .int .u64 (z2 : Nat), .int .u64 (z3 : Nat)], .int .u64 (k : Nat)]) ∧ Gw w' w'') :
  Calls Tryd.prog 55 #[.pointer (some ⟨b, 0, none⟩), .agg #[.int .u64 (a0 : Nat), .int .u64 (a1 : Nat), .int .u64 (a2 : Nat), .int .u64 (a3 : Nat)], .agg #[.int .u64 (c0 : Nat), .int .u64 (c1 : Nat), .int .u64 (c2 : Nat), .int .u64 (c3 : Nat)]] w fun e w' => e = .returned (.agg #[.int .u64 (z0 : Nat), .int .u64 (z1 : Nat), .int .u64 (z2 : Nat), .int .u64 (z3 : Nat)]) ∧ Gw w w' := by
  go_enter Tryd.func55, Tryd.ntmps55
  refine ve_go ?_
  simp only [List.map_cons, List.map_nil]
  refine vseq ?_
  apply vrp
  · apply VE.cons
    · exact ev_box rfl rfl (gn rfl) rfl
    simp only [nm, seval]
    apply VE.cons
    · exact ev_box rfl rfl (gn rfl) rfl
    simp only [nm, seval]
    apply VE.cons
    · exact ev_alloc rfl rfl (gn rfl) Tryd.zeroValue59
    simp only [nm, seval]
    exact VE.nil _
  · kernel_rfl
  change VOk _ _ _ _ _
  refine vseq ?_
  refine vseq ?_
  apply vrp
  · apply VE.cons
    · exact ev_move rfl (gn rfl)
    simp only [nm, seval]
    apply VE.cons
    · refine ev_pure' (gn rfl) (fun ρ w => by simp only [VS.act, SV.c, List.map_cons, List.map_nil]; go_simp; exact rfl) (fun _ _ => rfl)
    simp only [nm, seval]
    exact VE.nil _
  · kernel_rfl
  change VOk _ _ _ _ _
  refine vcond_f rfl ?_
  refine vskip ?_
  change VOk _ _ _ _ _
  refine vseq ?_
  apply vrd (by kernel_rfl)
  · apply VE.cons
    · exact ev_move rfl (gn rfl)
    simp only [nm, seval]
    apply VE.cons
    · first | exact ev_load rfl (gn rfl) rfl rfl Tryd.underlying59 rfl Tryd.sizeOf59 rfl rfl | exact ev_loadx rfl (gn rfl) rfl Tryd.underlying59 rfl Tryd.sizeOf59 (by assumption) rfl
    simp only [nm, seval]
    apply VE.cons
    · exact ev_call rfl (gn rfl) rfl (en_of Tryd.func62 (by kernel_rfl) rfl) h1
    simp only [nm, seval]
    apply VE.cons
    · exact ev_move rfl (gn rfl)
    simp only [nm, seval]
    apply VE.cons
    · first | exact ev_load rfl (gn rfl) rfl rfl Tryd.underlying59 rfl Tryd.sizeOf59 rfl rfl | exact ev_loadx rfl (gn rfl) rfl Tryd.underlying59 rfl Tryd.sizeOf59 (by assumption) rfl
    simp only [nm, seval]
    apply VE.cons
    · exact ev_call rfl (gn rfl) rfl (en_of Tryd.func62 (by kernel_rfl) rfl) h2
    simp only [nm, seval]
    apply VE.cons
    · exact ev_call rfl (gn rfl) rfl (en_of Tryd.func61 (by kernel_rfl) rfl) h3
    simp only [nm, seval]
    apply VE.cons
    · exact ev_move rfl (gn rfl)
    simp only [nm, seval]
    apply VE.cons
    · exact ev_extract rfl (gn rfl) rfl rfl
    simp only [nm, seval]
    apply VE.cons
    · exact ev_extract rfl (gn rfl) rfl rfl
    simp only [nm, seval]
    apply VE.cons
    · exact ev_alloc rfl rfl (gn rfl) Tryd.zeroValue59
    simp only [nm, seval]
    apply VE.cons
    · exact ev_store rfl (gn rfl) rfl rfl rfl Tryd.sizeOf59 rfl (by simp) rfl
    simp only [nm, seval]
    apply VE.cons
    · exact ev_assign rfl (gn rfl)
    simp only [nm, seval]
    exact VE.nil _
  · kernel_rfl
  change VOk _ _ _ _ _
  refine vseq ?_
  refine vseq ?_
  apply vrp
  · apply VE.cons
    · exact ev_move rfl (gn rfl)
    simp only [nm, seval]
    apply VE.cons
    · refine ev_pure' (gn rfl) (fun ρ w => by simp only [VS.act, SV.c, List.map_cons, List.map_nil]; go_simp; exact rfl) (fun _ _ => rfl)
    simp only [nm, seval]
    exact VE.nil _
  · kernel_rfl
  change VOk _ _ _ _ _
  refine vcond_t rfl ?_
  apply vrd (by kernel_rfl)
  · apply VE.cons
    · first | exact ev_load rfl (gn rfl) rfl rfl Tryd.underlying59 rfl Tryd.sizeOf59 rfl rfl | exact ev_loadx rfl (gn rfl) rfl Tryd.underlying59 rfl Tryd.sizeOf59 (by assumption) rfl
    simp only [nm, seval]
    apply VE.cons
    · exact ev_move rfl (gn rfl)
    simp only [nm, seval]
    apply VE.cons
    · first | exact ev_nil rfl (gn rfl) rfl | exact ev_nilx rfl (gn rfl) rfl
    simp only [nm, seval]
    apply VE.cons
    · first | exact ev_field rfl (gn rfl) rfl Tryd.underlying83 rfl Tryd.sizeOf59 | exact ev_fieldx rfl (gn rfl) rfl Tryd.underlying83 rfl Tryd.sizeOf59
    simp only [nm, seval]
    apply VE.cons
    · first | exact ev_load rfl (gn rfl) rfl rfl Tryd.underlying59 rfl Tryd.sizeOf59 rfl rfl | exact ev_loadx rfl (gn rfl) rfl Tryd.underlying59 rfl Tryd.sizeOf59 (by assumption) rfl
    simp only [nm, seval]
    apply VE.cons
    · exact ev_call rfl (gn rfl) rfl (en_of Tryd.func60 (by kernel_rfl) rfl) h4
    simp only [nm, seval]
    apply VE.cons
    · exact ev_move rfl (gn rfl)
    simp only [nm, seval]
    apply VE.cons
    · exact ev_extract rfl (gn rfl) rfl rfl
    simp only [nm, seval]
    apply VE.cons
    · exact ev_extract rfl (gn rfl) rfl rfl
    simp only [nm, seval]
    apply VE.cons
    · exact ev_store rfl (gn rfl) rfl rfl rfl Tryd.sizeOf59 rfl (by simp) rfl
    simp only [nm, seval]
    exact VE.nil _
  · kernel_rfl
  change VOk _ _ _ _ _
  refine vseq ?_
  apply vrp
  · apply VE.cons
    · first | exact ev_load rfl (gn rfl) rfl rfl Tryd.underlying59 rfl Tryd.sizeOf59 rfl rfl | exact ev_loadx rfl (gn rfl) rfl Tryd.underlying59 rfl Tryd.sizeOf59 (by assumption) rfl
    simp only [nm, seval]
    apply VE.cons
    · exact ev_store rfl (gn rfl) rfl rfl rfl Tryd.sizeOf59 rfl (by simp) rfl
    simp only [nm, seval]
    exact VE.nil _
  · kernel_rfl
  change VOk _ _ _ _ _
  refine vret ?_
  refine post_ret (res1 Tryd.results55 (rv_cell rfl rfl Tryd.underlying59 rfl Tryd.sizeOf59 rfl rfl)) ?_
  intro w' hg
  exact ⟨rfl, hg⟩
end Go.Proofs.YtbnfanmolphliaaDoor
