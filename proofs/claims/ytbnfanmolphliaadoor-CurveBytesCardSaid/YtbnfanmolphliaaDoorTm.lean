import Derived.Test.YtbnfanmolphliaaDoorProg
import Derived.Test.YtbnfanmolphliaaDoorVo
namespace Go.Proofs.YtbnfanmolphliaaDoor
open Go.RowKit Go.Toll
set_option maxHeartbeats 4000000
set_option maxRecDepth 100000
theorem madd_nil (l : Nat → Nat → Nat) (x y : Nat) (w : World) : Calls Tryd.prog 53 #[.pointer none, .agg #[.int .u64 (l x 0 : Nat), .int .u64 (l x 1 : Nat), .int .u64 (l x 2 : Nat), .int .u64 (l x 3 : Nat)], .agg #[.int .u64 (l y 0 : Nat), .int .u64 (l y 1 : Nat), .int .u64 (l y 2 : Nat), .int .u64 (l y 3 : Nat)]] w fun e w' => e = .returned (.agg #[.int .u64 0, .int .u64 0, .int .u64 0, .int .u64 0]) ∧ Gw w w' := by
  go_enter Tryd.func53, Tryd.ntmps53
  refine ve_go ?_
  simp only [List.map_cons, List.map_nil]
  refine vseq ?_
  apply vrp
  · apply VE.cons
    · exact ev_box rfl rfl (gn rfl) rfl
    simp only [nm, seval]
    apply VE.cons
    · exact ev_box rfl rfl (gn rfl) rfl
    simp only [nm, seval]
    apply VE.cons
    · exact ev_alloc rfl rfl (gn rfl) Tryd.zeroValue59
    simp only [nm, seval]
    exact VE.nil _
  · kernel_rfl
  change VOk _ _ _ _ _
  refine vseq ?_
  refine vseq ?_
  apply vrp
  · apply VE.cons
    · exact ev_move rfl (gn rfl)
    simp only [nm, seval]
    apply VE.cons
    · refine ev_pure' (gn rfl) (fun ρ w => by simp only [VS.act, SV.c, List.map_cons, List.map_nil]; go_simp; exact rfl) (fun _ _ => rfl)
    simp only [nm, seval]
    exact VE.nil _
  · kernel_rfl
  change VOk _ _ _ _ _
  refine vcond_t rfl ?_
  refine vseq ?_
  apply vrp
  · apply VE.cons
    · refine ev_pure' (gn rfl) (fun ρ w => by simp only [VS.act, SV.c, List.map_cons, List.map_nil]; go_simp; exact rfl) (fun _ _ => rfl)
    simp only [nm, seval]
    apply VE.cons
    · exact ev_store rfl (gn rfl) rfl rfl rfl Tryd.sizeOf59 rfl (by simp) rfl
    simp only [nm, seval]
    exact VE.nil _
  · kernel_rfl
  change VOk _ _ _ _ _
  refine vret ?_
  refine post_ret (res1 Tryd.results53 (rv_cell rfl rfl Tryd.underlying59 rfl Tryd.sizeOf59 rfl rfl)) ?_
  intro w' hg
  exact ⟨rfl, hg⟩
theorem rest_nil (l : Nat → Nat → Nat) (x : Nat) (w : World) : Calls Tryd.prog 62 #[.pointer none, .agg #[.int .u64 (l x 0 : Nat), .int .u64 (l x 1 : Nat), .int .u64 (l x 2 : Nat), .int .u64 (l x 3 : Nat)]] w fun e w' => e = .returned (.agg #[.int .u64 0, .int .u64 0, .int .u64 0, .int .u64 0]) ∧ Gw w w' := by
  go_enter Tryd.func62, Tryd.ntmps62
  refine ve_go ?_
  simp only [List.map_cons, List.map_nil]
  refine vseq ?_
  apply vrp
  · apply VE.cons
    · exact ev_box rfl rfl (gn rfl) rfl
    simp only [nm, seval]
    apply VE.cons
    · exact ev_alloc rfl rfl (gn rfl) Tryd.zeroValue59
    simp only [nm, seval]
    exact VE.nil _
  · kernel_rfl
  change VOk _ _ _ _ _
  refine vseq ?_
  refine vseq ?_
  apply vrp
  · apply VE.cons
    · exact ev_move rfl (gn rfl)
    simp only [nm, seval]
    apply VE.cons
    · refine ev_pure' (gn rfl) (fun ρ w => by simp only [VS.act, SV.c, List.map_cons, List.map_nil]; go_simp; exact rfl) (fun _ _ => rfl)
    simp only [nm, seval]
    exact VE.nil _
  · kernel_rfl
  change VOk _ _ _ _ _
  refine vcond_t rfl ?_
  refine vseq ?_
  apply vrp
  · apply VE.cons
    · refine ev_pure' (gn rfl) (fun ρ w => by simp only [VS.act, SV.c, List.map_cons, List.map_nil]; go_simp; exact rfl) (fun _ _ => rfl)
    simp only [nm, seval]
    apply VE.cons
    · exact ev_store rfl (gn rfl) rfl rfl rfl Tryd.sizeOf59 rfl (by simp) rfl
    simp only [nm, seval]
    exact VE.nil _
  · kernel_rfl
  change VOk _ _ _ _ _
  refine vret ?_
  refine post_ret (res1 Tryd.results62 (rv_cell rfl rfl Tryd.underlying59 rfl Tryd.sizeOf59 rfl rfl)) ?_
  intro w' hg
  exact ⟨rfl, hg⟩
end Go.Proofs.YtbnfanmolphliaaDoor
