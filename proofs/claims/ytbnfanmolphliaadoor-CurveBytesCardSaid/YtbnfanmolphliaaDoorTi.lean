import Derived.Test.YtbnfanmolphliaaDoorProg
import Derived.Test.YtbnfanmolphliaaDoorVo
namespace Go.Proofs.YtbnfanmolphliaaDoor
open Go.RowKit Go.Toll
set_option maxHeartbeats 4000000
set_option maxRecDepth 100000
theorem of_core (orr : Nat → Nat → Nat) (cv : Nat → Nat) (shl : Nat → Int → Nat) (c0 c1 c2 c3 c4 c5 c6 c7 c8 c9 c10 c11 c12 c13 c14 c15 c16 c17 c18 c19 c20 c21 c22 c23 c24 c25 c26 c27 c28 c29 c30 c31 : Nat) (w : World)
  (hcv : ∀ (x : Nat) (w : World), (convert 5 28 (.int .u8 (x : Nat))).run Tryd.prog w = .ok (.int .u64 (cv x : Nat)) w)
  (hor : ∀ (x y : Nat) (p q : Operand) (w : World), (do eqGuard .or 28 p q (.int .u64 (x : Nat)) (.int .u64 (y : Nat)); binOp .or 28 (.int .u64 (x : Nat)) (.int .u64 (y : Nat)) : Sem Value).run Tryd.prog w = .ok (.int .u64 (orr x y : Nat)) w)
  (_hor0 : ∀ (y : Nat) (p q : Operand) (w : World), (do eqGuard .or 28 p q (.int .u64 0) (.int .u64 (y : Nat)); binOp .or 28 (.int .u64 0) (.int .u64 (y : Nat)) : Sem Value).run Tryd.prog w = .ok (.int .u64 (orr 0 y : Nat)) w)
  (hshl : ∀ (x : Nat) (s : Int) (_ : 0 ≤ s) (_ : s < 64) (p q : Operand) (w : World), (do eqGuard .shl 28 p q (.int .u64 (x : Nat)) (.int .i64 s); binOp .shl 28 (.int .u64 (x : Nat)) (.int .i64 s) : Sem Value).run Tryd.prog w = .ok (.int .u64 (shl x s : Nat)) w) :
  Calls Tryd.prog 40 #[.agg #[.int .u8 (c0 : Nat), .int .u8 (c1 : Nat), .int .u8 (c2 : Nat), .int .u8 (c3 : Nat), .int .u8 (c4 : Nat), .int .u8 (c5 : Nat), .int .u8 (c6 : Nat), .int .u8 (c7 : Nat), .int .u8 (c8 : Nat), .int .u8 (c9 : Nat), .int .u8 (c10 : Nat), .int .u8 (c11 : Nat), .int .u8 (c12 : Nat), .int .u8 (c13 : Nat), .int .u8 (c14 : Nat), .int .u8 (c15 : Nat), .int .u8 (c16 : Nat), .int .u8 (c17 : Nat), .int .u8 (c18 : Nat), .int .u8 (c19 : Nat), .int .u8 (c20 : Nat), .int .u8 (c21 : Nat), .int .u8 (c22 : Nat), .int .u8 (c23 : Nat), .int .u8 (c24 : Nat), .int .u8 (c25 : Nat), .int .u8 (c26 : Nat), .int .u8 (c27 : Nat), .int .u8 (c28 : Nat), .int .u8 (c29 : Nat), .int .u8 (c30 : Nat), .int .u8 (c31 : Nat)]] w fun e w' => e = .returned (.agg #[.int .u64 ((orr (orr (orr (orr (orr (orr (orr (orr 0 (shl (cv c24) 56)) (shl (cv c25) 48)) (shl (cv c26) 40)) (shl (cv c27) 32)) (shl (cv c28) 24)) (shl (cv c29) 16)) (shl (cv c30) 8)) (shl (cv c31) 0)) : Nat), .int .u64 ((orr (orr (orr (orr (orr (orr (orr (orr 0 (shl (cv c16) 56)) (shl (cv c17) 48)) (shl (cv c18) 40)) (shl (cv c19) 32)) (shl (cv c20) 24)) (shl (cv c21) 16)) (shl (cv c22) 8)) (shl (cv c23) 0)) : Nat), .int .u64 ((orr (orr (orr (orr (orr (orr (orr (orr 0 (shl (cv c8) 56)) (shl (cv c9) 48)) (shl (cv c10) 40)) (shl (cv c11) 32)) (shl (cv c12) 24)) (shl (cv c13) 16)) (shl (cv c14) 8)) (shl (cv c15) 0)) : Nat), .int .u64 ((orr (orr (orr (orr (orr (orr (orr (orr 0 (shl (cv c0) 56)) (shl (cv c1) 48)) (shl (cv c2) 40)) (shl (cv c3) 32)) (shl (cv c4) 24)) (shl (cv c5) 16)) (shl (cv c6) 8)) (shl (cv c7) 0)) : Nat)]) ∧ Gw w w' := by
  go_enter Tryd.func40, Tryd.ntmps40
  refine ve_go ?_
  simp only [List.map_cons, List.map_nil]
  refine vseq ?_
  apply vrp
  · apply VE.cons
    · exact ev_box rfl rfl (gn rfl) rfl
    simp only [nm, seval]
    apply VE.cons
    · exact ev_alloc rfl rfl (gn rfl) Tryd.zeroValue59
    simp only [nm, seval]
    exact VE.nil _
  · kernel_rfl
  change VOk _ _ _ _ _
  refine vseq ?_
  apply vrp
  · apply VE.cons
    · exact ev_alloc rfl rfl (gn rfl) Tryd.zeroValue59
    simp only [nm, seval]
    exact VE.nil _
  · kernel_rfl
  change VOk _ _ _ _ _
  refine vseq ?_
  refine vseq ?_
  apply vrp
  · apply VE.cons
    · first | exact ev_load rfl (gn rfl) rfl rfl Tryd.underlying22 rfl Tryd.sizeOf22 rfl rfl | exact ev_loadx rfl (gn rfl) rfl Tryd.underlying22 rfl Tryd.sizeOf22 (by assumption) rfl
    simp only [nm, seval]
    apply VE.cons
    · exact ev_move rfl (gn rfl)
    simp only [nm, seval]
    exact VE.nil _
  · kernel_rfl
  change VOk _ _ _ _ _
  refine vblock ?_
  refine vloop 33 ?_
  iterate 32
    change VOk _ _ _ _ _
    refine vseq ?_
    apply vrp
    · apply VE.cons
      · refine ev_pure' (gn rfl) (fun ρ w => by simp only [VS.act, SV.c, List.map_cons, List.map_nil]; go_simp; exact rfl) (fun _ _ => rfl)
      simp only [nm, seval]
      exact VE.nil _
    · kernel_rfl
    change VOk _ _ _ _ _
    refine vseq ?_
    refine vcond_t rfl ?_
    refine vskip ?_
    change VOk _ _ _ _ _
    refine vseq ?_
    refine vblock ?_
    refine vseq ?_
    apply vrp
    · apply VE.cons
      · exact ev_move rfl (gn rfl)
      simp only [nm, seval]
      apply VE.cons
      · refine ev_pure' (gn rfl) (fun ρ w => by simp only [VS.act, SV.c, List.map_cons, List.map_nil]; go_simp; exact rfl) (fun _ _ => rfl)
      simp only [nm, seval]
      apply VE.cons
      · exact ev_assign rfl (gn rfl)
      simp only [nm, seval]
      apply VE.cons
      · exact ev_assign rfl (gn rfl)
      simp only [nm, seval]
      exact VE.nil _
    · kernel_rfl
    change VOk _ _ _ _ _
    apply vrd (by kernel_rfl)
    · apply VE.cons
      · exact ev_move rfl (gn rfl)
      simp only [nm, seval]
      apply VE.cons
      · refine ev_pure' (gn rfl) (fun ρ w => by simp only [VS.act, SV.c, List.map_cons, List.map_nil]; go_simp; exact rfl) (fun _ _ => rfl)
      simp only [nm, seval]
      apply VE.cons
      · refine ev_pure' (gn rfl) (fun ρ w => by simp only [VS.act, SV.c, List.map_cons, List.map_nil]; go_simp; exact rfl) (fun _ _ => rfl)
      simp only [nm, seval]
      apply VE.cons
      · first | exact ev_index rfl (gn rfl) rfl rfl Tryd.underlying59 Tryd.sizeOf28 (by decide) (by decide) | exact ev_indexx rfl (gn rfl) rfl rfl Tryd.underlying59 Tryd.sizeOf28 (by decide) (by decide)
      simp only [nm, seval]
      apply VE.cons
      · first | exact ev_load1 rfl (gn rfl) rfl rfl Tryd.underlying28 rfl rfl | exact ev_loadx1 rfl (gn rfl) rfl Tryd.underlying28 rfl (by first | assumption | exact hm 0 _ rfl | exact hm 1 _ rfl | exact hm 2 _ rfl | exact hm 3 _ rfl)
      simp only [nm, seval]
      apply VE.cons
      · exact ev_move rfl (gn rfl)
      simp only [nm, seval]
      apply VE.cons
      · exact ev_conv rfl (gn rfl) rfl (fun w => hcv _ w)
      simp only [nm, seval]
      apply VE.cons
      · exact ev_move rfl (gn rfl)
      simp only [nm, seval]
      apply VE.cons
      · refine ev_pure' (gn rfl) (fun ρ w => by simp only [VS.act, SV.c, List.map_cons, List.map_nil]; go_simp; exact rfl) (fun _ _ => rfl)
      simp only [nm, seval]
      apply VE.cons
      · refine ev_pure' (gn rfl) (fun ρ w => by simp only [VS.act, SV.c, List.map_cons, List.map_nil]; go_simp; exact rfl) (fun _ _ => rfl)
      simp only [nm, seval]
      apply VE.cons
      · refine ev_pure' (gn rfl) (fun ρ w => by simp only [VS.act, SV.c, List.map_cons, List.map_nil]; go_simp; exact rfl) (fun _ _ => rfl)
      simp only [nm, seval]
      apply VE.cons
      · exact ev_bin rfl (gn rfl) rfl rfl (fun w => hshl _ _ (by decide) (by decide) _ _ w)
      simp only [nm, seval]
      apply VE.cons
      · first | exact ev_bin rfl (gn rfl) rfl rfl (fun w => hor _ _ _ _ w) | exact ev_bin rfl (gn rfl) rfl rfl (fun w => hor0 _ _ _ w)
      simp only [nm, seval]
      apply VE.cons
      · first | exact ev_index rfl (gn rfl) rfl rfl Tryd.underlying59 Tryd.sizeOf28 (by decide) (by decide) | exact ev_indexx rfl (gn rfl) rfl rfl Tryd.underlying59 Tryd.sizeOf28 (by decide) (by decide)
      simp only [nm, seval]
      apply VE.cons
      · exact ev_store rfl (gn rfl) rfl rfl rfl Tryd.sizeOf28 rfl (by simp) rfl
      simp only [nm, seval]
      exact VE.nil _
    · kernel_rfl
    change VOk _ _ _ _ _
    apply vrp
    · apply VE.cons
      · refine ev_pure' (gn rfl) (fun ρ w => by simp only [VS.act, SV.c, List.map_cons, List.map_nil]; go_simp; exact rfl) (fun _ _ => rfl)
      simp only [nm, seval]
      apply VE.cons
      · exact ev_move rfl (gn rfl)
      simp only [nm, seval]
      exact VE.nil _
    · kernel_rfl
  change VOk _ _ _ _ _
  refine vseq ?_
  apply vrp
  · apply VE.cons
    · refine ev_pure' (gn rfl) (fun ρ w => by simp only [VS.act, SV.c, List.map_cons, List.map_nil]; go_simp; exact rfl) (fun _ _ => rfl)
    simp only [nm, seval]
    exact VE.nil _
  · kernel_rfl
  change VOk _ _ _ _ _
  refine vseq ?_
  refine vcond_f rfl ?_
  refine vexit ?_
  change VOk _ _ _ _ _
  refine vseq ?_
  apply vrp
  · apply VE.cons
    · first | exact ev_load rfl (gn rfl) rfl rfl Tryd.underlying59 rfl Tryd.sizeOf59 rfl rfl | exact ev_loadx rfl (gn rfl) rfl Tryd.underlying59 rfl Tryd.sizeOf59 (by assumption) rfl
    simp only [nm, seval]
    apply VE.cons
    · exact ev_store rfl (gn rfl) rfl rfl rfl Tryd.sizeOf59 rfl (by simp) rfl
    simp only [nm, seval]
    exact VE.nil _
  · kernel_rfl
  change VOk _ _ _ _ _
  refine vret ?_
  refine post_ret (res1 Tryd.results40 (rv_cell rfl rfl Tryd.underlying59 rfl Tryd.sizeOf59 rfl rfl)) ?_
  intro w' hg
  exact ⟨rfl, hg⟩
theorem refof_core (orr : Nat → Nat → Nat) (cv : Nat → Nat) (shl : Nat → Nat) (c0 c1 c2 c3 c4 c5 c6 c7 c8 c9 c10 c11 c12 c13 c14 c15 c16 c17 c18 c19 c20 c21 c22 c23 c24 c25 c26 c27 c28 c29 c30 c31 : Nat) (w : World)
  (hcv : ∀ (x : Nat) (w : World), (convert 5 28 (.int .u8 (x : Nat))).run Tryd.prog w = .ok (.int .u64 (cv x : Nat)) w)
  (hor : ∀ (x y : Nat) (p q : Operand) (w : World), (do eqGuard .or 28 p q (.int .u64 (x : Nat)) (.int .u64 (y : Nat)); binOp .or 28 (.int .u64 (x : Nat)) (.int .u64 (y : Nat)) : Sem Value).run Tryd.prog w = .ok (.int .u64 (orr x y : Nat)) w)
  (hshl : ∀ (x : Nat) (p q : Operand) (w : World), (do eqGuard .shl 28 p q (.int .u64 (x : Nat)) (.int .u64 8); binOp .shl 28 (.int .u64 (x : Nat)) (.int .u64 8) : Sem Value).run Tryd.prog w = .ok (.int .u64 (shl x : Nat)) w)
  (_hshl0 : ∀ (p q : Operand) (w : World), (do eqGuard .shl 28 p q (.int .u64 0) (.int .u64 8); binOp .shl 28 (.int .u64 0) (.int .u64 8) : Sem Value).run Tryd.prog w = .ok (.int .u64 (shl 0 : Nat)) w) :
  Calls Tryd.prog 19 #[.agg #[.int .u8 (c0 : Nat), .int .u8 (c1 : Nat), .int .u8 (c2 : Nat), .int .u8 (c3 : Nat), .int .u8 (c4 : Nat), .int .u8 (c5 : Nat), .int .u8 (c6 : Nat), .int .u8 (c7 : Nat), .int .u8 (c8 : Nat), .int .u8 (c9 : Nat), .int .u8 (c10 : Nat), .int .u8 (c11 : Nat), .int .u8 (c12 : Nat), .int .u8 (c13 : Nat), .int .u8 (c14 : Nat), .int .u8 (c15 : Nat), .int .u8 (c16 : Nat), .int .u8 (c17 : Nat), .int .u8 (c18 : Nat), .int .u8 (c19 : Nat), .int .u8 (c20 : Nat), .int .u8 (c21 : Nat), .int .u8 (c22 : Nat), .int .u8 (c23 : Nat), .int .u8 (c24 : Nat), .int .u8 (c25 : Nat), .int .u8 (c26 : Nat), .int .u8 (c27 : Nat), .int .u8 (c28 : Nat), .int .u8 (c29 : Nat), .int .u8 (c30 : Nat), .int .u8 (c31 : Nat)]] w fun e w' => e = .returned (.agg #[.int .u64 ((orr (shl (orr (shl (orr (shl (orr (shl (orr (shl (orr (shl (orr (shl (orr (shl 0) (cv c24))) (cv c25))) (cv c26))) (cv c27))) (cv c28))) (cv c29))) (cv c30))) (cv c31)) : Nat), .int .u64 ((orr (shl (orr (shl (orr (shl (orr (shl (orr (shl (orr (shl (orr (shl (orr (shl 0) (cv c16))) (cv c17))) (cv c18))) (cv c19))) (cv c20))) (cv c21))) (cv c22))) (cv c23)) : Nat), .int .u64 ((orr (shl (orr (shl (orr (shl (orr (shl (orr (shl (orr (shl (orr (shl (orr (shl 0) (cv c8))) (cv c9))) (cv c10))) (cv c11))) (cv c12))) (cv c13))) (cv c14))) (cv c15)) : Nat), .int .u64 ((orr (shl (orr (shl (orr (shl (orr (shl (orr (shl (orr (shl (orr (shl (orr (shl 0) (cv c0))) (cv c1))) (cv c2))) (cv c3))) (cv c4))) (cv c5))) (cv c6))) (cv c7)) : Nat)]) ∧ Gw w w' := by
  go_enter Tryd.func19, Tryd.ntmps19
  refine ve_go ?_
  simp only [List.map_cons, List.map_nil]
  refine vseq ?_
  apply vrp
  · apply VE.cons
    · exact ev_box rfl rfl (gn rfl) rfl
    simp only [nm, seval]
    apply VE.cons
    · exact ev_alloc rfl rfl (gn rfl) Tryd.zeroValue29
    simp only [nm, seval]
    exact VE.nil _
  · kernel_rfl
  change VOk _ _ _ _ _
  refine vseq ?_
  apply vrp
  · apply VE.cons
    · exact ev_alloc rfl rfl (gn rfl) Tryd.zeroValue29
    simp only [nm, seval]
    exact VE.nil _
  · kernel_rfl
  change VOk _ _ _ _ _
  refine vseq ?_
  refine vseq ?_
  apply vrp
  · apply VE.cons
    · exact ev_assign rfl (gn rfl)
    simp only [nm, seval]
    exact VE.nil _
  · kernel_rfl
  change VOk _ _ _ _ _
  refine vblock ?_
  refine vloop 33 ?_
  iterate 32
    change VOk _ _ _ _ _
    refine vseq ?_
    refine vseq ?_
    apply vrp
    · apply VE.cons
      · exact ev_move rfl (gn rfl)
      simp only [nm, seval]
      apply VE.cons
      · refine ev_pure' (gn rfl) (fun ρ w => by simp only [VS.act, SV.c, List.map_cons, List.map_nil]; go_simp; exact rfl) (fun _ _ => rfl)
      simp only [nm, seval]
      exact VE.nil _
    · kernel_rfl
    change VOk _ _ _ _ _
    refine vcond_t rfl ?_
    refine vskip ?_
    change VOk _ _ _ _ _
    refine vseq ?_
    refine vblock ?_
    apply vrd (by kernel_rfl)
    · apply VE.cons
      · exact ev_move rfl (gn rfl)
      simp only [nm, seval]
      apply VE.cons
      · refine ev_pure' (gn rfl) (fun ρ w => by simp only [VS.act, SV.c, List.map_cons, List.map_nil]; go_simp; exact rfl) (fun _ _ => rfl)
      simp only [nm, seval]
      apply VE.cons
      · refine ev_pure' (gn rfl) (fun ρ w => by simp only [VS.act, SV.c, List.map_cons, List.map_nil]; go_simp; exact rfl) (fun _ _ => rfl)
      simp only [nm, seval]
      apply VE.cons
      · exact ev_move rfl (gn rfl)
      simp only [nm, seval]
      apply VE.cons
      · refine ev_pure' (gn rfl) (fun ρ w => by simp only [VS.act, SV.c, List.map_cons, List.map_nil]; go_simp; exact rfl) (fun _ _ => rfl)
      simp only [nm, seval]
      apply VE.cons
      · refine ev_pure' (gn rfl) (fun ρ w => by simp only [VS.act, SV.c, List.map_cons, List.map_nil]; go_simp; exact rfl) (fun _ _ => rfl)
      simp only [nm, seval]
      apply VE.cons
      · first | exact ev_index rfl (gn rfl) rfl rfl Tryd.underlying29 Tryd.sizeOf28 (by decide) (by decide) | exact ev_indexx rfl (gn rfl) rfl rfl Tryd.underlying29 Tryd.sizeOf28 (by decide) (by decide)
      simp only [nm, seval]
      apply VE.cons
      · first | exact ev_load1 rfl (gn rfl) rfl rfl Tryd.underlying28 rfl rfl | exact ev_loadx1 rfl (gn rfl) rfl Tryd.underlying28 rfl (by first | assumption | exact hm 0 _ rfl | exact hm 1 _ rfl | exact hm 2 _ rfl | exact hm 3 _ rfl)
      simp only [nm, seval]
      apply VE.cons
      · first | exact ev_bin rfl (gn rfl) rfl rfl (fun w => hshl _ _ _ w) | exact ev_bin rfl (gn rfl) rfl rfl (fun w => hshl0 _ _ w)
      simp only [nm, seval]
      apply VE.cons
      · exact ev_move rfl (gn rfl)
      simp only [nm, seval]
      apply VE.cons
      · first | exact ev_index rfl (gn rfl) rfl rfl Tryd.underlying22 Tryd.sizeOf5 (by decide) (by decide) | exact ev_indexx rfl (gn rfl) rfl rfl Tryd.underlying22 Tryd.sizeOf5 (by decide) (by decide)
      simp only [nm, seval]
      apply VE.cons
      · first | exact ev_load1 rfl (gn rfl) rfl rfl Tryd.underlying5 rfl rfl | exact ev_loadx1 rfl (gn rfl) rfl Tryd.underlying5 rfl (by first | assumption | exact hm 0 _ rfl | exact hm 1 _ rfl | exact hm 2 _ rfl | exact hm 3 _ rfl)
      simp only [nm, seval]
      apply VE.cons
      · exact ev_conv rfl (gn rfl) rfl (fun w => hcv _ w)
      simp only [nm, seval]
      apply VE.cons
      · exact ev_bin rfl (gn rfl) rfl rfl (fun w => hor _ _  _ _ w)
      simp only [nm, seval]
      apply VE.cons
      · first | exact ev_index rfl (gn rfl) rfl rfl Tryd.underlying29 Tryd.sizeOf28 (by decide) (by decide) | exact ev_indexx rfl (gn rfl) rfl rfl Tryd.underlying29 Tryd.sizeOf28 (by decide) (by decide)
      simp only [nm, seval]
      apply VE.cons
      · exact ev_store rfl (gn rfl) rfl rfl rfl Tryd.sizeOf28 rfl (by simp) rfl
      simp only [nm, seval]
      exact VE.nil _
    · kernel_rfl
    change VOk _ _ _ _ _
    apply vrp
    · apply VE.cons
      · exact ev_move rfl (gn rfl)
      simp only [nm, seval]
      apply VE.cons
      · refine ev_pure' (gn rfl) (fun ρ w => by simp only [VS.act, SV.c, List.map_cons, List.map_nil]; go_simp; exact rfl) (fun _ _ => rfl)
      simp only [nm, seval]
      apply VE.cons
      · exact ev_assign rfl (gn rfl)
      simp only [nm, seval]
      exact VE.nil _
    · kernel_rfl
  change VOk _ _ _ _ _
  refine vseq ?_
  refine vseq ?_
  apply vrp
  · apply VE.cons
    · exact ev_move rfl (gn rfl)
    simp only [nm, seval]
    apply VE.cons
    · refine ev_pure' (gn rfl) (fun ρ w => by simp only [VS.act, SV.c, List.map_cons, List.map_nil]; go_simp; exact rfl) (fun _ _ => rfl)
    simp only [nm, seval]
    exact VE.nil _
  · kernel_rfl
  change VOk _ _ _ _ _
  refine vcond_f rfl ?_
  refine vexit ?_
  change VOk _ _ _ _ _
  refine vseq ?_
  apply vrp
  · apply VE.cons
    · first | exact ev_load rfl (gn rfl) rfl rfl Tryd.underlying29 rfl Tryd.sizeOf29 rfl rfl | exact ev_loadx rfl (gn rfl) rfl Tryd.underlying29 rfl Tryd.sizeOf29 (by assumption) rfl
    simp only [nm, seval]
    apply VE.cons
    · exact ev_store rfl (gn rfl) rfl rfl rfl Tryd.sizeOf29 rfl (by simp) rfl
    simp only [nm, seval]
    exact VE.nil _
  · kernel_rfl
  change VOk _ _ _ _ _
  refine vret ?_
  refine post_ret (res1 Tryd.results19 (rv_cell rfl rfl Tryd.underlying29 rfl Tryd.sizeOf29 rfl rfl)) ?_
  intro w' hg
  exact ⟨rfl, hg⟩
end Go.Proofs.YtbnfanmolphliaaDoor
