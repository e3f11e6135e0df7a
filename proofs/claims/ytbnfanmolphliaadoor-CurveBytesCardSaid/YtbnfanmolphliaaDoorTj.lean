import Derived.Test.YtbnfanmolphliaaDoorProg
import Derived.Test.YtbnfanmolphliaaDoorVo
namespace Go.Proofs.YtbnfanmolphliaaDoor
open Go.RowKit Go.Toll
set_option maxHeartbeats 4000000
set_option maxRecDepth 100000
theorem plus_core (f : Nat → Nat → Nat) (lt : Nat → Nat → Bool) (eq1 : Nat → Bool) (a0 a1 a2 a3 b0 b1 b2 b3 : Nat) (w : World)
  (hf : ∀ (x y : Nat) (p q : Operand) (w : World), (do eqGuard .add 28 p q (.int .u64 (x : Nat)) (.int .u64 (y : Nat)); binOp .add 28 (.int .u64 (x : Nat)) (.int .u64 (y : Nat)) : Sem Value).run Tryd.prog w = .ok (.int .u64 (f x y : Nat)) w)
  (_hf0 : ∀ (x : Nat) (p q : Operand) (w : World), (do eqGuard .add 28 p q (.int .u64 (x : Nat)) (.int .u64 0); binOp .add 28 (.int .u64 (x : Nat)) (.int .u64 0) : Sem Value).run Tryd.prog w = .ok (.int .u64 (f x 0 : Nat)) w)
  (hlt : ∀ (x y : Nat) (p q : Operand) (w : World), (do eqGuard .lss 28 p q (.int .u64 (x : Nat)) (.int .u64 (y : Nat)); binOp .lss 28 (.int .u64 (x : Nat)) (.int .u64 (y : Nat)) : Sem Value).run Tryd.prog w = .ok (.bool (lt x y)) w)
  (_hlt0 : ∀ (x : Nat) (p q : Operand) (w : World), (do eqGuard .lss 28 p q (.int .u64 (x : Nat)) (.int .u64 0); binOp .lss 28 (.int .u64 (x : Nat)) (.int .u64 0) : Sem Value).run Tryd.prog w = .ok (.bool (lt x 0)) w)
  (he : ∀ (x : Nat) (p q : Operand) (w : World), (do eqGuard .eql 28 p q (.int .u64 (x : Nat)) (.int .u64 1); binOp .eql 28 (.int .u64 (x : Nat)) (.int .u64 1) : Sem Value).run Tryd.prog w = .ok (.bool (eq1 x)) w) :
  Calls Tryd.prog 46 #[.agg #[.int .u64 (a0 : Nat), .int .u64 (a1 : Nat), .int .u64 (a2 : Nat), .int .u64 (a3 : Nat)], .agg #[.int .u64 (b0 : Nat), .int .u64 (b1 : Nat), .int .u64 (b2 : Nat), .int .u64 (b3 : Nat)]] w fun e w' => e = .returned (.tuple #[.agg #[.int .u64 ((f (f a0 b0) 0) : Nat), .int .u64 ((f (f a1 b1) (bn ((false || lt (f a0 b0) a0) || lt (f (f a0 b0) 0) (f a0 b0)))) : Nat), .int .u64 ((f (f a2 b2) (bn ((false || lt (f a1 b1) a1) || lt (f (f a1 b1) (bn ((false || lt (f a0 b0) a0) || lt (f (f a0 b0) 0) (f a0 b0)))) (f a1 b1)))) : Nat), .int .u64 ((f (f a3 b3) (bn ((false || lt (f a2 b2) a2) || lt (f (f a2 b2) (bn ((false || lt (f a1 b1) a1) || lt (f (f a1 b1) (bn ((false || lt (f a0 b0) a0) || lt (f (f a0 b0) 0) (f a0 b0)))) (f a1 b1)))) (f a2 b2)))) : Nat)], .bool (eq1 (bn ((false || lt (f a3 b3) a3) || lt (f (f a3 b3) (bn ((false || lt (f a2 b2) a2) || lt (f (f a2 b2) (bn ((false || lt (f a1 b1) a1) || lt (f (f a1 b1) (bn ((false || lt (f a0 b0) a0) || lt (f (f a0 b0) 0) (f a0 b0)))) (f a1 b1)))) (f a2 b2)))) (f a3 b3))))]) ∧ Gw w w' := by
  go_enter Tryd.func46, Tryd.ntmps46
  refine ve_go ?_
  simp only [List.map_cons, List.map_nil]
  refine vseq ?_
  apply vrp
  · apply VE.cons
    · exact ev_box rfl rfl (gn rfl) rfl
    simp only [nm, seval]
    apply VE.cons
    · exact ev_box rfl rfl (gn rfl) rfl
    simp only [nm, seval]
    apply VE.cons
    · exact ev_alloc rfl rfl (gn rfl) Tryd.zeroValue29
    simp only [nm, seval]
    apply VE.cons
    · exact ev_assign rfl (gn rfl)
    simp only [nm, seval]
    exact VE.nil _
  · kernel_rfl
  change VOk _ _ _ _ _
  refine vseq ?_
  apply vrp
  · apply VE.cons
    · exact ev_alloc rfl rfl (gn rfl) Tryd.zeroValue29
    simp only [nm, seval]
    exact VE.nil _
  · kernel_rfl
  change VOk _ _ _ _ _
  refine vseq ?_
  apply vrp
  · apply VE.cons
    · exact ev_assign rfl (gn rfl)
    simp only [nm, seval]
    exact VE.nil _
  · kernel_rfl
  change VOk _ _ _ _ _
  refine vseq ?_
  refine vseq ?_
  apply vrp
  · apply VE.cons
    · exact ev_assign rfl (gn rfl)
    simp only [nm, seval]
    exact VE.nil _
  · kernel_rfl
  change VOk _ _ _ _ _
  refine vblock ?_
  refine vloop 5 ?_
  iterate 4
    change VOk _ _ _ _ _
    refine vseq ?_
    refine vseq ?_
    apply vrp
    · apply VE.cons
      · exact ev_move rfl (gn rfl)
      simp only [nm, seval]
      apply VE.cons
      · refine ev_pure' (gn rfl) (fun ρ w => by simp only [VS.act, SV.c, List.map_cons, List.map_nil]; go_simp; exact rfl) (fun _ _ => rfl)
      simp only [nm, seval]
      exact VE.nil _
    · kernel_rfl
    change VOk _ _ _ _ _
    refine vcond_t rfl ?_
    refine vskip ?_
    change VOk _ _ _ _ _
    refine vseq ?_
    refine vblock ?_
    refine vseq ?_
    apply vrd (by kernel_rfl)
    · apply VE.cons
      · exact ev_move rfl (gn rfl)
      simp only [nm, seval]
      apply VE.cons
      · first | exact ev_index rfl (gn rfl) rfl rfl Tryd.underlying29 Tryd.sizeOf28 (by decide) (by decide) | exact ev_indexx rfl (gn rfl) rfl rfl Tryd.underlying29 Tryd.sizeOf28 (by decide) (by decide)
      simp only [nm, seval]
      apply VE.cons
      · first | exact ev_load1 rfl (gn rfl) rfl rfl Tryd.underlying28 rfl rfl | exact ev_loadx1 rfl (gn rfl) rfl Tryd.underlying28 rfl (by first | assumption | exact hm 0 _ rfl | exact hm 1 _ rfl | exact hm 2 _ rfl | exact hm 3 _ rfl)
      simp only [nm, seval]
      apply VE.cons
      · exact ev_move rfl (gn rfl)
      simp only [nm, seval]
      apply VE.cons
      · first | exact ev_index rfl (gn rfl) rfl rfl Tryd.underlying29 Tryd.sizeOf28 (by decide) (by decide) | exact ev_indexx rfl (gn rfl) rfl rfl Tryd.underlying29 Tryd.sizeOf28 (by decide) (by decide)
      simp only [nm, seval]
      apply VE.cons
      · first | exact ev_load1 rfl (gn rfl) rfl rfl Tryd.underlying28 rfl rfl | exact ev_loadx1 rfl (gn rfl) rfl Tryd.underlying28 rfl (by first | assumption | exact hm 0 _ rfl | exact hm 1 _ rfl | exact hm 2 _ rfl | exact hm 3 _ rfl)
      simp only [nm, seval]
      apply VE.cons
      · exact ev_bin rfl (gn rfl) rfl rfl (fun w => hf _ _  _ _ w)
      simp only [nm, seval]
      apply VE.cons
      · exact ev_assign rfl (gn rfl)
      simp only [nm, seval]
      exact VE.nil _
    · kernel_rfl
    change VOk _ _ _ _ _
    refine vseq ?_
    apply vrp
    · apply VE.cons
      · exact ev_assign rfl (gn rfl)
      simp only [nm, seval]
      exact VE.nil _
    · kernel_rfl
    change VOk _ _ _ _ _
    refine vseq ?_
    refine vseq ?_
    apply vrp
    · apply VE.cons
      · exact ev_move rfl (gn rfl)
      simp only [nm, seval]
      apply VE.cons
      · exact ev_move rfl (gn rfl)
      simp only [nm, seval]
      apply VE.cons
      · first | exact ev_index rfl (gn rfl) rfl rfl Tryd.underlying29 Tryd.sizeOf28 (by decide) (by decide) | exact ev_indexx rfl (gn rfl) rfl rfl Tryd.underlying29 Tryd.sizeOf28 (by decide) (by decide)
      simp only [nm, seval]
      apply VE.cons
      · first | exact ev_load1 rfl (gn rfl) rfl rfl Tryd.underlying28 rfl rfl | exact ev_loadx1 rfl (gn rfl) rfl Tryd.underlying28 rfl (by first | assumption | exact hm 0 _ rfl | exact hm 1 _ rfl | exact hm 2 _ rfl | exact hm 3 _ rfl)
      simp only [nm, seval]
      apply VE.cons
      · exact ev_bin rfl (gn rfl) rfl rfl (fun w => hlt _ _  _ _ w)
      simp only [nm, seval]
      exact VE.nil _
    · kernel_rfl
    change VOk _ _ _ _ _
    refine vset (b0 := false) (d := 10) rfl rfl (fun Q hQ => ?_) ?_
    · change VOk _ _ _ _ _
      apply vrp
      · apply VE.cons
        · exact ev_assign rfl (gn rfl)
        simp only [nm, seval]
        exact VE.nil _
      · kernel_rfl
      exact hQ
    simp only [List.set_cons_zero, List.set_cons_succ]
    change VOk _ _ _ _ _
    refine vseq ?_
    apply vrp
    · apply VE.cons
      · exact ev_move rfl (gn rfl)
      simp only [nm, seval]
      apply VE.cons
      · exact ev_move rfl (gn rfl)
      simp only [nm, seval]
      apply VE.cons
      · exact ev_move rfl (gn rfl)
      simp only [nm, seval]
      apply VE.cons
      · first | exact ev_bin rfl (gn rfl) rfl rfl (fun w => hf _ _  _ _ w) | exact ev_bin rfl (gn rfl) rfl rfl (fun w => hf0 _  _ _ w)
      simp only [nm, seval]
      apply VE.cons
      · first | exact ev_index rfl (gn rfl) rfl rfl Tryd.underlying29 Tryd.sizeOf28 (by decide) (by decide) | exact ev_indexx rfl (gn rfl) rfl rfl Tryd.underlying29 Tryd.sizeOf28 (by decide) (by decide)
      simp only [nm, seval]
      apply VE.cons
      · exact ev_store rfl (gn rfl) rfl rfl rfl Tryd.sizeOf28 rfl (by simp) rfl
      simp only [nm, seval]
      exact VE.nil _
    · kernel_rfl
    change VOk _ _ _ _ _
    refine vseq ?_
    refine vseq ?_
    apply vrp
    · apply VE.cons
      · exact ev_move rfl (gn rfl)
      simp only [nm, seval]
      apply VE.cons
      · first | exact ev_index rfl (gn rfl) rfl rfl Tryd.underlying29 Tryd.sizeOf28 (by decide) (by decide) | exact ev_indexx rfl (gn rfl) rfl rfl Tryd.underlying29 Tryd.sizeOf28 (by decide) (by decide)
      simp only [nm, seval]
      apply VE.cons
      · first | exact ev_load1 rfl (gn rfl) rfl rfl Tryd.underlying28 rfl rfl | exact ev_loadx1 rfl (gn rfl) rfl Tryd.underlying28 rfl (by first | assumption | exact hm 0 _ rfl | exact hm 1 _ rfl | exact hm 2 _ rfl | exact hm 3 _ rfl)
      simp only [nm, seval]
      apply VE.cons
      · exact ev_move rfl (gn rfl)
      simp only [nm, seval]
      apply VE.cons
      · exact ev_bin rfl (gn rfl) rfl rfl (fun w => hlt _ _  _ _ w)
      simp only [nm, seval]
      exact VE.nil _
    · kernel_rfl
    change VOk _ _ _ _ _
    refine vset (b0 := _) (d := 10) rfl rfl (fun Q hQ => ?_) ?_
    · change VOk _ _ _ _ _
      apply vrp
      · apply VE.cons
        · exact ev_assign rfl (gn rfl)
        simp only [nm, seval]
        exact VE.nil _
      · kernel_rfl
      exact hQ
    simp only [List.set_cons_zero, List.set_cons_succ]
    change VOk _ _ _ _ _
    apply vrp
    · apply VE.cons
      · exact ev_move rfl (gn rfl)
      simp only [nm, seval]
      apply VE.cons
      · exact ev_assign rfl (gn rfl)
      simp only [nm, seval]
      exact VE.nil _
    · kernel_rfl
    change VOk _ _ _ _ _
    apply vrp
    · apply VE.cons
      · exact ev_move rfl (gn rfl)
      simp only [nm, seval]
      apply VE.cons
      · refine ev_pure' (gn rfl) (fun ρ w => by simp only [VS.act, SV.c, List.map_cons, List.map_nil]; go_simp; exact rfl) (fun _ _ => rfl)
      simp only [nm, seval]
      apply VE.cons
      · exact ev_assign rfl (gn rfl)
      simp only [nm, seval]
      exact VE.nil _
    · kernel_rfl
  change VOk _ _ _ _ _
  refine vseq ?_
  refine vseq ?_
  apply vrp
  · apply VE.cons
    · exact ev_move rfl (gn rfl)
    simp only [nm, seval]
    apply VE.cons
    · refine ev_pure' (gn rfl) (fun ρ w => by simp only [VS.act, SV.c, List.map_cons, List.map_nil]; go_simp; exact rfl) (fun _ _ => rfl)
    simp only [nm, seval]
    exact VE.nil _
  · kernel_rfl
  change VOk _ _ _ _ _
  refine vcond_f rfl ?_
  refine vexit ?_
  change VOk _ _ _ _ _
  refine vseq ?_
  apply vrp
  · apply VE.cons
    · first | exact ev_load rfl (gn rfl) rfl rfl Tryd.underlying29 rfl Tryd.sizeOf29 rfl rfl | exact ev_loadx rfl (gn rfl) rfl Tryd.underlying29 rfl Tryd.sizeOf29 (by assumption) rfl
    simp only [nm, seval]
    apply VE.cons
    · exact ev_move rfl (gn rfl)
    simp only [nm, seval]
    apply VE.cons
    · exact ev_bin rfl (gn rfl) rfl rfl (fun w => he _  _ _ w)
    simp only [nm, seval]
    apply VE.cons
    · exact ev_store rfl (gn rfl) rfl rfl rfl Tryd.sizeOf29 rfl (by simp) rfl
    simp only [nm, seval]
    apply VE.cons
    · exact ev_assign rfl (gn rfl)
    simp only [nm, seval]
    exact VE.nil _
  · kernel_rfl
  change VOk _ _ _ _ _
  refine vret ?_
  refine post_ret (res2 Tryd.results46 (rv_cell rfl rfl Tryd.underlying29 rfl Tryd.sizeOf29 rfl rfl) (rv_tmp rfl)) ?_
  intro w' hg
  exact ⟨rfl, hg⟩
theorem minus_core (f : Nat → Nat → Nat) (lt : Nat → Nat → Bool) (a0 a1 a2 a3 b0 b1 b2 b3 : Nat) (w : World)
  (hf : ∀ (x y : Nat) (p q : Operand) (w : World), (do eqGuard .sub 28 p q (.int .u64 (x : Nat)) (.int .u64 (y : Nat)); binOp .sub 28 (.int .u64 (x : Nat)) (.int .u64 (y : Nat)) : Sem Value).run Tryd.prog w = .ok (.int .u64 (f x y : Nat)) w)
  (_hf0 : ∀ (x : Nat) (p q : Operand) (w : World), (do eqGuard .sub 28 p q (.int .u64 (x : Nat)) (.int .u64 0); binOp .sub 28 (.int .u64 (x : Nat)) (.int .u64 0) : Sem Value).run Tryd.prog w = .ok (.int .u64 (f x 0 : Nat)) w)
  (hlt : ∀ (x y : Nat) (p q : Operand) (w : World), (do eqGuard .lss 28 p q (.int .u64 (x : Nat)) (.int .u64 (y : Nat)); binOp .lss 28 (.int .u64 (x : Nat)) (.int .u64 (y : Nat)) : Sem Value).run Tryd.prog w = .ok (.bool (lt x y)) w)
  (_hlt0 : ∀ (x : Nat) (p q : Operand) (w : World), (do eqGuard .lss 28 p q (.int .u64 (x : Nat)) (.int .u64 0); binOp .lss 28 (.int .u64 (x : Nat)) (.int .u64 0) : Sem Value).run Tryd.prog w = .ok (.bool (lt x 0)) w) :
  Calls Tryd.prog 47 #[.agg #[.int .u64 (a0 : Nat), .int .u64 (a1 : Nat), .int .u64 (a2 : Nat), .int .u64 (a3 : Nat)], .agg #[.int .u64 (b0 : Nat), .int .u64 (b1 : Nat), .int .u64 (b2 : Nat), .int .u64 (b3 : Nat)]] w fun e w' => e = .returned (.agg #[.int .u64 ((f (f a0 b0) 0) : Nat), .int .u64 ((f (f a1 b1) (bn ((false || lt a0 b0) || lt (f a0 b0) 0))) : Nat), .int .u64 ((f (f a2 b2) (bn ((false || lt a1 b1) || lt (f a1 b1) (bn ((false || lt a0 b0) || lt (f a0 b0) 0))))) : Nat), .int .u64 ((f (f a3 b3) (bn ((false || lt a2 b2) || lt (f a2 b2) (bn ((false || lt a1 b1) || lt (f a1 b1) (bn ((false || lt a0 b0) || lt (f a0 b0) 0))))))) : Nat)]) ∧ Gw w w' := by
  go_enter Tryd.func47, Tryd.ntmps47
  refine ve_go ?_
  simp only [List.map_cons, List.map_nil]
  refine vseq ?_
  apply vrp
  · apply VE.cons
    · exact ev_box rfl rfl (gn rfl) rfl
    simp only [nm, seval]
    apply VE.cons
    · exact ev_box rfl rfl (gn rfl) rfl
    simp only [nm, seval]
    apply VE.cons
    · exact ev_alloc rfl rfl (gn rfl) Tryd.zeroValue29
    simp only [nm, seval]
    exact VE.nil _
  · kernel_rfl
  change VOk _ _ _ _ _
  refine vseq ?_
  apply vrp
  · apply VE.cons
    · exact ev_alloc rfl rfl (gn rfl) Tryd.zeroValue29
    simp only [nm, seval]
    exact VE.nil _
  · kernel_rfl
  change VOk _ _ _ _ _
  refine vseq ?_
  apply vrp
  · apply VE.cons
    · exact ev_assign rfl (gn rfl)
    simp only [nm, seval]
    exact VE.nil _
  · kernel_rfl
  change VOk _ _ _ _ _
  refine vseq ?_
  refine vseq ?_
  apply vrp
  · apply VE.cons
    · exact ev_assign rfl (gn rfl)
    simp only [nm, seval]
    exact VE.nil _
  · kernel_rfl
  change VOk _ _ _ _ _
  refine vblock ?_
  refine vloop 5 ?_
  iterate 4
    change VOk _ _ _ _ _
    refine vseq ?_
    refine vseq ?_
    apply vrp
    · apply VE.cons
      · exact ev_move rfl (gn rfl)
      simp only [nm, seval]
      apply VE.cons
      · refine ev_pure' (gn rfl) (fun ρ w => by simp only [VS.act, SV.c, List.map_cons, List.map_nil]; go_simp; exact rfl) (fun _ _ => rfl)
      simp only [nm, seval]
      exact VE.nil _
    · kernel_rfl
    change VOk _ _ _ _ _
    refine vcond_t rfl ?_
    refine vskip ?_
    change VOk _ _ _ _ _
    refine vseq ?_
    refine vblock ?_
    refine vseq ?_
    apply vrd (by kernel_rfl)
    · apply VE.cons
      · exact ev_move rfl (gn rfl)
      simp only [nm, seval]
      apply VE.cons
      · first | exact ev_index rfl (gn rfl) rfl rfl Tryd.underlying29 Tryd.sizeOf28 (by decide) (by decide) | exact ev_indexx rfl (gn rfl) rfl rfl Tryd.underlying29 Tryd.sizeOf28 (by decide) (by decide)
      simp only [nm, seval]
      apply VE.cons
      · first | exact ev_load1 rfl (gn rfl) rfl rfl Tryd.underlying28 rfl rfl | exact ev_loadx1 rfl (gn rfl) rfl Tryd.underlying28 rfl (by first | assumption | exact hm 0 _ rfl | exact hm 1 _ rfl | exact hm 2 _ rfl | exact hm 3 _ rfl)
      simp only [nm, seval]
      apply VE.cons
      · exact ev_move rfl (gn rfl)
      simp only [nm, seval]
      apply VE.cons
      · first | exact ev_index rfl (gn rfl) rfl rfl Tryd.underlying29 Tryd.sizeOf28 (by decide) (by decide) | exact ev_indexx rfl (gn rfl) rfl rfl Tryd.underlying29 Tryd.sizeOf28 (by decide) (by decide)
      simp only [nm, seval]
      apply VE.cons
      · first | exact ev_load1 rfl (gn rfl) rfl rfl Tryd.underlying28 rfl rfl | exact ev_loadx1 rfl (gn rfl) rfl Tryd.underlying28 rfl (by first | assumption | exact hm 0 _ rfl | exact hm 1 _ rfl | exact hm 2 _ rfl | exact hm 3 _ rfl)
      simp only [nm, seval]
      apply VE.cons
      · exact ev_bin rfl (gn rfl) rfl rfl (fun w => hf _ _  _ _ w)
      simp only [nm, seval]
      apply VE.cons
      · exact ev_assign rfl (gn rfl)
      simp only [nm, seval]
      exact VE.nil _
    · kernel_rfl
    change VOk _ _ _ _ _
    refine vseq ?_
    apply vrp
    · apply VE.cons
      · exact ev_assign rfl (gn rfl)
      simp only [nm, seval]
      exact VE.nil _
    · kernel_rfl
    change VOk _ _ _ _ _
    refine vseq ?_
    refine vseq ?_
    apply vrd (by kernel_rfl)
    · apply VE.cons
      · exact ev_move rfl (gn rfl)
      simp only [nm, seval]
      apply VE.cons
      · first | exact ev_index rfl (gn rfl) rfl rfl Tryd.underlying29 Tryd.sizeOf28 (by decide) (by decide) | exact ev_indexx rfl (gn rfl) rfl rfl Tryd.underlying29 Tryd.sizeOf28 (by decide) (by decide)
      simp only [nm, seval]
      apply VE.cons
      · first | exact ev_load1 rfl (gn rfl) rfl rfl Tryd.underlying28 rfl rfl | exact ev_loadx1 rfl (gn rfl) rfl Tryd.underlying28 rfl (by first | assumption | exact hm 0 _ rfl | exact hm 1 _ rfl | exact hm 2 _ rfl | exact hm 3 _ rfl)
      simp only [nm, seval]
      apply VE.cons
      · exact ev_move rfl (gn rfl)
      simp only [nm, seval]
      apply VE.cons
      · first | exact ev_index rfl (gn rfl) rfl rfl Tryd.underlying29 Tryd.sizeOf28 (by decide) (by decide) | exact ev_indexx rfl (gn rfl) rfl rfl Tryd.underlying29 Tryd.sizeOf28 (by decide) (by decide)
      simp only [nm, seval]
      apply VE.cons
      · first | exact ev_load1 rfl (gn rfl) rfl rfl Tryd.underlying28 rfl rfl | exact ev_loadx1 rfl (gn rfl) rfl Tryd.underlying28 rfl (by first | assumption | exact hm 0 _ rfl | exact hm 1 _ rfl | exact hm 2 _ rfl | exact hm 3 _ rfl)
      simp only [nm, seval]
      apply VE.cons
      · exact ev_bin rfl (gn rfl) rfl rfl (fun w => hlt _ _  _ _ w)
      simp only [nm, seval]
      exact VE.nil _
    · kernel_rfl
    change VOk _ _ _ _ _
    refine vset (b0 := false) (d := 9) rfl rfl (fun Q hQ => ?_) ?_
    · change VOk _ _ _ _ _
      apply vrp
      · apply VE.cons
        · exact ev_assign rfl (gn rfl)
        simp only [nm, seval]
        exact VE.nil _
      · kernel_rfl
      exact hQ
    simp only [List.set_cons_zero, List.set_cons_succ]
    change VOk _ _ _ _ _
    refine vseq ?_
    apply vrp
    · apply VE.cons
      · exact ev_move rfl (gn rfl)
      simp only [nm, seval]
      apply VE.cons
      · exact ev_move rfl (gn rfl)
      simp only [nm, seval]
      apply VE.cons
      · exact ev_move rfl (gn rfl)
      simp only [nm, seval]
      apply VE.cons
      · first | exact ev_bin rfl (gn rfl) rfl rfl (fun w => hf _ _  _ _ w) | exact ev_bin rfl (gn rfl) rfl rfl (fun w => hf0 _  _ _ w)
      simp only [nm, seval]
      apply VE.cons
      · first | exact ev_index rfl (gn rfl) rfl rfl Tryd.underlying29 Tryd.sizeOf28 (by decide) (by decide) | exact ev_indexx rfl (gn rfl) rfl rfl Tryd.underlying29 Tryd.sizeOf28 (by decide) (by decide)
      simp only [nm, seval]
      apply VE.cons
      · exact ev_store rfl (gn rfl) rfl rfl rfl Tryd.sizeOf28 rfl (by simp) rfl
      simp only [nm, seval]
      exact VE.nil _
    · kernel_rfl
    change VOk _ _ _ _ _
    refine vseq ?_
    refine vseq ?_
    apply vrp
    · apply VE.cons
      · exact ev_move rfl (gn rfl)
      simp only [nm, seval]
      apply VE.cons
      · exact ev_move rfl (gn rfl)
      simp only [nm, seval]
      apply VE.cons
      · first | exact ev_bin rfl (gn rfl) rfl rfl (fun w => hlt _ _  _ _ w) | exact ev_bin rfl (gn rfl) rfl rfl (fun w => hlt0 _  _ _ w)
      simp only [nm, seval]
      exact VE.nil _
    · kernel_rfl
    change VOk _ _ _ _ _
    refine vset (b0 := _) (d := 9) rfl rfl (fun Q hQ => ?_) ?_
    · change VOk _ _ _ _ _
      apply vrp
      · apply VE.cons
        · exact ev_assign rfl (gn rfl)
        simp only [nm, seval]
        exact VE.nil _
      · kernel_rfl
      exact hQ
    simp only [List.set_cons_zero, List.set_cons_succ]
    change VOk _ _ _ _ _
    apply vrp
    · apply VE.cons
      · exact ev_move rfl (gn rfl)
      simp only [nm, seval]
      apply VE.cons
      · exact ev_assign rfl (gn rfl)
      simp only [nm, seval]
      exact VE.nil _
    · kernel_rfl
    change VOk _ _ _ _ _
    apply vrp
    · apply VE.cons
      · exact ev_move rfl (gn rfl)
      simp only [nm, seval]
      apply VE.cons
      · refine ev_pure' (gn rfl) (fun ρ w => by simp only [VS.act, SV.c, List.map_cons, List.map_nil]; go_simp; exact rfl) (fun _ _ => rfl)
      simp only [nm, seval]
      apply VE.cons
      · exact ev_assign rfl (gn rfl)
      simp only [nm, seval]
      exact VE.nil _
    · kernel_rfl
  change VOk _ _ _ _ _
  refine vseq ?_
  refine vseq ?_
  apply vrp
  · apply VE.cons
    · exact ev_move rfl (gn rfl)
    simp only [nm, seval]
    apply VE.cons
    · refine ev_pure' (gn rfl) (fun ρ w => by simp only [VS.act, SV.c, List.map_cons, List.map_nil]; go_simp; exact rfl) (fun _ _ => rfl)
    simp only [nm, seval]
    exact VE.nil _
  · kernel_rfl
  change VOk _ _ _ _ _
  refine vcond_f rfl ?_
  refine vexit ?_
  change VOk _ _ _ _ _
  refine vseq ?_
  apply vrp
  · apply VE.cons
    · first | exact ev_load rfl (gn rfl) rfl rfl Tryd.underlying29 rfl Tryd.sizeOf29 rfl rfl | exact ev_loadx rfl (gn rfl) rfl Tryd.underlying29 rfl Tryd.sizeOf29 (by assumption) rfl
    simp only [nm, seval]
    apply VE.cons
    · exact ev_store rfl (gn rfl) rfl rfl rfl Tryd.sizeOf29 rfl (by simp) rfl
    simp only [nm, seval]
    exact VE.nil _
  · kernel_rfl
  change VOk _ _ _ _ _
  refine vret ?_
  refine post_ret (res1 Tryd.results47 (rv_cell rfl rfl Tryd.underlying29 rfl Tryd.sizeOf29 rfl rfl)) ?_
  intro w' hg
  exact ⟨rfl, hg⟩
theorem rless_3 (r : Bool) (a0 a1 a2 a3 b0 b1 b2 b3 : Nat) (w : World)
  (n3 : ∀ (p q : Operand) (w : World), (do eqGuard .neq 28 p q (.int .u64 (a3 : Nat)) (.int .u64 (b3 : Nat)); binOp .neq 28 (.int .u64 (a3 : Nat)) (.int .u64 (b3 : Nat)) : Sem Value).run Tryd.prog w = .ok (.bool true) w)
  (hl : ∀ (p q : Operand) (w : World), (do eqGuard .lss 28 p q (.int .u64 (a3 : Nat)) (.int .u64 (b3 : Nat)); binOp .lss 28 (.int .u64 (a3 : Nat)) (.int .u64 (b3 : Nat)) : Sem Value).run Tryd.prog w = .ok (.bool r) w) :
  Calls Tryd.prog 37 #[.agg #[.int .u64 (a0 : Nat), .int .u64 (a1 : Nat), .int .u64 (a2 : Nat), .int .u64 (a3 : Nat)], .agg #[.int .u64 (b0 : Nat), .int .u64 (b1 : Nat), .int .u64 (b2 : Nat), .int .u64 (b3 : Nat)]] w fun e w' => e = .returned (.bool r) ∧ Gw w w' := by
  go_enter Tryd.func37, Tryd.ntmps37
  refine ve_go ?_
  simp only [List.map_cons, List.map_nil]
  refine vseq ?_
  apply vrp
  · apply VE.cons
    · exact ev_box rfl rfl (gn rfl) rfl
    simp only [nm, seval]
    apply VE.cons
    · exact ev_box rfl rfl (gn rfl) rfl
    simp only [nm, seval]
    apply VE.cons
    · exact ev_assign rfl (gn rfl)
    simp only [nm, seval]
    exact VE.nil _
  · kernel_rfl
  change VOk _ _ _ _ _
  refine vseq ?_
  refine vseq ?_
  apply vrp
  · apply VE.cons
    · exact ev_assign rfl (gn rfl)
    simp only [nm, seval]
    exact VE.nil _
  · kernel_rfl
  change VOk _ _ _ _ _
  refine vblock ?_
  refine vloop 5 ?_
  change VOk _ _ _ _ _
  refine vseq ?_
  refine vseq ?_
  apply vrp
  · apply VE.cons
    · exact ev_move rfl (gn rfl)
    simp only [nm, seval]
    apply VE.cons
    · refine ev_pure' (gn rfl) (fun ρ w => by simp only [VS.act, SV.c, List.map_cons, List.map_nil]; go_simp; exact rfl) (fun _ _ => rfl)
    simp only [nm, seval]
    exact VE.nil _
  · kernel_rfl
  change VOk _ _ _ _ _
  refine vcond_t rfl ?_
  refine vskip ?_
  change VOk _ _ _ _ _
  refine vseq ?_
  refine vblock ?_
  refine vseq ?_
  apply vrd (by kernel_rfl)
  · apply VE.cons
    iterate 2
      · exact ev_move rfl (gn rfl)
      simp only [nm, seval]
      apply VE.cons
      · first | exact ev_index rfl (gn rfl) rfl rfl Tryd.underlying29 Tryd.sizeOf28 (by decide) (by decide) | exact ev_indexx rfl (gn rfl) rfl rfl Tryd.underlying29 Tryd.sizeOf28 (by decide) (by decide)
      simp only [nm, seval]
      apply VE.cons
      · first | exact ev_load1 rfl (gn rfl) rfl rfl Tryd.underlying28 rfl rfl | exact ev_loadx1 rfl (gn rfl) rfl Tryd.underlying28 rfl (by first | assumption | exact hm 0 _ rfl | exact hm 1 _ rfl | exact hm 2 _ rfl | exact hm 3 _ rfl)
      simp only [nm, seval]
      apply VE.cons
    · first | exact ev_bin rfl (gn rfl) rfl rfl (fun w => n3 _ _ w)
    simp only [nm, seval]
    exact VE.nil _
  · kernel_rfl
  change VOk _ _ _ _ _
  refine vcond_t rfl ?_
  refine vseq ?_
  apply vrd (by kernel_rfl)
  · apply VE.cons
    iterate 2
      · exact ev_move rfl (gn rfl)
      simp only [nm, seval]
      apply VE.cons
      · first | exact ev_index rfl (gn rfl) rfl rfl Tryd.underlying29 Tryd.sizeOf28 (by decide) (by decide) | exact ev_indexx rfl (gn rfl) rfl rfl Tryd.underlying29 Tryd.sizeOf28 (by decide) (by decide)
      simp only [nm, seval]
      apply VE.cons
      · first | exact ev_load1 rfl (gn rfl) rfl rfl Tryd.underlying28 rfl rfl | exact ev_loadx1 rfl (gn rfl) rfl Tryd.underlying28 rfl (by first | assumption | exact hm 0 _ rfl | exact hm 1 _ rfl | exact hm 2 _ rfl | exact hm 3 _ rfl)
      simp only [nm, seval]
      apply VE.cons
    · exact ev_bin rfl (gn rfl) rfl rfl (fun w => hl _ _ w)
    simp only [nm, seval]
    apply VE.cons
    · exact ev_assign rfl (gn rfl)
    simp only [nm, seval]
    exact VE.nil _
  · kernel_rfl
  change VOk _ _ _ _ _
  refine vret ?_
  refine post_ret (res1 Tryd.results37 (rv_tmp rfl)) ?_
  intro w' hg
  exact ⟨rfl, hg⟩
theorem rless_2 (r : Bool) (a0 a1 a2 a3 b0 b1 b2 b3 : Nat) (w : World)
  (n3 : ∀ (p q : Operand) (w : World), (do eqGuard .neq 28 p q (.int .u64 (a3 : Nat)) (.int .u64 (b3 : Nat)); binOp .neq 28 (.int .u64 (a3 : Nat)) (.int .u64 (b3 : Nat)) : Sem Value).run Tryd.prog w = .ok (.bool false) w)
  (n2 : ∀ (p q : Operand) (w : World), (do eqGuard .neq 28 p q (.int .u64 (a2 : Nat)) (.int .u64 (b2 : Nat)); binOp .neq 28 (.int .u64 (a2 : Nat)) (.int .u64 (b2 : Nat)) : Sem Value).run Tryd.prog w = .ok (.bool true) w)
  (hl : ∀ (p q : Operand) (w : World), (do eqGuard .lss 28 p q (.int .u64 (a2 : Nat)) (.int .u64 (b2 : Nat)); binOp .lss 28 (.int .u64 (a2 : Nat)) (.int .u64 (b2 : Nat)) : Sem Value).run Tryd.prog w = .ok (.bool r) w) :
  Calls Tryd.prog 37 #[.agg #[.int .u64 (a0 : Nat), .int .u64 (a1 : Nat), .int .u64 (a2 : Nat), .int .u64 (a3 : Nat)], .agg #[.int .u64 (b0 : Nat), .int .u64 (b1 : Nat), .int .u64 (b2 : Nat), .int .u64 (b3 : Nat)]] w fun e w' => e = .returned (.bool r) ∧ Gw w w' := by
  go_enter Tryd.func37, Tryd.ntmps37
  refine ve_go ?_
  simp only [List.map_cons, List.map_nil]
  refine vseq ?_
  apply vrp
  · apply VE.cons
    · exact ev_box rfl rfl (gn rfl) rfl
    simp only [nm, seval]
    apply VE.cons
    · exact ev_box rfl rfl (gn rfl) rfl
    simp only [nm, seval]
    apply VE.cons
    · exact ev_assign rfl (gn rfl)
    simp only [nm, seval]
    exact VE.nil _
  · kernel_rfl
  change VOk _ _ _ _ _
  refine vseq ?_
  refine vseq ?_
  apply vrp
  · apply VE.cons
    · exact ev_assign rfl (gn rfl)
    simp only [nm, seval]
    exact VE.nil _
  · kernel_rfl
  change VOk _ _ _ _ _
  refine vblock ?_
  refine vloop 5 ?_
  change VOk _ _ _ _ _
  refine vseq ?_
  refine vseq ?_
  apply vrp
  · apply VE.cons
    · exact ev_move rfl (gn rfl)
    simp only [nm, seval]
    apply VE.cons
    · refine ev_pure' (gn rfl) (fun ρ w => by simp only [VS.act, SV.c, List.map_cons, List.map_nil]; go_simp; exact rfl) (fun _ _ => rfl)
    simp only [nm, seval]
    exact VE.nil _
  · kernel_rfl
  change VOk _ _ _ _ _
  refine vcond_t rfl ?_
  refine vskip ?_
  change VOk _ _ _ _ _
  refine vseq ?_
  refine vblock ?_
  refine vseq ?_
  apply vrd (by kernel_rfl)
  · apply VE.cons
    iterate 2
      · exact ev_move rfl (gn rfl)
      simp only [nm, seval]
      apply VE.cons
      · first | exact ev_index rfl (gn rfl) rfl rfl Tryd.underlying29 Tryd.sizeOf28 (by decide) (by decide) | exact ev_indexx rfl (gn rfl) rfl rfl Tryd.underlying29 Tryd.sizeOf28 (by decide) (by decide)
      simp only [nm, seval]
      apply VE.cons
      · first | exact ev_load1 rfl (gn rfl) rfl rfl Tryd.underlying28 rfl rfl | exact ev_loadx1 rfl (gn rfl) rfl Tryd.underlying28 rfl (by first | assumption | exact hm 0 _ rfl | exact hm 1 _ rfl | exact hm 2 _ rfl | exact hm 3 _ rfl)
      simp only [nm, seval]
      apply VE.cons
    · first | exact ev_bin rfl (gn rfl) rfl rfl (fun w => n3 _ _ w) | exact ev_bin rfl (gn rfl) rfl rfl (fun w => n2 _ _ w)
    simp only [nm, seval]
    exact VE.nil _
  · kernel_rfl
  change VOk _ _ _ _ _
  refine vcond_f rfl ?_
  refine vskip ?_
  change VOk _ _ _ _ _
  apply vrp
  · apply VE.cons
    · exact ev_move rfl (gn rfl)
    simp only [nm, seval]
    apply VE.cons
    · refine ev_pure' (gn rfl) (fun ρ w => by simp only [VS.act, SV.c, List.map_cons, List.map_nil]; go_simp; exact rfl) (fun _ _ => rfl)
    simp only [nm, seval]
    apply VE.cons
    · exact ev_assign rfl (gn rfl)
    simp only [nm, seval]
    exact VE.nil _
  · kernel_rfl
  change VOk _ _ _ _ _
  refine vseq ?_
  refine vseq ?_
  apply vrp
  · apply VE.cons
    · exact ev_move rfl (gn rfl)
    simp only [nm, seval]
    apply VE.cons
    · refine ev_pure' (gn rfl) (fun ρ w => by simp only [VS.act, SV.c, List.map_cons, List.map_nil]; go_simp; exact rfl) (fun _ _ => rfl)
    simp only [nm, seval]
    exact VE.nil _
  · kernel_rfl
  change VOk _ _ _ _ _
  refine vcond_t rfl ?_
  refine vskip ?_
  change VOk _ _ _ _ _
  refine vseq ?_
  refine vblock ?_
  refine vseq ?_
  apply vrd (by kernel_rfl)
  · apply VE.cons
    iterate 2
      · exact ev_move rfl (gn rfl)
      simp only [nm, seval]
      apply VE.cons
      · first | exact ev_index rfl (gn rfl) rfl rfl Tryd.underlying29 Tryd.sizeOf28 (by decide) (by decide) | exact ev_indexx rfl (gn rfl) rfl rfl Tryd.underlying29 Tryd.sizeOf28 (by decide) (by decide)
      simp only [nm, seval]
      apply VE.cons
      · first | exact ev_load1 rfl (gn rfl) rfl rfl Tryd.underlying28 rfl rfl | exact ev_loadx1 rfl (gn rfl) rfl Tryd.underlying28 rfl (by first | assumption | exact hm 0 _ rfl | exact hm 1 _ rfl | exact hm 2 _ rfl | exact hm 3 _ rfl)
      simp only [nm, seval]
      apply VE.cons
    · first | exact ev_bin rfl (gn rfl) rfl rfl (fun w => n3 _ _ w) | exact ev_bin rfl (gn rfl) rfl rfl (fun w => n2 _ _ w)
    simp only [nm, seval]
    exact VE.nil _
  · kernel_rfl
  change VOk _ _ _ _ _
  refine vcond_t rfl ?_
  refine vseq ?_
  apply vrd (by kernel_rfl)
  · apply VE.cons
    iterate 2
      · exact ev_move rfl (gn rfl)
      simp only [nm, seval]
      apply VE.cons
      · first | exact ev_index rfl (gn rfl) rfl rfl Tryd.underlying29 Tryd.sizeOf28 (by decide) (by decide) | exact ev_indexx rfl (gn rfl) rfl rfl Tryd.underlying29 Tryd.sizeOf28 (by decide) (by decide)
      simp only [nm, seval]
      apply VE.cons
      · first | exact ev_load1 rfl (gn rfl) rfl rfl Tryd.underlying28 rfl rfl | exact ev_loadx1 rfl (gn rfl) rfl Tryd.underlying28 rfl (by first | assumption | exact hm 0 _ rfl | exact hm 1 _ rfl | exact hm 2 _ rfl | exact hm 3 _ rfl)
      simp only [nm, seval]
      apply VE.cons
    · exact ev_bin rfl (gn rfl) rfl rfl (fun w => hl _ _ w)
    simp only [nm, seval]
    apply VE.cons
    · exact ev_assign rfl (gn rfl)
    simp only [nm, seval]
    exact VE.nil _
  · kernel_rfl
  change VOk _ _ _ _ _
  refine vret ?_
  refine post_ret (res1 Tryd.results37 (rv_tmp rfl)) ?_
  intro w' hg
  exact ⟨rfl, hg⟩
theorem rless_1 (r : Bool) (a0 a1 a2 a3 b0 b1 b2 b3 : Nat) (w : World)
  (n3 : ∀ (p q : Operand) (w : World), (do eqGuard .neq 28 p q (.int .u64 (a3 : Nat)) (.int .u64 (b3 : Nat)); binOp .neq 28 (.int .u64 (a3 : Nat)) (.int .u64 (b3 : Nat)) : Sem Value).run Tryd.prog w = .ok (.bool false) w)
  (n2 : ∀ (p q : Operand) (w : World), (do eqGuard .neq 28 p q (.int .u64 (a2 : Nat)) (.int .u64 (b2 : Nat)); binOp .neq 28 (.int .u64 (a2 : Nat)) (.int .u64 (b2 : Nat)) : Sem Value).run Tryd.prog w = .ok (.bool false) w)
  (n1 : ∀ (p q : Operand) (w : World), (do eqGuard .neq 28 p q (.int .u64 (a1 : Nat)) (.int .u64 (b1 : Nat)); binOp .neq 28 (.int .u64 (a1 : Nat)) (.int .u64 (b1 : Nat)) : Sem Value).run Tryd.prog w = .ok (.bool true) w)
  (hl : ∀ (p q : Operand) (w : World), (do eqGuard .lss 28 p q (.int .u64 (a1 : Nat)) (.int .u64 (b1 : Nat)); binOp .lss 28 (.int .u64 (a1 : Nat)) (.int .u64 (b1 : Nat)) : Sem Value).run Tryd.prog w = .ok (.bool r) w) :
  Calls Tryd.prog 37 #[.agg #[.int .u64 (a0 : Nat), .int .u64 (a1 : Nat), .int .u64 (a2 : Nat), .int .u64 (a3 : Nat)], .agg #[.int .u64 (b0 : Nat), .int .u64 (b1 : Nat), .int .u64 (b2 : Nat), .int .u64 (b3 : Nat)]] w fun e w' => e = .returned (.bool r) ∧ Gw w w' := by
  go_enter Tryd.func37, Tryd.ntmps37
  refine ve_go ?_
  simp only [List.map_cons, List.map_nil]
  refine vseq ?_
  apply vrp
  · apply VE.cons
    · exact ev_box rfl rfl (gn rfl) rfl
    simp only [nm, seval]
    apply VE.cons
    · exact ev_box rfl rfl (gn rfl) rfl
    simp only [nm, seval]
    apply VE.cons
    · exact ev_assign rfl (gn rfl)
    simp only [nm, seval]
    exact VE.nil _
  · kernel_rfl
  change VOk _ _ _ _ _
  refine vseq ?_
  refine vseq ?_
  apply vrp
  · apply VE.cons
    · exact ev_assign rfl (gn rfl)
    simp only [nm, seval]
    exact VE.nil _
  · kernel_rfl
  change VOk _ _ _ _ _
  refine vblock ?_
  refine vloop 5 ?_
  iterate 2
    change VOk _ _ _ _ _
    refine vseq ?_
    refine vseq ?_
    apply vrp
    · apply VE.cons
      · exact ev_move rfl (gn rfl)
      simp only [nm, seval]
      apply VE.cons
      · refine ev_pure' (gn rfl) (fun ρ w => by simp only [VS.act, SV.c, List.map_cons, List.map_nil]; go_simp; exact rfl) (fun _ _ => rfl)
      simp only [nm, seval]
      exact VE.nil _
    · kernel_rfl
    change VOk _ _ _ _ _
    refine vcond_t rfl ?_
    refine vskip ?_
    change VOk _ _ _ _ _
    refine vseq ?_
    refine vblock ?_
    refine vseq ?_
    apply vrd (by kernel_rfl)
    · apply VE.cons
      · exact ev_move rfl (gn rfl)
      simp only [nm, seval]
      apply VE.cons
      · first | exact ev_index rfl (gn rfl) rfl rfl Tryd.underlying29 Tryd.sizeOf28 (by decide) (by decide) | exact ev_indexx rfl (gn rfl) rfl rfl Tryd.underlying29 Tryd.sizeOf28 (by decide) (by decide)
      simp only [nm, seval]
      apply VE.cons
      · first | exact ev_load1 rfl (gn rfl) rfl rfl Tryd.underlying28 rfl rfl | exact ev_loadx1 rfl (gn rfl) rfl Tryd.underlying28 rfl (by first | assumption | exact hm 0 _ rfl | exact hm 1 _ rfl | exact hm 2 _ rfl | exact hm 3 _ rfl)
      simp only [nm, seval]
      apply VE.cons
      · exact ev_move rfl (gn rfl)
      simp only [nm, seval]
      apply VE.cons
      · first | exact ev_index rfl (gn rfl) rfl rfl Tryd.underlying29 Tryd.sizeOf28 (by decide) (by decide) | exact ev_indexx rfl (gn rfl) rfl rfl Tryd.underlying29 Tryd.sizeOf28 (by decide) (by decide)
      simp only [nm, seval]
      apply VE.cons
      · first | exact ev_load1 rfl (gn rfl) rfl rfl Tryd.underlying28 rfl rfl | exact ev_loadx1 rfl (gn rfl) rfl Tryd.underlying28 rfl (by first | assumption | exact hm 0 _ rfl | exact hm 1 _ rfl | exact hm 2 _ rfl | exact hm 3 _ rfl)
      simp only [nm, seval]
      apply VE.cons
      · first | exact ev_bin rfl (gn rfl) rfl rfl (fun w => n3 _ _ w) | exact ev_bin rfl (gn rfl) rfl rfl (fun w => n2 _ _ w) | exact ev_bin rfl (gn rfl) rfl rfl (fun w => n1 _ _ w)
      simp only [nm, seval]
      exact VE.nil _
    · kernel_rfl
    change VOk _ _ _ _ _
    refine vcond_f rfl ?_
    refine vskip ?_
    change VOk _ _ _ _ _
    apply vrp
    · apply VE.cons
      · exact ev_move rfl (gn rfl)
      simp only [nm, seval]
      apply VE.cons
      · refine ev_pure' (gn rfl) (fun ρ w => by simp only [VS.act, SV.c, List.map_cons, List.map_nil]; go_simp; exact rfl) (fun _ _ => rfl)
      simp only [nm, seval]
      apply VE.cons
      · exact ev_assign rfl (gn rfl)
      simp only [nm, seval]
      exact VE.nil _
    · kernel_rfl
  change VOk _ _ _ _ _
  refine vseq ?_
  refine vseq ?_
  apply vrp
  · apply VE.cons
    · exact ev_move rfl (gn rfl)
    simp only [nm, seval]
    apply VE.cons
    · refine ev_pure' (gn rfl) (fun ρ w => by simp only [VS.act, SV.c, List.map_cons, List.map_nil]; go_simp; exact rfl) (fun _ _ => rfl)
    simp only [nm, seval]
    exact VE.nil _
  · kernel_rfl
  change VOk _ _ _ _ _
  refine vcond_t rfl ?_
  refine vskip ?_
  change VOk _ _ _ _ _
  refine vseq ?_
  refine vblock ?_
  refine vseq ?_
  apply vrd (by kernel_rfl)
  · apply VE.cons
    iterate 2
      · exact ev_move rfl (gn rfl)
      simp only [nm, seval]
      apply VE.cons
      · first | exact ev_index rfl (gn rfl) rfl rfl Tryd.underlying29 Tryd.sizeOf28 (by decide) (by decide) | exact ev_indexx rfl (gn rfl) rfl rfl Tryd.underlying29 Tryd.sizeOf28 (by decide) (by decide)
      simp only [nm, seval]
      apply VE.cons
      · first | exact ev_load1 rfl (gn rfl) rfl rfl Tryd.underlying28 rfl rfl | exact ev_loadx1 rfl (gn rfl) rfl Tryd.underlying28 rfl (by first | assumption | exact hm 0 _ rfl | exact hm 1 _ rfl | exact hm 2 _ rfl | exact hm 3 _ rfl)
      simp only [nm, seval]
      apply VE.cons
    · first | exact ev_bin rfl (gn rfl) rfl rfl (fun w => n3 _ _ w) | exact ev_bin rfl (gn rfl) rfl rfl (fun w => n2 _ _ w) | exact ev_bin rfl (gn rfl) rfl rfl (fun w => n1 _ _ w)
    simp only [nm, seval]
    exact VE.nil _
  · kernel_rfl
  change VOk _ _ _ _ _
  refine vcond_t rfl ?_
  refine vseq ?_
  apply vrd (by kernel_rfl)
  · apply VE.cons
    iterate 2
      · exact ev_move rfl (gn rfl)
      simp only [nm, seval]
      apply VE.cons
      · first | exact ev_index rfl (gn rfl) rfl rfl Tryd.underlying29 Tryd.sizeOf28 (by decide) (by decide) | exact ev_indexx rfl (gn rfl) rfl rfl Tryd.underlying29 Tryd.sizeOf28 (by decide) (by decide)
      simp only [nm, seval]
      apply VE.cons
      · first | exact ev_load1 rfl (gn rfl) rfl rfl Tryd.underlying28 rfl rfl | exact ev_loadx1 rfl (gn rfl) rfl Tryd.underlying28 rfl (by first | assumption | exact hm 0 _ rfl | exact hm 1 _ rfl | exact hm 2 _ rfl | exact hm 3 _ rfl)
      simp only [nm, seval]
      apply VE.cons
    · exact ev_bin rfl (gn rfl) rfl rfl (fun w => hl _ _ w)
    simp only [nm, seval]
    apply VE.cons
    · exact ev_assign rfl (gn rfl)
    simp only [nm, seval]
    exact VE.nil _
  · kernel_rfl
  change VOk _ _ _ _ _
  refine vret ?_
  refine post_ret (res1 Tryd.results37 (rv_tmp rfl)) ?_
  intro w' hg
  exact ⟨rfl, hg⟩
theorem rless_0 (r : Bool) (a0 a1 a2 a3 b0 b1 b2 b3 : Nat) (w : World)
  (n3 : ∀ (p q : Operand) (w : World), (do eqGuard .neq 28 p q (.int .u64 (a3 : Nat)) (.int .u64 (b3 : Nat)); binOp .neq 28 (.int .u64 (a3 : Nat)) (.int .u64 (b3 : Nat)) : Sem Value).run Tryd.prog w = .ok (.bool false) w)
  (n2 : ∀ (p q : Operand) (w : World), (do eqGuard .neq 28 p q (.int .u64 (a2 : Nat)) (.int .u64 (b2 : Nat)); binOp .neq 28 (.int .u64 (a2 : Nat)) (.int .u64 (b2 : Nat)) : Sem Value).run Tryd.prog w = .ok (.bool false) w)
  (n1 : ∀ (p q : Operand) (w : World), (do eqGuard .neq 28 p q (.int .u64 (a1 : Nat)) (.int .u64 (b1 : Nat)); binOp .neq 28 (.int .u64 (a1 : Nat)) (.int .u64 (b1 : Nat)) : Sem Value).run Tryd.prog w = .ok (.bool false) w)
  (n0 : ∀ (p q : Operand) (w : World), (do eqGuard .neq 28 p q (.int .u64 (a0 : Nat)) (.int .u64 (b0 : Nat)); binOp .neq 28 (.int .u64 (a0 : Nat)) (.int .u64 (b0 : Nat)) : Sem Value).run Tryd.prog w = .ok (.bool true) w)
  (hl : ∀ (p q : Operand) (w : World), (do eqGuard .lss 28 p q (.int .u64 (a0 : Nat)) (.int .u64 (b0 : Nat)); binOp .lss 28 (.int .u64 (a0 : Nat)) (.int .u64 (b0 : Nat)) : Sem Value).run Tryd.prog w = .ok (.bool r) w) :
  Calls Tryd.prog 37 #[.agg #[.int .u64 (a0 : Nat), .int .u64 (a1 : Nat), .int .u64 (a2 : Nat), .int .u64 (a3 : Nat)], .agg #[.int .u64 (b0 : Nat), .int .u64 (b1 : Nat), .int .u64 (b2 : Nat), .int .u64 (b3 : Nat)]] w fun e w' => e = .returned (.bool r) ∧ Gw w w' := by
  go_enter Tryd.func37, Tryd.ntmps37
  refine ve_go ?_
  simp only [List.map_cons, List.map_nil]
  refine vseq ?_
  apply vrp
  · apply VE.cons
    · exact ev_box rfl rfl (gn rfl) rfl
    simp only [nm, seval]
    apply VE.cons
    · exact ev_box rfl rfl (gn rfl) rfl
    simp only [nm, seval]
    apply VE.cons
    · exact ev_assign rfl (gn rfl)
    simp only [nm, seval]
    exact VE.nil _
  · kernel_rfl
  change VOk _ _ _ _ _
  refine vseq ?_
  refine vseq ?_
  apply vrp
  · apply VE.cons
    · exact ev_assign rfl (gn rfl)
    simp only [nm, seval]
    exact VE.nil _
  · kernel_rfl
  change VOk _ _ _ _ _
  refine vblock ?_
  refine vloop 5 ?_
  iterate 3
    change VOk _ _ _ _ _
    refine vseq ?_
    refine vseq ?_
    apply vrp
    · apply VE.cons
      · exact ev_move rfl (gn rfl)
      simp only [nm, seval]
      apply VE.cons
      · refine ev_pure' (gn rfl) (fun ρ w => by simp only [VS.act, SV.c, List.map_cons, List.map_nil]; go_simp; exact rfl) (fun _ _ => rfl)
      simp only [nm, seval]
      exact VE.nil _
    · kernel_rfl
    change VOk _ _ _ _ _
    refine vcond_t rfl ?_
    refine vskip ?_
    change VOk _ _ _ _ _
    refine vseq ?_
    refine vblock ?_
    refine vseq ?_
    apply vrd (by kernel_rfl)
    · apply VE.cons
      · exact ev_move rfl (gn rfl)
      simp only [nm, seval]
      apply VE.cons
      · first | exact ev_index rfl (gn rfl) rfl rfl Tryd.underlying29 Tryd.sizeOf28 (by decide) (by decide) | exact ev_indexx rfl (gn rfl) rfl rfl Tryd.underlying29 Tryd.sizeOf28 (by decide) (by decide)
      simp only [nm, seval]
      apply VE.cons
      · first | exact ev_load1 rfl (gn rfl) rfl rfl Tryd.underlying28 rfl rfl | exact ev_loadx1 rfl (gn rfl) rfl Tryd.underlying28 rfl (by first | assumption | exact hm 0 _ rfl | exact hm 1 _ rfl | exact hm 2 _ rfl | exact hm 3 _ rfl)
      simp only [nm, seval]
      apply VE.cons
      · exact ev_move rfl (gn rfl)
      simp only [nm, seval]
      apply VE.cons
      · first | exact ev_index rfl (gn rfl) rfl rfl Tryd.underlying29 Tryd.sizeOf28 (by decide) (by decide) | exact ev_indexx rfl (gn rfl) rfl rfl Tryd.underlying29 Tryd.sizeOf28 (by decide) (by decide)
      simp only [nm, seval]
      apply VE.cons
      · first | exact ev_load1 rfl (gn rfl) rfl rfl Tryd.underlying28 rfl rfl | exact ev_loadx1 rfl (gn rfl) rfl Tryd.underlying28 rfl (by first | assumption | exact hm 0 _ rfl | exact hm 1 _ rfl | exact hm 2 _ rfl | exact hm 3 _ rfl)
      simp only [nm, seval]
      apply VE.cons
      · first | exact ev_bin rfl (gn rfl) rfl rfl (fun w => n3 _ _ w) | exact ev_bin rfl (gn rfl) rfl rfl (fun w => n2 _ _ w) | exact ev_bin rfl (gn rfl) rfl rfl (fun w => n1 _ _ w) | exact ev_bin rfl (gn rfl) rfl rfl (fun w => n0 _ _ w)
      simp only [nm, seval]
      exact VE.nil _
    · kernel_rfl
    change VOk _ _ _ _ _
    refine vcond_f rfl ?_
    refine vskip ?_
    change VOk _ _ _ _ _
    apply vrp
    · apply VE.cons
      · exact ev_move rfl (gn rfl)
      simp only [nm, seval]
      apply VE.cons
      · refine ev_pure' (gn rfl) (fun ρ w => by simp only [VS.act, SV.c, List.map_cons, List.map_nil]; go_simp; exact rfl) (fun _ _ => rfl)
      simp only [nm, seval]
      apply VE.cons
      · exact ev_assign rfl (gn rfl)
      simp only [nm, seval]
      exact VE.nil _
    · kernel_rfl
  change VOk _ _ _ _ _
  refine vseq ?_
  refine vseq ?_
  apply vrp
  · apply VE.cons
    · exact ev_move rfl (gn rfl)
    simp only [nm, seval]
    apply VE.cons
    · refine ev_pure' (gn rfl) (fun ρ w => by simp only [VS.act, SV.c, List.map_cons, List.map_nil]; go_simp; exact rfl) (fun _ _ => rfl)
    simp only [nm, seval]
    exact VE.nil _
  · kernel_rfl
  change VOk _ _ _ _ _
  refine vcond_t rfl ?_
  refine vskip ?_
  change VOk _ _ _ _ _
  refine vseq ?_
  refine vblock ?_
  refine vseq ?_
  apply vrd (by kernel_rfl)
  · apply VE.cons
    iterate 2
      · exact ev_move rfl (gn rfl)
      simp only [nm, seval]
      apply VE.cons
      · first | exact ev_index rfl (gn rfl) rfl rfl Tryd.underlying29 Tryd.sizeOf28 (by decide) (by decide) | exact ev_indexx rfl (gn rfl) rfl rfl Tryd.underlying29 Tryd.sizeOf28 (by decide) (by decide)
      simp only [nm, seval]
      apply VE.cons
      · first | exact ev_load1 rfl (gn rfl) rfl rfl Tryd.underlying28 rfl rfl | exact ev_loadx1 rfl (gn rfl) rfl Tryd.underlying28 rfl (by first | assumption | exact hm 0 _ rfl | exact hm 1 _ rfl | exact hm 2 _ rfl | exact hm 3 _ rfl)
      simp only [nm, seval]
      apply VE.cons
    · first | exact ev_bin rfl (gn rfl) rfl rfl (fun w => n3 _ _ w) | exact ev_bin rfl (gn rfl) rfl rfl (fun w => n2 _ _ w) | exact ev_bin rfl (gn rfl) rfl rfl (fun w => n1 _ _ w) | exact ev_bin rfl (gn rfl) rfl rfl (fun w => n0 _ _ w)
    simp only [nm, seval]
    exact VE.nil _
  · kernel_rfl
  change VOk _ _ _ _ _
  refine vcond_t rfl ?_
  refine vseq ?_
  apply vrd (by kernel_rfl)
  · apply VE.cons
    iterate 2
      · exact ev_move rfl (gn rfl)
      simp only [nm, seval]
      apply VE.cons
      · first | exact ev_index rfl (gn rfl) rfl rfl Tryd.underlying29 Tryd.sizeOf28 (by decide) (by decide) | exact ev_indexx rfl (gn rfl) rfl rfl Tryd.underlying29 Tryd.sizeOf28 (by decide) (by decide)
      simp only [nm, seval]
      apply VE.cons
      · first | exact ev_load1 rfl (gn rfl) rfl rfl Tryd.underlying28 rfl rfl | exact ev_loadx1 rfl (gn rfl) rfl Tryd.underlying28 rfl (by first | assumption | exact hm 0 _ rfl | exact hm 1 _ rfl | exact hm 2 _ rfl | exact hm 3 _ rfl)
      simp only [nm, seval]
      apply VE.cons
    · exact ev_bin rfl (gn rfl) rfl rfl (fun w => hl _ _ w)
    simp only [nm, seval]
    apply VE.cons
    · exact ev_assign rfl (gn rfl)
    simp only [nm, seval]
    exact VE.nil _
  · kernel_rfl
  change VOk _ _ _ _ _
  refine vret ?_
  refine post_ret (res1 Tryd.results37 (rv_tmp rfl)) ?_
  intro w' hg
  exact ⟨rfl, hg⟩
theorem rless_eq (a0 a1 a2 a3 b0 b1 b2 b3 : Nat) (w : World)
  (n3 : ∀ (p q : Operand) (w : World), (do eqGuard .neq 28 p q (.int .u64 (a3 : Nat)) (.int .u64 (b3 : Nat)); binOp .neq 28 (.int .u64 (a3 : Nat)) (.int .u64 (b3 : Nat)) : Sem Value).run Tryd.prog w = .ok (.bool false) w)
  (n2 : ∀ (p q : Operand) (w : World), (do eqGuard .neq 28 p q (.int .u64 (a2 : Nat)) (.int .u64 (b2 : Nat)); binOp .neq 28 (.int .u64 (a2 : Nat)) (.int .u64 (b2 : Nat)) : Sem Value).run Tryd.prog w = .ok (.bool false) w)
  (n1 : ∀ (p q : Operand) (w : World), (do eqGuard .neq 28 p q (.int .u64 (a1 : Nat)) (.int .u64 (b1 : Nat)); binOp .neq 28 (.int .u64 (a1 : Nat)) (.int .u64 (b1 : Nat)) : Sem Value).run Tryd.prog w = .ok (.bool false) w)
  (n0 : ∀ (p q : Operand) (w : World), (do eqGuard .neq 28 p q (.int .u64 (a0 : Nat)) (.int .u64 (b0 : Nat)); binOp .neq 28 (.int .u64 (a0 : Nat)) (.int .u64 (b0 : Nat)) : Sem Value).run Tryd.prog w = .ok (.bool false) w) :
  Calls Tryd.prog 37 #[.agg #[.int .u64 (a0 : Nat), .int .u64 (a1 : Nat), .int .u64 (a2 : Nat), .int .u64 (a3 : Nat)], .agg #[.int .u64 (b0 : Nat), .int .u64 (b1 : Nat), .int .u64 (b2 : Nat), .int .u64 (b3 : Nat)]] w fun e w' => e = .returned (.bool false) ∧ Gw w w' := by
  go_enter Tryd.func37, Tryd.ntmps37
  refine ve_go ?_
  simp only [List.map_cons, List.map_nil]
  refine vseq ?_
  apply vrp
  · apply VE.cons
    · exact ev_box rfl rfl (gn rfl) rfl
    simp only [nm, seval]
    apply VE.cons
    · exact ev_box rfl rfl (gn rfl) rfl
    simp only [nm, seval]
    apply VE.cons
    · exact ev_assign rfl (gn rfl)
    simp only [nm, seval]
    exact VE.nil _
  · kernel_rfl
  change VOk _ _ _ _ _
  refine vseq ?_
  refine vseq ?_
  apply vrp
  · apply VE.cons
    · exact ev_assign rfl (gn rfl)
    simp only [nm, seval]
    exact VE.nil _
  · kernel_rfl
  change VOk _ _ _ _ _
  refine vblock ?_
  refine vloop 5 ?_
  iterate 4
    change VOk _ _ _ _ _
    refine vseq ?_
    refine vseq ?_
    apply vrp
    · apply VE.cons
      · exact ev_move rfl (gn rfl)
      simp only [nm, seval]
      apply VE.cons
      · refine ev_pure' (gn rfl) (fun ρ w => by simp only [VS.act, SV.c, List.map_cons, List.map_nil]; go_simp; exact rfl) (fun _ _ => rfl)
      simp only [nm, seval]
      exact VE.nil _
    · kernel_rfl
    change VOk _ _ _ _ _
    refine vcond_t rfl ?_
    refine vskip ?_
    change VOk _ _ _ _ _
    refine vseq ?_
    refine vblock ?_
    refine vseq ?_
    apply vrd (by kernel_rfl)
    · apply VE.cons
      · exact ev_move rfl (gn rfl)
      simp only [nm, seval]
      apply VE.cons
      · first | exact ev_index rfl (gn rfl) rfl rfl Tryd.underlying29 Tryd.sizeOf28 (by decide) (by decide) | exact ev_indexx rfl (gn rfl) rfl rfl Tryd.underlying29 Tryd.sizeOf28 (by decide) (by decide)
      simp only [nm, seval]
      apply VE.cons
      · first | exact ev_load1 rfl (gn rfl) rfl rfl Tryd.underlying28 rfl rfl | exact ev_loadx1 rfl (gn rfl) rfl Tryd.underlying28 rfl (by first | assumption | exact hm 0 _ rfl | exact hm 1 _ rfl | exact hm 2 _ rfl | exact hm 3 _ rfl)
      simp only [nm, seval]
      apply VE.cons
      · exact ev_move rfl (gn rfl)
      simp only [nm, seval]
      apply VE.cons
      · first | exact ev_index rfl (gn rfl) rfl rfl Tryd.underlying29 Tryd.sizeOf28 (by decide) (by decide) | exact ev_indexx rfl (gn rfl) rfl rfl Tryd.underlying29 Tryd.sizeOf28 (by decide) (by decide)
      simp only [nm, seval]
      apply VE.cons
      · first | exact ev_load1 rfl (gn rfl) rfl rfl Tryd.underlying28 rfl rfl | exact ev_loadx1 rfl (gn rfl) rfl Tryd.underlying28 rfl (by first | assumption | exact hm 0 _ rfl | exact hm 1 _ rfl | exact hm 2 _ rfl | exact hm 3 _ rfl)
      simp only [nm, seval]
      apply VE.cons
      · first | exact ev_bin rfl (gn rfl) rfl rfl (fun w => n3 _ _ w) | exact ev_bin rfl (gn rfl) rfl rfl (fun w => n2 _ _ w) | exact ev_bin rfl (gn rfl) rfl rfl (fun w => n1 _ _ w) | exact ev_bin rfl (gn rfl) rfl rfl (fun w => n0 _ _ w)
      simp only [nm, seval]
      exact VE.nil _
    · kernel_rfl
    change VOk _ _ _ _ _
    refine vcond_f rfl ?_
    refine vskip ?_
    change VOk _ _ _ _ _
    apply vrp
    · apply VE.cons
      · exact ev_move rfl (gn rfl)
      simp only [nm, seval]
      apply VE.cons
      · refine ev_pure' (gn rfl) (fun ρ w => by simp only [VS.act, SV.c, List.map_cons, List.map_nil]; go_simp; exact rfl) (fun _ _ => rfl)
      simp only [nm, seval]
      apply VE.cons
      · exact ev_assign rfl (gn rfl)
      simp only [nm, seval]
      exact VE.nil _
    · kernel_rfl
  change VOk _ _ _ _ _
  refine vseq ?_
  refine vseq ?_
  apply vrp
  · apply VE.cons
    · exact ev_move rfl (gn rfl)
    simp only [nm, seval]
    apply VE.cons
    · refine ev_pure' (gn rfl) (fun ρ w => by simp only [VS.act, SV.c, List.map_cons, List.map_nil]; go_simp; exact rfl) (fun _ _ => rfl)
    simp only [nm, seval]
    exact VE.nil _
  · kernel_rfl
  change VOk _ _ _ _ _
  refine vcond_f rfl ?_
  refine vexit ?_
  change VOk _ _ _ _ _
  refine vseq ?_
  apply vrp
  · apply VE.cons
    · exact ev_assign rfl (gn rfl)
    simp only [nm, seval]
    exact VE.nil _
  · kernel_rfl
  change VOk _ _ _ _ _
  refine vret ?_
  refine post_ret (res1 Tryd.results37 (rv_tmp rfl)) ?_
  intro w' hg
  exact ⟨rfl, hg⟩
theorem radd_over (a0 a1 a2 a3 b0 b1 b2 b3 m0 m1 m2 m3 s0 s1 s2 s3 z0 z1 z2 z3 : Nat) (w : World)
  (h1 : ∀ w', Gw w w' → Calls Tryd.prog 46 #[.agg #[.int .u64 (a0 : Nat), .int .u64 (a1 : Nat), .int .u64 (a2 : Nat), .int .u64 (a3 : Nat)], .agg #[.int .u64 (b0 : Nat), .int .u64 (b1 : Nat), .int .u64 (b2 : Nat), .int .u64 (b3 : Nat)]] w' fun e w'' => e = .returned (.tuple #[.agg #[.int .u64 (s0 : Nat), .int .u64 (s1 : Nat), .int .u64 (s2 : Nat), .int .u64 (s3 : Nat)], .bool true]) ∧ Gw w' w'')
  (h3 : ∀ w', Gw w w' → Calls Tryd.prog 47 #[.agg #[.int .u64 (s0 : Nat), .int .u64 (s1 : Nat), .int .u64 (s2 : Nat), .int .u64 (s3 : Nat)], .agg #[.int .u64 (m0 : Nat), .int .u64 (m1 : Nat), .int .u64 (m2 : Nat), .int .u64 (m3 : Nat)]] w' fun e w'' => e = .returned (.agg #[.int .u64 (z0 : Nat), .int .u64 (z1 : Nat), .int .u64 (z2 : Nat), .int .u64 (z3 : Nat)]) ∧ Gw w' w'') :
  Calls Tryd.prog 49 #[.agg #[.int .u64 (a0 : Nat), .int .u64 (a1 : Nat), .int .u64 (a2 : Nat), .int .u64 (a3 : Nat)], .agg #[.int .u64 (b0 : Nat), .int .u64 (b1 : Nat), .int .u64 (b2 : Nat), .int .u64 (b3 : Nat)], .agg #[.int .u64 (m0 : Nat), .int .u64 (m1 : Nat), .int .u64 (m2 : Nat), .int .u64 (m3 : Nat)]] w fun e w' => e = .returned (.agg #[.int .u64 (z0 : Nat), .int .u64 (z1 : Nat), .int .u64 (z2 : Nat), .int .u64 (z3 : Nat)]) ∧ Gw w w' := by
  go_enter Tryd.func49, Tryd.ntmps49
  refine ve_go ?_
  simp only [List.map_cons, List.map_nil]
  refine vseq ?_
  apply vrp
  · apply VE.cons
    · exact ev_box rfl rfl (gn rfl) rfl
    simp only [nm, seval]
    apply VE.cons
    · exact ev_box rfl rfl (gn rfl) rfl
    simp only [nm, seval]
    apply VE.cons
    · exact ev_box rfl rfl (gn rfl) rfl
    simp only [nm, seval]
    apply VE.cons
    · exact ev_alloc rfl rfl (gn rfl) Tryd.zeroValue29
    simp only [nm, seval]
    exact VE.nil _
  · kernel_rfl
  change VOk _ _ _ _ _
  refine vseq ?_
  apply vrp
  · apply VE.cons
    · first | exact ev_load rfl (gn rfl) rfl rfl Tryd.underlying29 rfl Tryd.sizeOf29 rfl rfl | exact ev_loadx rfl (gn rfl) rfl Tryd.underlying29 rfl Tryd.sizeOf29 (by assumption) rfl
    simp only [nm, seval]
    apply VE.cons
    · first | exact ev_load rfl (gn rfl) rfl rfl Tryd.underlying29 rfl Tryd.sizeOf29 rfl rfl | exact ev_loadx rfl (gn rfl) rfl Tryd.underlying29 rfl Tryd.sizeOf29 (by assumption) rfl
    simp only [nm, seval]
    apply VE.cons
    · exact ev_call rfl (gn rfl) rfl (en_of Tryd.func46 (by kernel_rfl) rfl) h1
    simp only [nm, seval]
    apply VE.cons
    · exact ev_move rfl (gn rfl)
    simp only [nm, seval]
    apply VE.cons
    · exact ev_extract rfl (gn rfl) rfl rfl
    simp only [nm, seval]
    apply VE.cons
    · exact ev_extract rfl (gn rfl) rfl rfl
    simp only [nm, seval]
    apply VE.cons
    · exact ev_alloc rfl rfl (gn rfl) Tryd.zeroValue29
    simp only [nm, seval]
    apply VE.cons
    · exact ev_store rfl (gn rfl) rfl rfl rfl Tryd.sizeOf29 rfl (by simp) rfl
    simp only [nm, seval]
    apply VE.cons
    · exact ev_assign rfl (gn rfl)
    simp only [nm, seval]
    exact VE.nil _
  · kernel_rfl
  change VOk _ _ _ _ _
  refine vseq ?_
  refine vseq ?_
  apply vrp
  · apply VE.cons
    · exact ev_move rfl (gn rfl)
    simp only [nm, seval]
    apply VE.cons
    · exact ev_move rfl (gn rfl)
    simp only [nm, seval]
    apply VE.cons
    · first | exact Ev.skip (fun _ => rfl) | exact ev_load rfl (fun _ => rfl) rfl rfl Tryd.underlying29 rfl Tryd.sizeOf29 rfl rfl | exact ev_loadx rfl (fun _ => rfl) rfl Tryd.underlying29 rfl Tryd.sizeOf29 (by assumption) rfl
    simp only [nm, seval]
    apply VE.cons
    · first | exact Ev.skip (fun _ => rfl) | exact ev_load rfl (fun _ => rfl) rfl rfl Tryd.underlying29 rfl Tryd.sizeOf29 rfl rfl | exact ev_loadx rfl (fun _ => rfl) rfl Tryd.underlying29 rfl Tryd.sizeOf29 (by assumption) rfl
    simp only [nm, seval]
    apply VE.cons
    · first | exact Ev.skip (fun _ => rfl) | refine ev_pure' (fun _ => rfl) (fun ρ w => by simp only [VS.act, SV.c, List.map_cons, List.map_nil]; go_simp; exact rfl) (fun _ _ => rfl)
    simp only [nm, seval]
    apply VE.cons
    · first | exact Ev.skip (fun _ => rfl) | refine ev_pure' (fun _ => rfl) (fun ρ w => by simp only [VS.act, SV.c, List.map_cons, List.map_nil]; go_simp; exact rfl) (fun _ _ => rfl)
    simp only [nm, seval]
    apply VE.cons
    · refine ev_pure' (gn rfl) (fun ρ w => by simp only [VS.act, SV.c, List.map_cons, List.map_nil]; go_simp; exact rfl) (fun _ _ => rfl)
    simp only [nm, seval]
    exact VE.nil _
  · kernel_rfl
  change VOk _ _ _ _ _
  refine vcond_t rfl ?_
  refine vseq ?_
  apply vrp
  · apply VE.cons
    · first | exact ev_load rfl (gn rfl) rfl rfl Tryd.underlying29 rfl Tryd.sizeOf29 rfl rfl | exact ev_loadx rfl (gn rfl) rfl Tryd.underlying29 rfl Tryd.sizeOf29 (by assumption) rfl
    simp only [nm, seval]
    apply VE.cons
    · first | exact ev_load rfl (gn rfl) rfl rfl Tryd.underlying29 rfl Tryd.sizeOf29 rfl rfl | exact ev_loadx rfl (gn rfl) rfl Tryd.underlying29 rfl Tryd.sizeOf29 (by assumption) rfl
    simp only [nm, seval]
    apply VE.cons
    · exact ev_call rfl (gn rfl) rfl (en_of Tryd.func47 (by kernel_rfl) rfl) h3
    simp only [nm, seval]
    apply VE.cons
    · exact ev_store rfl (gn rfl) rfl rfl rfl Tryd.sizeOf29 rfl (by simp) rfl
    simp only [nm, seval]
    exact VE.nil _
  · kernel_rfl
  change VOk _ _ _ _ _
  refine vret ?_
  refine post_ret (res1 Tryd.results49 (rv_cell rfl rfl Tryd.underlying29 rfl Tryd.sizeOf29 rfl rfl)) ?_
  intro w' hg
  exact ⟨rfl, hg⟩
theorem radd_less (a0 a1 a2 a3 b0 b1 b2 b3 m0 m1 m2 m3 s0 s1 s2 s3 : Nat) (w : World)
  (h1 : ∀ w', Gw w w' → Calls Tryd.prog 46 #[.agg #[.int .u64 (a0 : Nat), .int .u64 (a1 : Nat), .int .u64 (a2 : Nat), .int .u64 (a3 : Nat)], .agg #[.int .u64 (b0 : Nat), .int .u64 (b1 : Nat), .int .u64 (b2 : Nat), .int .u64 (b3 : Nat)]] w' fun e w'' => e = .returned (.tuple #[.agg #[.int .u64 (s0 : Nat), .int .u64 (s1 : Nat), .int .u64 (s2 : Nat), .int .u64 (s3 : Nat)], .bool false]) ∧ Gw w' w'')
  (h2 : ∀ w', Gw w w' → Calls Tryd.prog 37 #[.agg #[.int .u64 (s0 : Nat), .int .u64 (s1 : Nat), .int .u64 (s2 : Nat), .int .u64 (s3 : Nat)], .agg #[.int .u64 (m0 : Nat), .int .u64 (m1 : Nat), .int .u64 (m2 : Nat), .int .u64 (m3 : Nat)]] w' fun e w'' => e = .returned (.bool true) ∧ Gw w' w'') :
  Calls Tryd.prog 49 #[.agg #[.int .u64 (a0 : Nat), .int .u64 (a1 : Nat), .int .u64 (a2 : Nat), .int .u64 (a3 : Nat)], .agg #[.int .u64 (b0 : Nat), .int .u64 (b1 : Nat), .int .u64 (b2 : Nat), .int .u64 (b3 : Nat)], .agg #[.int .u64 (m0 : Nat), .int .u64 (m1 : Nat), .int .u64 (m2 : Nat), .int .u64 (m3 : Nat)]] w fun e w' => e = .returned (.agg #[.int .u64 (s0 : Nat), .int .u64 (s1 : Nat), .int .u64 (s2 : Nat), .int .u64 (s3 : Nat)]) ∧ Gw w w' := by
  go_enter Tryd.func49, Tryd.ntmps49
  refine ve_go ?_
  simp only [List.map_cons, List.map_nil]
  refine vseq ?_
  apply vrp
  · apply VE.cons
    · exact ev_box rfl rfl (gn rfl) rfl
    simp only [nm, seval]
    apply VE.cons
    · exact ev_box rfl rfl (gn rfl) rfl
    simp only [nm, seval]
    apply VE.cons
    · exact ev_box rfl rfl (gn rfl) rfl
    simp only [nm, seval]
    apply VE.cons
    · exact ev_alloc rfl rfl (gn rfl) Tryd.zeroValue29
    simp only [nm, seval]
    exact VE.nil _
  · kernel_rfl
  change VOk _ _ _ _ _
  refine vseq ?_
  apply vrp
  · apply VE.cons
    · first | exact ev_load rfl (gn rfl) rfl rfl Tryd.underlying29 rfl Tryd.sizeOf29 rfl rfl | exact ev_loadx rfl (gn rfl) rfl Tryd.underlying29 rfl Tryd.sizeOf29 (by assumption) rfl
    simp only [nm, seval]
    apply VE.cons
    · first | exact ev_load rfl (gn rfl) rfl rfl Tryd.underlying29 rfl Tryd.sizeOf29 rfl rfl | exact ev_loadx rfl (gn rfl) rfl Tryd.underlying29 rfl Tryd.sizeOf29 (by assumption) rfl
    simp only [nm, seval]
    apply VE.cons
    · exact ev_call rfl (gn rfl) rfl (en_of Tryd.func46 (by kernel_rfl) rfl) h1
    simp only [nm, seval]
    apply VE.cons
    · exact ev_move rfl (gn rfl)
    simp only [nm, seval]
    apply VE.cons
    · exact ev_extract rfl (gn rfl) rfl rfl
    simp only [nm, seval]
    apply VE.cons
    · exact ev_extract rfl (gn rfl) rfl rfl
    simp only [nm, seval]
    apply VE.cons
    · exact ev_alloc rfl rfl (gn rfl) Tryd.zeroValue29
    simp only [nm, seval]
    apply VE.cons
    · exact ev_store rfl (gn rfl) rfl rfl rfl Tryd.sizeOf29 rfl (by simp) rfl
    simp only [nm, seval]
    apply VE.cons
    · exact ev_assign rfl (gn rfl)
    simp only [nm, seval]
    exact VE.nil _
  · kernel_rfl
  change VOk _ _ _ _ _
  refine vseq ?_
  refine vseq ?_
  apply vrp
  · apply VE.cons
    · exact ev_move rfl (gn rfl)
    simp only [nm, seval]
    apply VE.cons
    · exact ev_move rfl (gn rfl)
    simp only [nm, seval]
    apply VE.cons
    · first | exact Ev.skip (fun _ => rfl) | exact ev_load rfl (fun _ => rfl) rfl rfl Tryd.underlying29 rfl Tryd.sizeOf29 rfl rfl | exact ev_loadx rfl (fun _ => rfl) rfl Tryd.underlying29 rfl Tryd.sizeOf29 (by assumption) rfl
    simp only [nm, seval]
    apply VE.cons
    · first | exact Ev.skip (fun _ => rfl) | exact ev_load rfl (fun _ => rfl) rfl rfl Tryd.underlying29 rfl Tryd.sizeOf29 rfl rfl | exact ev_loadx rfl (fun _ => rfl) rfl Tryd.underlying29 rfl Tryd.sizeOf29 (by assumption) rfl
    simp only [nm, seval]
    apply VE.cons
    · first | exact Ev.skip (fun _ => rfl) | exact ev_call rfl (fun _ => rfl) rfl (en_of Tryd.func37 (by kernel_rfl) rfl) h2
    simp only [nm, seval]
    apply VE.cons
    · first | exact Ev.skip (fun _ => rfl) | refine ev_pure' (fun _ => rfl) (fun ρ w => by simp only [VS.act, SV.c, List.map_cons, List.map_nil]; go_simp; exact rfl) (fun _ _ => rfl)
    simp only [nm, seval]
    apply VE.cons
    · refine ev_pure' (gn rfl) (fun ρ w => by simp only [VS.act, SV.c, List.map_cons, List.map_nil]; go_simp; exact rfl) (fun _ _ => rfl)
    simp only [nm, seval]
    exact VE.nil _
  · kernel_rfl
  change VOk _ _ _ _ _
  refine vcond_f rfl ?_
  refine vskip ?_
  change VOk _ _ _ _ _
  refine vseq ?_
  apply vrp
  · apply VE.cons
    · first | exact ev_load rfl (gn rfl) rfl rfl Tryd.underlying29 rfl Tryd.sizeOf29 rfl rfl | exact ev_loadx rfl (gn rfl) rfl Tryd.underlying29 rfl Tryd.sizeOf29 (by assumption) rfl
    simp only [nm, seval]
    apply VE.cons
    · exact ev_store rfl (gn rfl) rfl rfl rfl Tryd.sizeOf29 rfl (by simp) rfl
    simp only [nm, seval]
    exact VE.nil _
  · kernel_rfl
  change VOk _ _ _ _ _
  refine vret ?_
  refine post_ret (res1 Tryd.results49 (rv_cell rfl rfl Tryd.underlying29 rfl Tryd.sizeOf29 rfl rfl)) ?_
  intro w' hg
  exact ⟨rfl, hg⟩
theorem radd_more (a0 a1 a2 a3 b0 b1 b2 b3 m0 m1 m2 m3 s0 s1 s2 s3 z0 z1 z2 z3 : Nat) (w : World)
  (h1 : ∀ w', Gw w w' → Calls Tryd.prog 46 #[.agg #[.int .u64 (a0 : Nat), .int .u64 (a1 : Nat), .int .u64 (a2 : Nat), .int .u64 (a3 : Nat)], .agg #[.int .u64 (b0 : Nat), .int .u64 (b1 : Nat), .int .u64 (b2 : Nat), .int .u64 (b3 : Nat)]] w' fun e w'' => e = .returned (.tuple #[.agg #[.int .u64 (s0 : Nat), .int .u64 (s1 : Nat), .int .u64 (s2 : Nat), .int .u64 (s3 : Nat)], .bool false]) ∧ Gw w' w'')
  (h2 : ∀ w', Gw w w' → Calls Tryd.prog 37 #[.agg #[.int .u64 (s0 : Nat), .int .u64 (s1 : Nat), .int .u64 (s2 : Nat), .int .u64 (s3 : Nat)], .agg #[.int .u64 (m0 : Nat), .int .u64 (m1 : Nat), .int .u64 (m2 : Nat), .int .u64 (m3 : Nat)]] w' fun e w'' => e = .returned (.bool false) ∧ Gw w' w'')
  (h3 : ∀ w', Gw w w' → Calls Tryd.prog 47 #[.agg #[.int .u64 (s0 : Nat), .int .u64 (s1 : Nat), .int .u64 (s2 : Nat), .int .u64 (s3 : Nat)], .agg #[.int .u64 (m0 : Nat), .int .u64 (m1 : Nat), .int .u64 (m2 : Nat), .int .u64 (m3 : Nat)]] w' fun e w'' => e = .returned (.agg #[.int .u64 (z0 : Nat), .int .u64 (z1 : Nat), .int .u64 (z2 : Nat), .int .u64 (z3 : Nat)]) ∧ Gw w' w'') :
  Calls Tryd.prog 49 #[.agg #[.int .u64 (a0 : Nat), .int .u64 (a1 : Nat), .int .u64 (a2 : Nat), .int .u64 (a3 : Nat)], .agg #[.int .u64 (b0 : Nat), .int .u64 (b1 : Nat), .int .u64 (b2 : Nat), .int .u64 (b3 : Nat)], .agg #[.int .u64 (m0 : Nat), .int .u64 (m1 : Nat), .int .u64 (m2 : Nat), .int .u64 (m3 : Nat)]] w fun e w' => e = .returned (.agg #[.int .u64 (z0 : Nat), .int .u64 (z1 : Nat), .int .u64 (z2 : Nat), .int .u64 (z3 : Nat)]) ∧ Gw w w' := by
  go_enter Tryd.func49, Tryd.ntmps49
  refine ve_go ?_
  simp only [List.map_cons, List.map_nil]
  refine vseq ?_
  apply vrp
  · apply VE.cons
    · exact ev_box rfl rfl (gn rfl) rfl
    simp only [nm, seval]
    apply VE.cons
    · exact ev_box rfl rfl (gn rfl) rfl
    simp only [nm, seval]
    apply VE.cons
    · exact ev_box rfl rfl (gn rfl) rfl
    simp only [nm, seval]
    apply VE.cons
    · exact ev_alloc rfl rfl (gn rfl) Tryd.zeroValue29
    simp only [nm, seval]
    exact VE.nil _
  · kernel_rfl
  change VOk _ _ _ _ _
  refine vseq ?_
  apply vrp
  · apply VE.cons
    · first | exact ev_load rfl (gn rfl) rfl rfl Tryd.underlying29 rfl Tryd.sizeOf29 rfl rfl | exact ev_loadx rfl (gn rfl) rfl Tryd.underlying29 rfl Tryd.sizeOf29 (by assumption) rfl
    simp only [nm, seval]
    apply VE.cons
    · first | exact ev_load rfl (gn rfl) rfl rfl Tryd.underlying29 rfl Tryd.sizeOf29 rfl rfl | exact ev_loadx rfl (gn rfl) rfl Tryd.underlying29 rfl Tryd.sizeOf29 (by assumption) rfl
    simp only [nm, seval]
    apply VE.cons
    · exact ev_call rfl (gn rfl) rfl (en_of Tryd.func46 (by kernel_rfl) rfl) h1
    simp only [nm, seval]
    apply VE.cons
    · exact ev_move rfl (gn rfl)
    simp only [nm, seval]
    apply VE.cons
    · exact ev_extract rfl (gn rfl) rfl rfl
    simp only [nm, seval]
    apply VE.cons
    · exact ev_extract rfl (gn rfl) rfl rfl
    simp only [nm, seval]
    apply VE.cons
    · exact ev_alloc rfl rfl (gn rfl) Tryd.zeroValue29
    simp only [nm, seval]
    apply VE.cons
    · exact ev_store rfl (gn rfl) rfl rfl rfl Tryd.sizeOf29 rfl (by simp) rfl
    simp only [nm, seval]
    apply VE.cons
    · exact ev_assign rfl (gn rfl)
    simp only [nm, seval]
    exact VE.nil _
  · kernel_rfl
  change VOk _ _ _ _ _
  refine vseq ?_
  refine vseq ?_
  apply vrp
  · apply VE.cons
    · exact ev_move rfl (gn rfl)
    simp only [nm, seval]
    apply VE.cons
    · exact ev_move rfl (gn rfl)
    simp only [nm, seval]
    apply VE.cons
    · first | exact Ev.skip (fun _ => rfl) | exact ev_load rfl (fun _ => rfl) rfl rfl Tryd.underlying29 rfl Tryd.sizeOf29 rfl rfl | exact ev_loadx rfl (fun _ => rfl) rfl Tryd.underlying29 rfl Tryd.sizeOf29 (by assumption) rfl
    simp only [nm, seval]
    apply VE.cons
    · first | exact Ev.skip (fun _ => rfl) | exact ev_load rfl (fun _ => rfl) rfl rfl Tryd.underlying29 rfl Tryd.sizeOf29 rfl rfl | exact ev_loadx rfl (fun _ => rfl) rfl Tryd.underlying29 rfl Tryd.sizeOf29 (by assumption) rfl
    simp only [nm, seval]
    apply VE.cons
    · first | exact Ev.skip (fun _ => rfl) | exact ev_call rfl (fun _ => rfl) rfl (en_of Tryd.func37 (by kernel_rfl) rfl) h2
    simp only [nm, seval]
    apply VE.cons
    · first | exact Ev.skip (fun _ => rfl) | refine ev_pure' (fun _ => rfl) (fun ρ w => by simp only [VS.act, SV.c, List.map_cons, List.map_nil]; go_simp; exact rfl) (fun _ _ => rfl)
    simp only [nm, seval]
    apply VE.cons
    · refine ev_pure' (gn rfl) (fun ρ w => by simp only [VS.act, SV.c, List.map_cons, List.map_nil]; go_simp; exact rfl) (fun _ _ => rfl)
    simp only [nm, seval]
    exact VE.nil _
  · kernel_rfl
  change VOk _ _ _ _ _
  refine vcond_t rfl ?_
  refine vseq ?_
  apply vrp
  · apply VE.cons
    · first | exact ev_load rfl (gn rfl) rfl rfl Tryd.underlying29 rfl Tryd.sizeOf29 rfl rfl | exact ev_loadx rfl (gn rfl) rfl Tryd.underlying29 rfl Tryd.sizeOf29 (by assumption) rfl
    simp only [nm, seval]
    apply VE.cons
    · first | exact ev_load rfl (gn rfl) rfl rfl Tryd.underlying29 rfl Tryd.sizeOf29 rfl rfl | exact ev_loadx rfl (gn rfl) rfl Tryd.underlying29 rfl Tryd.sizeOf29 (by assumption) rfl
    simp only [nm, seval]
    apply VE.cons
    · exact ev_call rfl (gn rfl) rfl (en_of Tryd.func47 (by kernel_rfl) rfl) h3
    simp only [nm, seval]
    apply VE.cons
    · exact ev_store rfl (gn rfl) rfl rfl rfl Tryd.sizeOf29 rfl (by simp) rfl
    simp only [nm, seval]
    exact VE.nil _
  · kernel_rfl
  change VOk _ _ _ _ _
  refine vret ?_
  refine post_ret (res1 Tryd.results49 (rv_cell rfl rfl Tryd.underlying29 rfl Tryd.sizeOf29 rfl rfl)) ?_
  intro w' hg
  exact ⟨rfl, hg⟩
theorem rAdd_core (a0 a1 a2 a3 b0 b1 b2 b3 m0 m1 m2 m3 x0 x1 x2 x3 y0 y1 y2 y3 z0 z1 z2 z3 : Nat) (w : World)
  (h1 : ∀ w', Gw w w' → Calls Tryd.prog 27 #[.agg #[.int .u64 (a0 : Nat), .int .u64 (a1 : Nat), .int .u64 (a2 : Nat), .int .u64 (a3 : Nat)], .agg #[.int .u64 (m0 : Nat), .int .u64 (m1 : Nat), .int .u64 (m2 : Nat), .int .u64 (m3 : Nat)]] w' fun e w'' => e = .returned (.agg #[.int .u64 (x0 : Nat), .int .u64 (x1 : Nat), .int .u64 (x2 : Nat), .int .u64 (x3 : Nat)]) ∧ Gw w' w'') (h2 : ∀ w', Gw w w' → Calls Tryd.prog 27 #[.agg #[.int .u64 (b0 : Nat), .int .u64 (b1 : Nat), .int .u64 (b2 : Nat), .int .u64 (b3 : Nat)], .agg #[.int .u64 (m0 : Nat), .int .u64 (m1 : Nat), .int .u64 (m2 : Nat), .int .u64 (m3 : Nat)]] w' fun e w'' => e = .returned (.agg #[.int .u64 (y0 : Nat), .int .u64 (y1 : Nat), .int .u64 (y2 : Nat), .int .u64 (y3 : Nat)]) ∧ Gw w' w'') (h3 : ∀ w', Gw w w' → Calls Tryd.prog 49 #[.agg #[.int .u64 (x0 : Nat), .int .u64 (x1 : Nat), .int .u64 (x2 : Nat), .int .u64 (x3 : Nat)], .agg #[.int .u64 (y0 : Nat), .int .u64 (y1 : Nat), .int .u64 (y2 : Nat), .int .u64 (y3 : Nat)], .agg #[.int .u64 (m0 : Nat), .int .u64 (m1 : Nat), .int .u64 (m2 : Nat), .int .u64 (m3 : Nat)]] w' fun e w'' => e = .returned (.agg #[.int .u64 (z0 : Nat), .int .u64 (z1 : Nat), .int .u64 (z2 : Nat), .int .u64 (z3 : Nat)]) ∧ Gw w' w'') :
  Calls Tryd.prog 26 #[.agg #[.int .u64 (a0 : Nat), .int .u64 (a1 : Nat), .int .u64 (a2 : Nat), .int .u64 (a3 : Nat)], .agg #[.int .u64 (b0 : Nat), .int .u64 (b1 : Nat), .int .u64 (b2 : Nat), .int .u64 (b3 : Nat)], .agg #[.int .u64 (m0 : Nat), .int .u64 (m1 : Nat), .int .u64 (m2 : Nat), .int .u64 (m3 : Nat)]] w fun e w' => e = .returned (.agg #[.int .u64 (z0 : Nat), .int .u64 (z1 : Nat), .int .u64 (z2 : Nat), .int .u64 (z3 : Nat)]) ∧ Gw w w' := by
  go_enter Tryd.func26, Tryd.ntmps26
  refine ve_go ?_
  simp only [List.map_cons, List.map_nil]
  refine vseq ?_
  apply vrp
  · apply VE.cons
    · exact ev_box rfl rfl (gn rfl) rfl
    simp only [nm, seval]
    apply VE.cons
    · exact ev_box rfl rfl (gn rfl) rfl
    simp only [nm, seval]
    apply VE.cons
    · exact ev_box rfl rfl (gn rfl) rfl
    simp only [nm, seval]
    apply VE.cons
    · exact ev_alloc rfl rfl (gn rfl) Tryd.zeroValue29
    simp only [nm, seval]
    exact VE.nil _
  · kernel_rfl
  change VOk _ _ _ _ _
  refine vseq ?_
  apply vrd (by kernel_rfl)
  · apply VE.cons
    · first | exact ev_load rfl (gn rfl) rfl rfl Tryd.underlying29 rfl Tryd.sizeOf29 rfl rfl | exact ev_loadx rfl (gn rfl) rfl Tryd.underlying29 rfl Tryd.sizeOf29 (by assumption) rfl
    simp only [nm, seval]
    apply VE.cons
    · first | exact ev_load rfl (gn rfl) rfl rfl Tryd.underlying29 rfl Tryd.sizeOf29 rfl rfl | exact ev_loadx rfl (gn rfl) rfl Tryd.underlying29 rfl Tryd.sizeOf29 (by assumption) rfl
    simp only [nm, seval]
    apply VE.cons
    · exact ev_call rfl (gn rfl) rfl (en_of Tryd.func27 (by kernel_rfl) rfl) h1
    simp only [nm, seval]
    apply VE.cons
    · first | exact ev_load rfl (gn rfl) rfl rfl Tryd.underlying29 rfl Tryd.sizeOf29 rfl rfl | exact ev_loadx rfl (gn rfl) rfl Tryd.underlying29 rfl Tryd.sizeOf29 (by assumption) rfl
    simp only [nm, seval]
    apply VE.cons
    · first | exact ev_load rfl (gn rfl) rfl rfl Tryd.underlying29 rfl Tryd.sizeOf29 rfl rfl | exact ev_loadx rfl (gn rfl) rfl Tryd.underlying29 rfl Tryd.sizeOf29 (by assumption) rfl
    simp only [nm, seval]
    apply VE.cons
    · exact ev_call rfl (gn rfl) rfl (en_of Tryd.func27 (by kernel_rfl) rfl) h2
    simp only [nm, seval]
    apply VE.cons
    · first | exact ev_load rfl (gn rfl) rfl rfl Tryd.underlying29 rfl Tryd.sizeOf29 rfl rfl | exact ev_loadx rfl (gn rfl) rfl Tryd.underlying29 rfl Tryd.sizeOf29 (by assumption) rfl
    simp only [nm, seval]
    apply VE.cons
    · exact ev_call rfl (gn rfl) rfl (en_of Tryd.func49 (by kernel_rfl) rfl) h3
    simp only [nm, seval]
    apply VE.cons
    · exact ev_store rfl (gn rfl) rfl rfl rfl Tryd.sizeOf29 rfl (by simp) rfl
    simp only [nm, seval]
    exact VE.nil _
  · kernel_rfl
  change VOk _ _ _ _ _
  refine vret ?_
  refine post_ret (res1 Tryd.results26 (rv_cell rfl rfl Tryd.underlying29 rfl Tryd.sizeOf29 rfl rfl)) ?_
  intro w' hg
  exact ⟨rfl, hg⟩
theorem rSub_1 (a0 a1 a2 a3 b0 b1 b2 b3 m0 m1 m2 m3 x0 x1 x2 x3 y0 y1 y2 y3 z0 z1 z2 z3 t0 t1 t2 t3 : Nat) (c : Bool) (w : World) (h1 : ∀ w', Gw w w' → Calls Tryd.prog 27 #[.agg #[.int .u64 (a0 : Nat), .int .u64 (a1 : Nat), .int .u64 (a2 : Nat), .int .u64 (a3 : Nat)], .agg #[.int .u64 (m0 : Nat), .int .u64 (m1 : Nat), .int .u64 (m2 : Nat), .int .u64 (m3 : Nat)]] w' fun e w'' => e = .returned (.agg #[.int .u64 (x0 : Nat), .int .u64 (x1 : Nat), .int .u64 (x2 : Nat), .int .u64 (x3 : Nat)]) ∧ Gw w' w'') (h2 : ∀ w', Gw w w' → Calls Tryd.prog 27 #[.agg #[.int .u64 (b0 : Nat), .int .u64 (b1 : Nat), .int .u64 (b2 : Nat), .int .u64 (b3 : Nat)], .agg #[.int .u64 (m0 : Nat), .int .u64 (m1 : Nat), .int .u64 (m2 : Nat), .int .u64 (m3 : Nat)]] w' fun e w'' => e = .returned (.agg #[.int .u64 (y0 : Nat), .int .u64 (y1 : Nat), .int .u64 (y2 : Nat), .int .u64 (y3 : Nat)]) ∧ Gw w' w'') (hl : ∀ w', Gw w w' → Calls Tryd.prog 37 #[.agg #[.int .u64 (x0 : Nat), .int .u64 (x1 : Nat), .int .u64 (x2 : Nat), .int .u64 (x3 : Nat)], .agg #[.int .u64 (y0 : Nat), .int .u64 (y1 : Nat), .int .u64 (y2 : Nat), .int .u64 (y3 : Nat)]] w' fun e w'' => e = .returned (.bool true) ∧ Gw w' w'') (h3 : ∀ w', Gw w w' → Calls Tryd.prog 47 #[.agg #[.int .u64 (m0 : Nat), .int .u64 (m1 : Nat), .int .u64 (m2 : Nat), .int .u64 (m3 : Nat)], .agg #[.int .u64 (y0 : Nat), .int .u64 (y1 : Nat), .int .u64 (y2 : Nat), .int .u64 (y3 : Nat)]] w' fun e w'' => e = .returned (.agg #[.int .u64 (t0 : Nat), .int .u64 (t1 : Nat), .int .u64 (t2 : Nat), .int .u64 (t3 : Nat)]) ∧ Gw w' w'') (h4 : ∀ w', Gw w w' → Calls Tryd.prog 46 #[.agg #[.int .u64 (x0 : Nat), .int .u64 (x1 : Nat), .int .u64 (x2 : Nat), .int .u64 (x3 : Nat)], .agg #[.int .u64 (t0 : Nat), .int .u64 (t1 : Nat), .int .u64 (t2 : Nat), .int .u64 (t3 : Nat)]] w' fun e w'' => e = .returned (.tuple #[.agg #[.int .u64 (z0 : Nat), .int .u64 (z1 : Nat), .int .u64 (z2 : Nat), .int .u64 (z3 : Nat)], .bool c]) ∧ Gw w' w'') :
  Calls Tryd.prog 23 #[.agg #[.int .u64 (a0 : Nat), .int .u64 (a1 : Nat), .int .u64 (a2 : Nat), .int .u64 (a3 : Nat)], .agg #[.int .u64 (b0 : Nat), .int .u64 (b1 : Nat), .int .u64 (b2 : Nat), .int .u64 (b3 : Nat)], .agg #[.int .u64 (m0 : Nat), .int .u64 (m1 : Nat), .int .u64 (m2 : Nat), .int .u64 (m3 : Nat)]] w fun e w' => e = .returned (.agg #[.int .u64 (z0 : Nat), .int .u64 (z1 : Nat), .int .u64 (z2 : Nat), .int .u64 (z3 : Nat)]) ∧ Gw w w' := by
  go_enter Tryd.func23, Tryd.ntmps23
  refine ve_go ?_
  simp only [List.map_cons, List.map_nil]
  refine vseq ?_
  apply vrp
  · apply VE.cons
    · exact ev_box rfl rfl (gn rfl) rfl
    simp only [nm, seval]
    apply VE.cons
    · exact ev_box rfl rfl (gn rfl) rfl
    simp only [nm, seval]
    apply VE.cons
    · exact ev_box rfl rfl (gn rfl) rfl
    simp only [nm, seval]
    apply VE.cons
    · exact ev_alloc rfl rfl (gn rfl) Tryd.zeroValue29
    simp only [nm, seval]
    exact VE.nil _
  · kernel_rfl
  change VOk _ _ _ _ _
  refine vseq ?_
  apply vrd (by kernel_rfl)
  · apply VE.cons
    · first | exact ev_load rfl (gn rfl) rfl rfl Tryd.underlying29 rfl Tryd.sizeOf29 rfl rfl | exact ev_loadx rfl (gn rfl) rfl Tryd.underlying29 rfl Tryd.sizeOf29 (by assumption) rfl
    simp only [nm, seval]
    apply VE.cons
    · first | exact ev_load rfl (gn rfl) rfl rfl Tryd.underlying29 rfl Tryd.sizeOf29 rfl rfl | exact ev_loadx rfl (gn rfl) rfl Tryd.underlying29 rfl Tryd.sizeOf29 (by assumption) rfl
    simp only [nm, seval]
    apply VE.cons
    · exact ev_call rfl (gn rfl) rfl (en_of Tryd.func27 (by kernel_rfl) rfl) h1
    simp only [nm, seval]
    apply VE.cons
    · first | exact ev_load rfl (gn rfl) rfl rfl Tryd.underlying29 rfl Tryd.sizeOf29 rfl rfl | exact ev_loadx rfl (gn rfl) rfl Tryd.underlying29 rfl Tryd.sizeOf29 (by assumption) rfl
    simp only [nm, seval]
    apply VE.cons
    · first | exact ev_load rfl (gn rfl) rfl rfl Tryd.underlying29 rfl Tryd.sizeOf29 rfl rfl | exact ev_loadx rfl (gn rfl) rfl Tryd.underlying29 rfl Tryd.sizeOf29 (by assumption) rfl
    simp only [nm, seval]
    apply VE.cons
    · exact ev_call rfl (gn rfl) rfl (en_of Tryd.func27 (by kernel_rfl) rfl) h2
    simp only [nm, seval]
    apply VE.cons
    · exact ev_store rfl (gn rfl) rfl rfl rfl Tryd.sizeOf29 rfl (by simp) rfl
    simp only [nm, seval]
    apply VE.cons
    · exact ev_store rfl (gn rfl) rfl rfl rfl Tryd.sizeOf29 rfl (by simp) rfl
    simp only [nm, seval]
    exact VE.nil _
  · kernel_rfl
  change VOk _ _ _ _ _
  refine vseq ?_
  refine vseq ?_
  apply vrp
  · apply VE.cons
    · first | exact ev_load rfl (gn rfl) rfl rfl Tryd.underlying29 rfl Tryd.sizeOf29 rfl rfl | exact ev_loadx rfl (gn rfl) rfl Tryd.underlying29 rfl Tryd.sizeOf29 (by assumption) rfl
    simp only [nm, seval]
    apply VE.cons
    · first | exact ev_load rfl (gn rfl) rfl rfl Tryd.underlying29 rfl Tryd.sizeOf29 rfl rfl | exact ev_loadx rfl (gn rfl) rfl Tryd.underlying29 rfl Tryd.sizeOf29 (by assumption) rfl
    simp only [nm, seval]
    apply VE.cons
    · exact ev_call rfl (gn rfl) rfl (en_of Tryd.func37 (by kernel_rfl) rfl) hl
    simp only [nm, seval]
    exact VE.nil _
  · kernel_rfl
  change VOk _ _ _ _ _
  refine vcond_t rfl ?_
  refine vseq ?_
  apply vrd (by kernel_rfl)
  · apply VE.cons
    · first | exact ev_load rfl (gn rfl) rfl rfl Tryd.underlying29 rfl Tryd.sizeOf29 rfl rfl | exact ev_loadx rfl (gn rfl) rfl Tryd.underlying29 rfl Tryd.sizeOf29 (by assumption) rfl
    simp only [nm, seval]
    apply VE.cons
    · first | exact ev_load rfl (gn rfl) rfl rfl Tryd.underlying29 rfl Tryd.sizeOf29 rfl rfl | exact ev_loadx rfl (gn rfl) rfl Tryd.underlying29 rfl Tryd.sizeOf29 (by assumption) rfl
    simp only [nm, seval]
    apply VE.cons
    · first | exact ev_load rfl (gn rfl) rfl rfl Tryd.underlying29 rfl Tryd.sizeOf29 rfl rfl | exact ev_loadx rfl (gn rfl) rfl Tryd.underlying29 rfl Tryd.sizeOf29 (by assumption) rfl
    simp only [nm, seval]
    apply VE.cons
    · exact ev_call rfl (gn rfl) rfl (en_of Tryd.func47 (by kernel_rfl) rfl) h3
    simp only [nm, seval]
    apply VE.cons
    · exact ev_call rfl (gn rfl) rfl (en_of Tryd.func46 (by kernel_rfl) rfl) h4
    simp only [nm, seval]
    apply VE.cons
    · exact ev_move rfl (gn rfl)
    simp only [nm, seval]
    apply VE.cons
    · exact ev_extract rfl (gn rfl) rfl rfl
    simp only [nm, seval]
    apply VE.cons
    · exact ev_extract rfl (gn rfl) rfl rfl
    simp only [nm, seval]
    apply VE.cons
    · exact ev_alloc rfl rfl (gn rfl) Tryd.zeroValue29
    simp only [nm, seval]
    apply VE.cons
    · exact ev_store rfl (gn rfl) rfl rfl rfl Tryd.sizeOf29 rfl (by simp) rfl
    simp only [nm, seval]
    apply VE.cons
    · exact ev_assign rfl (gn rfl)
    simp only [nm, seval]
    exact VE.nil _
  · kernel_rfl
  change VOk _ _ _ _ _
  refine vseq ?_
  apply vrp
  · apply VE.cons
    · first | exact ev_load rfl (gn rfl) rfl rfl Tryd.underlying29 rfl Tryd.sizeOf29 rfl rfl | exact ev_loadx rfl (gn rfl) rfl Tryd.underlying29 rfl Tryd.sizeOf29 (by assumption) rfl
    simp only [nm, seval]
    apply VE.cons
    · exact ev_store rfl (gn rfl) rfl rfl rfl Tryd.sizeOf29 rfl (by simp) rfl
    simp only [nm, seval]
    exact VE.nil _
  · kernel_rfl
  change VOk _ _ _ _ _
  refine vret ?_
  refine post_ret (res1 Tryd.results23 (rv_cell rfl rfl Tryd.underlying29 rfl Tryd.sizeOf29 rfl rfl)) ?_
  intro w' hg
  exact ⟨rfl, hg⟩
theorem rSub_0 (a0 a1 a2 a3 b0 b1 b2 b3 m0 m1 m2 m3 x0 x1 x2 x3 y0 y1 y2 y3 z0 z1 z2 z3 : Nat) (w : World) (h1 : ∀ w', Gw w w' → Calls Tryd.prog 27 #[.agg #[.int .u64 (a0 : Nat), .int .u64 (a1 : Nat), .int .u64 (a2 : Nat), .int .u64 (a3 : Nat)], .agg #[.int .u64 (m0 : Nat), .int .u64 (m1 : Nat), .int .u64 (m2 : Nat), .int .u64 (m3 : Nat)]] w' fun e w'' => e = .returned (.agg #[.int .u64 (x0 : Nat), .int .u64 (x1 : Nat), .int .u64 (x2 : Nat), .int .u64 (x3 : Nat)]) ∧ Gw w' w'') (h2 : ∀ w', Gw w w' → Calls Tryd.prog 27 #[.agg #[.int .u64 (b0 : Nat), .int .u64 (b1 : Nat), .int .u64 (b2 : Nat), .int .u64 (b3 : Nat)], .agg #[.int .u64 (m0 : Nat), .int .u64 (m1 : Nat), .int .u64 (m2 : Nat), .int .u64 (m3 : Nat)]] w' fun e w'' => e = .returned (.agg #[.int .u64 (y0 : Nat), .int .u64 (y1 : Nat), .int .u64 (y2 : Nat), .int .u64 (y3 : Nat)]) ∧ Gw w' w'') (hl : ∀ w', Gw w w' → Calls Tryd.prog 37 #[.agg #[.int .u64 (x0 : Nat), .int .u64 (x1 : Nat), .int .u64 (x2 : Nat), .int .u64 (x3 : Nat)], .agg #[.int .u64 (y0 : Nat), .int .u64 (y1 : Nat), .int .u64 (y2 : Nat), .int .u64 (y3 : Nat)]] w' fun e w'' => e = .returned (.bool false) ∧ Gw w' w'') (h3 : ∀ w', Gw w w' → Calls Tryd.prog 47 #[.agg #[.int .u64 (x0 : Nat), .int .u64 (x1 : Nat), .int .u64 (x2 : Nat), .int .u64 (x3 : Nat)], .agg #[.int .u64 (y0 : Nat), .int .u64 (y1 : Nat), .int .u64 (y2 : Nat), .int .u64 (y3 : Nat)]] w' fun e w'' => e = .returned (.agg #[.int .u64 (z0 : Nat), .int .u64 (z1 : Nat), .int .u64 (z2 : Nat), .int .u64 (z3 : Nat)]) ∧ Gw w' w'') :
  Calls Tryd.prog 23 #[.agg #[.int .u64 (a0 : Nat), .int .u64 (a1 : Nat), .int .u64 (a2 : Nat), .int .u64 (a3 : Nat)], .agg #[.int .u64 (b0 : Nat), .int .u64 (b1 : Nat), .int .u64 (b2 : Nat), .int .u64 (b3 : Nat)], .agg #[.int .u64 (m0 : Nat), .int .u64 (m1 : Nat), .int .u64 (m2 : Nat), .int .u64 (m3 : Nat)]] w fun e w' => e = .returned (.agg #[.int .u64 (z0 : Nat), .int .u64 (z1 : Nat), .int .u64 (z2 : Nat), .int .u64 (z3 : Nat)]) ∧ Gw w w' := by
  go_enter Tryd.func23, Tryd.ntmps23
  refine ve_go ?_
  simp only [List.map_cons, List.map_nil]
  refine vseq ?_
  apply vrp
  · apply VE.cons
    · exact ev_box rfl rfl (gn rfl) rfl
    simp only [nm, seval]
    apply VE.cons
    · exact ev_box rfl rfl (gn rfl) rfl
    simp only [nm, seval]
    apply VE.cons
    · exact ev_box rfl rfl (gn rfl) rfl
    simp only [nm, seval]
    apply VE.cons
    · exact ev_alloc rfl rfl (gn rfl) Tryd.zeroValue29
    simp only [nm, seval]
    exact VE.nil _
  · kernel_rfl
  change VOk _ _ _ _ _
  refine vseq ?_
  apply vrd (by kernel_rfl)
  · apply VE.cons
    · first | exact ev_load rfl (gn rfl) rfl rfl Tryd.underlying29 rfl Tryd.sizeOf29 rfl rfl | exact ev_loadx rfl (gn rfl) rfl Tryd.underlying29 rfl Tryd.sizeOf29 (by assumption) rfl
    simp only [nm, seval]
    apply VE.cons
    · first | exact ev_load rfl (gn rfl) rfl rfl Tryd.underlying29 rfl Tryd.sizeOf29 rfl rfl | exact ev_loadx rfl (gn rfl) rfl Tryd.underlying29 rfl Tryd.sizeOf29 (by assumption) rfl
    simp only [nm, seval]
    apply VE.cons
    · exact ev_call rfl (gn rfl) rfl (en_of Tryd.func27 (by kernel_rfl) rfl) h1
    simp only [nm, seval]
    apply VE.cons
    · first | exact ev_load rfl (gn rfl) rfl rfl Tryd.underlying29 rfl Tryd.sizeOf29 rfl rfl | exact ev_loadx rfl (gn rfl) rfl Tryd.underlying29 rfl Tryd.sizeOf29 (by assumption) rfl
    simp only [nm, seval]
    apply VE.cons
    · first | exact ev_load rfl (gn rfl) rfl rfl Tryd.underlying29 rfl Tryd.sizeOf29 rfl rfl | exact ev_loadx rfl (gn rfl) rfl Tryd.underlying29 rfl Tryd.sizeOf29 (by assumption) rfl
    simp only [nm, seval]
    apply VE.cons
    · exact ev_call rfl (gn rfl) rfl (en_of Tryd.func27 (by kernel_rfl) rfl) h2
    simp only [nm, seval]
    apply VE.cons
    · exact ev_store rfl (gn rfl) rfl rfl rfl Tryd.sizeOf29 rfl (by simp) rfl
    simp only [nm, seval]
    apply VE.cons
    · exact ev_store rfl (gn rfl) rfl rfl rfl Tryd.sizeOf29 rfl (by simp) rfl
    simp only [nm, seval]
    exact VE.nil _
  · kernel_rfl
  change VOk _ _ _ _ _
  refine vseq ?_
  refine vseq ?_
  apply vrp
  · apply VE.cons
    · first | exact ev_load rfl (gn rfl) rfl rfl Tryd.underlying29 rfl Tryd.sizeOf29 rfl rfl | exact ev_loadx rfl (gn rfl) rfl Tryd.underlying29 rfl Tryd.sizeOf29 (by assumption) rfl
    simp only [nm, seval]
    apply VE.cons
    · first | exact ev_load rfl (gn rfl) rfl rfl Tryd.underlying29 rfl Tryd.sizeOf29 rfl rfl | exact ev_loadx rfl (gn rfl) rfl Tryd.underlying29 rfl Tryd.sizeOf29 (by assumption) rfl
    simp only [nm, seval]
    apply VE.cons
    · exact ev_call rfl (gn rfl) rfl (en_of Tryd.func37 (by kernel_rfl) rfl) hl
    simp only [nm, seval]
    exact VE.nil _
  · kernel_rfl
  change VOk _ _ _ _ _
  refine vcond_f rfl ?_
  refine vskip ?_
  change VOk _ _ _ _ _
  refine vseq ?_
  apply vrp
  · apply VE.cons
    · first | exact ev_load rfl (gn rfl) rfl rfl Tryd.underlying29 rfl Tryd.sizeOf29 rfl rfl | exact ev_loadx rfl (gn rfl) rfl Tryd.underlying29 rfl Tryd.sizeOf29 (by assumption) rfl
    simp only [nm, seval]
    apply VE.cons
    · first | exact ev_load rfl (gn rfl) rfl rfl Tryd.underlying29 rfl Tryd.sizeOf29 rfl rfl | exact ev_loadx rfl (gn rfl) rfl Tryd.underlying29 rfl Tryd.sizeOf29 (by assumption) rfl
    simp only [nm, seval]
    apply VE.cons
    · exact ev_call rfl (gn rfl) rfl (en_of Tryd.func47 (by kernel_rfl) rfl) h3
    simp only [nm, seval]
    apply VE.cons
    · exact ev_store rfl (gn rfl) rfl rfl rfl Tryd.sizeOf29 rfl (by simp) rfl
    simp only [nm, seval]
    exact VE.nil _
  · kernel_rfl
  change VOk _ _ _ _ _
  refine vret ?_
  refine post_ret (res1 Tryd.results23 (rv_cell rfl rfl Tryd.underlying29 rfl Tryd.sizeOf29 rfl rfl)) ?_
  intro w' hg
  exact ⟨rfl, hg⟩
end Go.Proofs.YtbnfanmolphliaaDoor
