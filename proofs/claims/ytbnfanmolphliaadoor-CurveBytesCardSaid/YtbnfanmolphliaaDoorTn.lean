import Derived.Test.YtbnfanmolphliaaDoorProg
import Derived.Test.YtbnfanmolphliaaDoorVo
namespace Go.Proofs.YtbnfanmolphliaaDoor
open Go.RowKit Go.Toll
set_option maxHeartbeats 4000000
set_option maxRecDepth 100000
theorem bytes_core (lw : Nat → Nat) (shr : Nat → Int → Nat) (a0 a1 a2 a3 : Nat) (w : World)
  (hcv : ∀ (x : Nat) (w : World), (convert 28 5 (.int .u64 (x : Nat))).run Tryd.prog w = .ok (.int .u8 (lw x : Nat)) w)
  (hshr : ∀ (x : Nat) (s : Int) (_ : 0 ≤ s) (_ : s < 64) (p q : Operand) (w : World), (do eqGuard .shr 28 p q (.int .u64 (x : Nat)) (.int .i64 s); binOp .shr 28 (.int .u64 (x : Nat)) (.int .i64 s) : Sem Value).run Tryd.prog w = .ok (.int .u64 (shr x s : Nat)) w) :
  Calls Tryd.prog 34 #[.agg #[.int .u64 (a0 : Nat), .int .u64 (a1 : Nat), .int .u64 (a2 : Nat), .int .u64 (a3 : Nat)]] w fun e w' => e = .returned (.agg #[.int .u8 (lw (shr a3 56) : Nat), .int .u8 (lw (shr a3 48) : Nat), .int .u8 (lw (shr a3 40) : Nat), .int .u8 (lw (shr a3 32) : Nat), .int .u8 (lw (shr a3 24) : Nat), .int .u8 (lw (shr a3 16) : Nat), .int .u8 (lw (shr a3 8) : Nat), .int .u8 (lw (shr a3 0) : Nat), .int .u8 (lw (shr a2 56) : Nat), .int .u8 (lw (shr a2 48) : Nat), .int .u8 (lw (shr a2 40) : Nat), .int .u8 (lw (shr a2 32) : Nat), .int .u8 (lw (shr a2 24) : Nat), .int .u8 (lw (shr a2 16) : Nat), .int .u8 (lw (shr a2 8) : Nat), .int .u8 (lw (shr a2 0) : Nat), .int .u8 (lw (shr a1 56) : Nat), .int .u8 (lw (shr a1 48) : Nat), .int .u8 (lw (shr a1 40) : Nat), .int .u8 (lw (shr a1 32) : Nat), .int .u8 (lw (shr a1 24) : Nat), .int .u8 (lw (shr a1 16) : Nat), .int .u8 (lw (shr a1 8) : Nat), .int .u8 (lw (shr a1 0) : Nat), .int .u8 (lw (shr a0 56) : Nat), .int .u8 (lw (shr a0 48) : Nat), .int .u8 (lw (shr a0 40) : Nat), .int .u8 (lw (shr a0 32) : Nat), .int .u8 (lw (shr a0 24) : Nat), .int .u8 (lw (shr a0 16) : Nat), .int .u8 (lw (shr a0 8) : Nat), .int .u8 (lw (shr a0 0) : Nat)]) ∧ Gw w w' := by
  go_enter Tryd.func34, Tryd.ntmps34
  refine ve_go ?_
  simp only [List.map_cons, List.map_nil]
  refine vseq ?_
  apply vrp
  · apply VE.cons
    · exact ev_box rfl rfl (gn rfl) rfl
    simp only [nm, seval]
    apply VE.cons
    · exact ev_alloc rfl rfl (gn rfl) Tryd.zeroValue22
    simp only [nm, seval]
    exact VE.nil _
  · kernel_rfl
  change VOk _ _ _ _ _
  refine vseq ?_
  apply vrp
  · apply VE.cons
    · exact ev_alloc rfl rfl (gn rfl) Tryd.zeroValue22
    simp only [nm, seval]
    exact VE.nil _
  · kernel_rfl
  change VOk _ _ _ _ _
  refine vseq ?_
  refine vseq ?_
  apply vrp
  · apply VE.cons
    · exact ev_move rfl (gn rfl)
    simp only [nm, seval]
    exact VE.nil _
  · kernel_rfl
  change VOk _ _ _ _ _
  refine vblock ?_
  refine vloop 33 ?_
  iterate 32
    change VOk _ _ _ _ _
    refine vseq ?_
    apply vrp
    · apply VE.cons
      · refine ev_pure' (gn rfl) (fun ρ w => by simp only [VS.act, SV.c, List.map_cons, List.map_nil]; go_simp; exact rfl) (fun _ _ => rfl)
      simp only [nm, seval]
      exact VE.nil _
    · kernel_rfl
    change VOk _ _ _ _ _
    refine vseq ?_
    refine vcond_t rfl ?_
    refine vskip ?_
    change VOk _ _ _ _ _
    refine vseq ?_
    refine vblock ?_
    refine vseq ?_
    apply vrp
    · apply VE.cons
      · exact ev_move rfl (gn rfl)
      simp only [nm, seval]
      apply VE.cons
      · exact ev_assign rfl (gn rfl)
      simp only [nm, seval]
      exact VE.nil _
    · kernel_rfl
    change VOk _ _ _ _ _
    apply vrp
    · apply VE.cons
      · exact ev_move rfl (gn rfl)
      simp only [nm, seval]
      apply VE.cons
      · exact ev_move rfl (gn rfl)
      simp only [nm, seval]
      apply VE.cons
      · refine ev_pure' (gn rfl) (fun ρ w => by simp only [VS.act, SV.c, List.map_cons, List.map_nil]; go_simp; exact rfl) (fun _ _ => rfl)
      simp only [nm, seval]
      apply VE.cons
      · refine ev_pure' (gn rfl) (fun ρ w => by simp only [VS.act, SV.c, List.map_cons, List.map_nil]; go_simp; exact rfl) (fun _ _ => rfl)
      simp only [nm, seval]
      apply VE.cons
      · first | exact ev_index rfl (gn rfl) rfl rfl Tryd.underlying59 Tryd.sizeOf28 (by decide) (by decide) | exact ev_indexx rfl (gn rfl) rfl rfl Tryd.underlying59 Tryd.sizeOf28 (by decide) (by decide)
      simp only [nm, seval]
      apply VE.cons
      · first | exact ev_load1 rfl (gn rfl) rfl rfl Tryd.underlying28 rfl rfl | exact ev_loadx1 rfl (gn rfl) rfl Tryd.underlying28 rfl (by first | assumption | exact hm 0 _ rfl | exact hm 1 _ rfl | exact hm 2 _ rfl | exact hm 3 _ rfl)
      simp only [nm, seval]
      apply VE.cons
      · exact ev_move rfl (gn rfl)
      simp only [nm, seval]
      apply VE.cons
      · refine ev_pure' (gn rfl) (fun ρ w => by simp only [VS.act, SV.c, List.map_cons, List.map_nil]; go_simp; exact rfl) (fun _ _ => rfl)
      simp only [nm, seval]
      apply VE.cons
      · refine ev_pure' (gn rfl) (fun ρ w => by simp only [VS.act, SV.c, List.map_cons, List.map_nil]; go_simp; exact rfl) (fun _ _ => rfl)
      simp only [nm, seval]
      apply VE.cons
      · refine ev_pure' (gn rfl) (fun ρ w => by simp only [VS.act, SV.c, List.map_cons, List.map_nil]; go_simp; exact rfl) (fun _ _ => rfl)
      simp only [nm, seval]
      apply VE.cons
      · exact ev_bin rfl (gn rfl) rfl rfl (fun w => hshr _ _ (by decide) (by decide) _ _ w)
      simp only [nm, seval]
      apply VE.cons
      · exact ev_conv rfl (gn rfl) rfl (fun w => hcv _ w)
      simp only [nm, seval]
      apply VE.cons
      · first | exact ev_index rfl (gn rfl) rfl rfl Tryd.underlying22 Tryd.sizeOf5 (by decide) (by decide) | exact ev_indexx rfl (gn rfl) rfl rfl Tryd.underlying22 Tryd.sizeOf5 (by decide) (by decide)
      simp only [nm, seval]
      apply VE.cons
      · exact ev_store rfl (gn rfl) rfl rfl rfl Tryd.sizeOf5 rfl (by simp) rfl
      simp only [nm, seval]
      exact VE.nil _
    · kernel_rfl
    change VOk _ _ _ _ _
    apply vrp
    · apply VE.cons
      · refine ev_pure' (gn rfl) (fun ρ w => by simp only [VS.act, SV.c, List.map_cons, List.map_nil]; go_simp; exact rfl) (fun _ _ => rfl)
      simp only [nm, seval]
      apply VE.cons
      · exact ev_move rfl (gn rfl)
      simp only [nm, seval]
      exact VE.nil _
    · kernel_rfl
  change VOk _ _ _ _ _
  refine vseq ?_
  apply vrp
  · apply VE.cons
    · refine ev_pure' (gn rfl) (fun ρ w => by simp only [VS.act, SV.c, List.map_cons, List.map_nil]; go_simp; exact rfl) (fun _ _ => rfl)
    simp only [nm, seval]
    exact VE.nil _
  · kernel_rfl
  change VOk _ _ _ _ _
  refine vseq ?_
  refine vcond_f rfl ?_
  refine vexit ?_
  change VOk _ _ _ _ _
  refine vseq ?_
  apply vrp
  · apply VE.cons
    · first | exact ev_load rfl (gn rfl) rfl rfl Tryd.underlying22 rfl Tryd.sizeOf22 rfl rfl | exact ev_loadx rfl (gn rfl) rfl Tryd.underlying22 rfl Tryd.sizeOf22 (by assumption) rfl
    simp only [nm, seval]
    apply VE.cons
    · exact ev_store rfl (gn rfl) rfl rfl rfl Tryd.sizeOf22 rfl (by simp) rfl
    simp only [nm, seval]
    exact VE.nil _
  · kernel_rfl
  change VOk _ _ _ _ _
  refine vret ?_
  refine post_ret (res1 Tryd.results34 (rv_cell rfl rfl Tryd.underlying22 rfl Tryd.sizeOf22 rfl rfl)) ?_
  intro w' hg
  exact ⟨rfl, hg⟩
theorem bit_0 (a0 a1 a2 a3 : Nat) (s t : Nat) (i r : Int) (w : World) (h0 : decide (i < 0) = false) (h1 : decide ((256 : Int) ≤ i) = false)
  (hq : ∀ (p q : Operand) (w : World), (do eqGuard .quo 3 p q (.int .i64 i) (.int .i64 64); binOp .quo 3 (.int .i64 i) (.int .i64 64) : Sem Value).run Tryd.prog w = .ok (.int .i64 0) w)
  (hr : ∀ (p q : Operand) (w : World), (do eqGuard .rem 3 p q (.int .i64 i) (.int .i64 64); binOp .rem 3 (.int .i64 i) (.int .i64 64) : Sem Value).run Tryd.prog w = .ok (.int .i64 r) w)
  (hs : ∀ (p q : Operand) (w : World), (do eqGuard .shr 28 p q (.int .u64 (a0 : Nat)) (.int .i64 r); binOp .shr 28 (.int .u64 (a0 : Nat)) (.int .i64 r) : Sem Value).run Tryd.prog w = .ok (.int .u64 (s : Nat)) w)
  (ha : ∀ (p q : Operand) (w : World), (do eqGuard .and 28 p q (.int .u64 (s : Nat)) (.int .u64 1); binOp .and 28 (.int .u64 (s : Nat)) (.int .u64 1) : Sem Value).run Tryd.prog w = .ok (.int .u64 (t : Nat)) w)
  (hc : ∀ (w : World), (convert 28 3 (.int .u64 (t : Nat))).run Tryd.prog w = .ok (.int .i64 (t : Nat)) w) :
  Calls Tryd.prog 43 #[.agg #[.int .u64 (a0 : Nat), .int .u64 (a1 : Nat), .int .u64 (a2 : Nat), .int .u64 (a3 : Nat)], .int .i64 i] w fun e w' => e = .returned (.int .i64 (t : Nat)) ∧ Gw w w' := by
  go_enter Tryd.func43, Tryd.ntmps43
  refine ve_go ?_
  simp only [List.map_cons, List.map_nil]
  refine vseq ?_
  apply vrp
  · apply VE.cons
    · exact ev_box rfl rfl (gn rfl) rfl
    simp only [nm, seval]
    apply VE.cons
    · exact ev_assign rfl (gn rfl)
    simp only [nm, seval]
    exact VE.nil _
  · kernel_rfl
  change VOk _ _ _ _ _
  refine vseq ?_
  refine vseq ?_
  apply vrp
  · apply VE.cons
    · exact ev_move rfl (gn rfl)
    simp only [nm, seval]
    apply VE.cons
    · exact ev_lss (p := false) rfl (gn rfl) rfl rfl h0
    simp only [nm, seval]
    apply VE.cons
    · exact ev_move rfl (gn rfl)
    simp only [nm, seval]
    apply VE.cons
    · first | exact Ev.skip (fun _ => rfl) | exact ev_move rfl (fun _ => rfl)
    simp only [nm, seval]
    apply VE.cons
    · first | exact Ev.skip (fun _ => rfl) | exact ev_geq (p := false) rfl (fun _ => rfl) rfl rfl h1
    simp only [nm, seval]
    apply VE.cons
    · refine ev_pure' (gn rfl) (fun ρ w => by simp only [VS.act, SV.c, List.map_cons, List.map_nil]; go_simp; exact rfl) (fun _ _ => rfl)
    simp only [nm, seval]
    exact VE.nil _
  · kernel_rfl
  change VOk _ _ _ _ _
  refine vcond_f rfl ?_
  refine vskip ?_
  change VOk _ _ _ _ _
  refine vseq ?_
  apply vrp
  · apply VE.cons
    · exact ev_move rfl (gn rfl)
    simp only [nm, seval]
    apply VE.cons
    · exact ev_bin rfl (gn rfl) rfl rfl (fun w => hq  _ _ w)
    simp only [nm, seval]
    apply VE.cons
    · first | exact ev_index rfl (gn rfl) rfl rfl Tryd.underlying59 Tryd.sizeOf28 (by decide) (by decide) | exact ev_indexx rfl (gn rfl) rfl rfl Tryd.underlying59 Tryd.sizeOf28 (by decide) (by decide)
    simp only [nm, seval]
    apply VE.cons
    · first | exact ev_load1 rfl (gn rfl) rfl rfl Tryd.underlying28 rfl rfl | exact ev_loadx1 rfl (gn rfl) rfl Tryd.underlying28 rfl (by first | assumption | exact hm 0 _ rfl | exact hm 1 _ rfl | exact hm 2 _ rfl | exact hm 3 _ rfl)
    simp only [nm, seval]
    apply VE.cons
    · exact ev_move rfl (gn rfl)
    simp only [nm, seval]
    apply VE.cons
    · exact ev_bin rfl (gn rfl) rfl rfl (fun w => hr  _ _ w)
    simp only [nm, seval]
    apply VE.cons
    · exact ev_bin rfl (gn rfl) rfl rfl (fun w => hs  _ _ w)
    simp only [nm, seval]
    apply VE.cons
    · exact ev_bin rfl (gn rfl) rfl rfl (fun w => ha  _ _ w)
    simp only [nm, seval]
    apply VE.cons
    · exact ev_conv rfl (gn rfl) rfl (fun w => hc w)
    simp only [nm, seval]
    apply VE.cons
    · exact ev_assign rfl (gn rfl)
    simp only [nm, seval]
    exact VE.nil _
  · kernel_rfl
  change VOk _ _ _ _ _
  refine vret ?_
  refine post_ret (res1 Tryd.results43 (rv_tmp rfl)) ?_
  intro w' hg
  exact ⟨rfl, hg⟩
theorem bit_1 (a0 a1 a2 a3 : Nat) (s t : Nat) (i r : Int) (w : World) (h0 : decide (i < 0) = false) (h1 : decide ((256 : Int) ≤ i) = false)
  (hq : ∀ (p q : Operand) (w : World), (do eqGuard .quo 3 p q (.int .i64 i) (.int .i64 64); binOp .quo 3 (.int .i64 i) (.int .i64 64) : Sem Value).run Tryd.prog w = .ok (.int .i64 1) w)
  (hr : ∀ (p q : Operand) (w : World), (do eqGuard .rem 3 p q (.int .i64 i) (.int .i64 64); binOp .rem 3 (.int .i64 i) (.int .i64 64) : Sem Value).run Tryd.prog w = .ok (.int .i64 r) w)
  (hs : ∀ (p q : Operand) (w : World), (do eqGuard .shr 28 p q (.int .u64 (a1 : Nat)) (.int .i64 r); binOp .shr 28 (.int .u64 (a1 : Nat)) (.int .i64 r) : Sem Value).run Tryd.prog w = .ok (.int .u64 (s : Nat)) w)
  (ha : ∀ (p q : Operand) (w : World), (do eqGuard .and 28 p q (.int .u64 (s : Nat)) (.int .u64 1); binOp .and 28 (.int .u64 (s : Nat)) (.int .u64 1) : Sem Value).run Tryd.prog w = .ok (.int .u64 (t : Nat)) w)
  (hc : ∀ (w : World), (convert 28 3 (.int .u64 (t : Nat))).run Tryd.prog w = .ok (.int .i64 (t : Nat)) w) :
  Calls Tryd.prog 43 #[.agg #[.int .u64 (a0 : Nat), .int .u64 (a1 : Nat), .int .u64 (a2 : Nat), .int .u64 (a3 : Nat)], .int .i64 i] w fun e w' => e = .returned (.int .i64 (t : Nat)) ∧ Gw w w' := by
  go_enter Tryd.func43, Tryd.ntmps43
  refine ve_go ?_
  simp only [List.map_cons, List.map_nil]
  refine vseq ?_
  apply vrp
  · apply VE.cons
    · exact ev_box rfl rfl (gn rfl) rfl
    simp only [nm, seval]
    apply VE.cons
    · exact ev_assign rfl (gn rfl)
    simp only [nm, seval]
    exact VE.nil _
  · kernel_rfl
  change VOk _ _ _ _ _
  refine vseq ?_
  refine vseq ?_
  apply vrp
  · apply VE.cons
    · exact ev_move rfl (gn rfl)
    simp only [nm, seval]
    apply VE.cons
    · exact ev_lss (p := false) rfl (gn rfl) rfl rfl h0
    simp only [nm, seval]
    apply VE.cons
    · exact ev_move rfl (gn rfl)
    simp only [nm, seval]
    apply VE.cons
    · first | exact Ev.skip (fun _ => rfl) | exact ev_move rfl (fun _ => rfl)
    simp only [nm, seval]
    apply VE.cons
    · first | exact Ev.skip (fun _ => rfl) | exact ev_geq (p := false) rfl (fun _ => rfl) rfl rfl h1
    simp only [nm, seval]
    apply VE.cons
    · refine ev_pure' (gn rfl) (fun ρ w => by simp only [VS.act, SV.c, List.map_cons, List.map_nil]; go_simp; exact rfl) (fun _ _ => rfl)
    simp only [nm, seval]
    exact VE.nil _
  · kernel_rfl
  change VOk _ _ _ _ _
  refine vcond_f rfl ?_
  refine vskip ?_
  change VOk _ _ _ _ _
  refine vseq ?_
  apply vrp
  · apply VE.cons
    · exact ev_move rfl (gn rfl)
    simp only [nm, seval]
    apply VE.cons
    · exact ev_bin rfl (gn rfl) rfl rfl (fun w => hq  _ _ w)
    simp only [nm, seval]
    apply VE.cons
    · first | exact ev_index rfl (gn rfl) rfl rfl Tryd.underlying59 Tryd.sizeOf28 (by decide) (by decide) | exact ev_indexx rfl (gn rfl) rfl rfl Tryd.underlying59 Tryd.sizeOf28 (by decide) (by decide)
    simp only [nm, seval]
    apply VE.cons
    · first | exact ev_load1 rfl (gn rfl) rfl rfl Tryd.underlying28 rfl rfl | exact ev_loadx1 rfl (gn rfl) rfl Tryd.underlying28 rfl (by first | assumption | exact hm 0 _ rfl | exact hm 1 _ rfl | exact hm 2 _ rfl | exact hm 3 _ rfl)
    simp only [nm, seval]
    apply VE.cons
    · exact ev_move rfl (gn rfl)
    simp only [nm, seval]
    apply VE.cons
    · exact ev_bin rfl (gn rfl) rfl rfl (fun w => hr  _ _ w)
    simp only [nm, seval]
    apply VE.cons
    · exact ev_bin rfl (gn rfl) rfl rfl (fun w => hs  _ _ w)
    simp only [nm, seval]
    apply VE.cons
    · exact ev_bin rfl (gn rfl) rfl rfl (fun w => ha  _ _ w)
    simp only [nm, seval]
    apply VE.cons
    · exact ev_conv rfl (gn rfl) rfl (fun w => hc w)
    simp only [nm, seval]
    apply VE.cons
    · exact ev_assign rfl (gn rfl)
    simp only [nm, seval]
    exact VE.nil _
  · kernel_rfl
  change VOk _ _ _ _ _
  refine vret ?_
  refine post_ret (res1 Tryd.results43 (rv_tmp rfl)) ?_
  intro w' hg
  exact ⟨rfl, hg⟩
theorem bit_2 (a0 a1 a2 a3 : Nat) (s t : Nat) (i r : Int) (w : World) (h0 : decide (i < 0) = false) (h1 : decide ((256 : Int) ≤ i) = false)
  (hq : ∀ (p q : Operand) (w : World), (do eqGuard .quo 3 p q (.int .i64 i) (.int .i64 64); binOp .quo 3 (.int .i64 i) (.int .i64 64) : Sem Value).run Tryd.prog w = .ok (.int .i64 2) w)
  (hr : ∀ (p q : Operand) (w : World), (do eqGuard .rem 3 p q (.int .i64 i) (.int .i64 64); binOp .rem 3 (.int .i64 i) (.int .i64 64) : Sem Value).run Tryd.prog w = .ok (.int .i64 r) w)
  (hs : ∀ (p q : Operand) (w : World), (do eqGuard .shr 28 p q (.int .u64 (a2 : Nat)) (.int .i64 r); binOp .shr 28 (.int .u64 (a2 : Nat)) (.int .i64 r) : Sem Value).run Tryd.prog w = .ok (.int .u64 (s : Nat)) w)
  (ha : ∀ (p q : Operand) (w : World), (do eqGuard .and 28 p q (.int .u64 (s : Nat)) (.int .u64 1); binOp .and 28 (.int .u64 (s : Nat)) (.int .u64 1) : Sem Value).run Tryd.prog w = .ok (.int .u64 (t : Nat)) w)
  (hc : ∀ (w : World), (convert 28 3 (.int .u64 (t : Nat))).run Tryd.prog w = .ok (.int .i64 (t : Nat)) w) :
  Calls Tryd.prog 43 #[.agg #[.int .u64 (a0 : Nat), .int .u64 (a1 : Nat), .int .u64 (a2 : Nat), .int .u64 (a3 : Nat)], .int .i64 i] w fun e w' => e = .returned (.int .i64 (t : Nat)) ∧ Gw w w' := by
  go_enter Tryd.func43, Tryd.ntmps43
  refine ve_go ?_
  simp only [List.map_cons, List.map_nil]
  refine vseq ?_
  apply vrp
  · apply VE.cons
    · exact ev_box rfl rfl (gn rfl) rfl
    simp only [nm, seval]
    apply VE.cons
    · exact ev_assign rfl (gn rfl)
    simp only [nm, seval]
    exact VE.nil _
  · kernel_rfl
  change VOk _ _ _ _ _
  refine vseq ?_
  refine vseq ?_
  apply vrp
  · apply VE.cons
    · exact ev_move rfl (gn rfl)
    simp only [nm, seval]
    apply VE.cons
    · exact ev_lss (p := false) rfl (gn rfl) rfl rfl h0
    simp only [nm, seval]
    apply VE.cons
    · exact ev_move rfl (gn rfl)
    simp only [nm, seval]
    apply VE.cons
    · first | exact Ev.skip (fun _ => rfl) | exact ev_move rfl (fun _ => rfl)
    simp only [nm, seval]
    apply VE.cons
    · first | exact Ev.skip (fun _ => rfl) | exact ev_geq (p := false) rfl (fun _ => rfl) rfl rfl h1
    simp only [nm, seval]
    apply VE.cons
    · refine ev_pure' (gn rfl) (fun ρ w => by simp only [VS.act, SV.c, List.map_cons, List.map_nil]; go_simp; exact rfl) (fun _ _ => rfl)
    simp only [nm, seval]
    exact VE.nil _
  · kernel_rfl
  change VOk _ _ _ _ _
  refine vcond_f rfl ?_
  refine vskip ?_
  change VOk _ _ _ _ _
  refine vseq ?_
  apply vrp
  · apply VE.cons
    · exact ev_move rfl (gn rfl)
    simp only [nm, seval]
    apply VE.cons
    · exact ev_bin rfl (gn rfl) rfl rfl (fun w => hq  _ _ w)
    simp only [nm, seval]
    apply VE.cons
    · first | exact ev_index rfl (gn rfl) rfl rfl Tryd.underlying59 Tryd.sizeOf28 (by decide) (by decide) | exact ev_indexx rfl (gn rfl) rfl rfl Tryd.underlying59 Tryd.sizeOf28 (by decide) (by decide)
    simp only [nm, seval]
    apply VE.cons
    · first | exact ev_load1 rfl (gn rfl) rfl rfl Tryd.underlying28 rfl rfl | exact ev_loadx1 rfl (gn rfl) rfl Tryd.underlying28 rfl (by first | assumption | exact hm 0 _ rfl | exact hm 1 _ rfl | exact hm 2 _ rfl | exact hm 3 _ rfl)
    simp only [nm, seval]
    apply VE.cons
    · exact ev_move rfl (gn rfl)
    simp only [nm, seval]
    apply VE.cons
    · exact ev_bin rfl (gn rfl) rfl rfl (fun w => hr  _ _ w)
    simp only [nm, seval]
    apply VE.cons
    · exact ev_bin rfl (gn rfl) rfl rfl (fun w => hs  _ _ w)
    simp only [nm, seval]
    apply VE.cons
    · exact ev_bin rfl (gn rfl) rfl rfl (fun w => ha  _ _ w)
    simp only [nm, seval]
    apply VE.cons
    · exact ev_conv rfl (gn rfl) rfl (fun w => hc w)
    simp only [nm, seval]
    apply VE.cons
    · exact ev_assign rfl (gn rfl)
    simp only [nm, seval]
    exact VE.nil _
  · kernel_rfl
  change VOk _ _ _ _ _
  refine vret ?_
  refine post_ret (res1 Tryd.results43 (rv_tmp rfl)) ?_
  intro w' hg
  exact ⟨rfl, hg⟩
theorem bit_3 (a0 a1 a2 a3 : Nat) (s t : Nat) (i r : Int) (w : World) (h0 : decide (i < 0) = false) (h1 : decide ((256 : Int) ≤ i) = false)
  (hq : ∀ (p q : Operand) (w : World), (do eqGuard .quo 3 p q (.int .i64 i) (.int .i64 64); binOp .quo 3 (.int .i64 i) (.int .i64 64) : Sem Value).run Tryd.prog w = .ok (.int .i64 3) w)
  (hr : ∀ (p q : Operand) (w : World), (do eqGuard .rem 3 p q (.int .i64 i) (.int .i64 64); binOp .rem 3 (.int .i64 i) (.int .i64 64) : Sem Value).run Tryd.prog w = .ok (.int .i64 r) w)
  (hs : ∀ (p q : Operand) (w : World), (do eqGuard .shr 28 p q (.int .u64 (a3 : Nat)) (.int .i64 r); binOp .shr 28 (.int .u64 (a3 : Nat)) (.int .i64 r) : Sem Value).run Tryd.prog w = .ok (.int .u64 (s : Nat)) w)
  (ha : ∀ (p q : Operand) (w : World), (do eqGuard .and 28 p q (.int .u64 (s : Nat)) (.int .u64 1); binOp .and 28 (.int .u64 (s : Nat)) (.int .u64 1) : Sem Value).run Tryd.prog w = .ok (.int .u64 (t : Nat)) w)
  (hc : ∀ (w : World), (convert 28 3 (.int .u64 (t : Nat))).run Tryd.prog w = .ok (.int .i64 (t : Nat)) w) :
  Calls Tryd.prog 43 #[.agg #[.int .u64 (a0 : Nat), .int .u64 (a1 : Nat), .int .u64 (a2 : Nat), .int .u64 (a3 : Nat)], .int .i64 i] w fun e w' => e = .returned (.int .i64 (t : Nat)) ∧ Gw w w' := by
  go_enter Tryd.func43, Tryd.ntmps43
  refine ve_go ?_
  simp only [List.map_cons, List.map_nil]
  refine vseq ?_
  apply vrp
  · apply VE.cons
    · exact ev_box rfl rfl (gn rfl) rfl
    simp only [nm, seval]
    apply VE.cons
    · exact ev_assign rfl (gn rfl)
    simp only [nm, seval]
    exact VE.nil _
  · kernel_rfl
  change VOk _ _ _ _ _
  refine vseq ?_
  refine vseq ?_
  apply vrp
  · apply VE.cons
    · exact ev_move rfl (gn rfl)
    simp only [nm, seval]
    apply VE.cons
    · exact ev_lss (p := false) rfl (gn rfl) rfl rfl h0
    simp only [nm, seval]
    apply VE.cons
    · exact ev_move rfl (gn rfl)
    simp only [nm, seval]
    apply VE.cons
    · first | exact Ev.skip (fun _ => rfl) | exact ev_move rfl (fun _ => rfl)
    simp only [nm, seval]
    apply VE.cons
    · first | exact Ev.skip (fun _ => rfl) | exact ev_geq (p := false) rfl (fun _ => rfl) rfl rfl h1
    simp only [nm, seval]
    apply VE.cons
    · refine ev_pure' (gn rfl) (fun ρ w => by simp only [VS.act, SV.c, List.map_cons, List.map_nil]; go_simp; exact rfl) (fun _ _ => rfl)
    simp only [nm, seval]
    exact VE.nil _
  · kernel_rfl
  change VOk _ _ _ _ _
  refine vcond_f rfl ?_
  refine vskip ?_
  change VOk _ _ _ _ _
  refine vseq ?_
  apply vrp
  · apply VE.cons
    · exact ev_move rfl (gn rfl)
    simp only [nm, seval]
    apply VE.cons
    · exact ev_bin rfl (gn rfl) rfl rfl (fun w => hq  _ _ w)
    simp only [nm, seval]
    apply VE.cons
    · first | exact ev_index rfl (gn rfl) rfl rfl Tryd.underlying59 Tryd.sizeOf28 (by decide) (by decide) | exact ev_indexx rfl (gn rfl) rfl rfl Tryd.underlying59 Tryd.sizeOf28 (by decide) (by decide)
    simp only [nm, seval]
    apply VE.cons
    · first | exact ev_load1 rfl (gn rfl) rfl rfl Tryd.underlying28 rfl rfl | exact ev_loadx1 rfl (gn rfl) rfl Tryd.underlying28 rfl (by first | assumption | exact hm 0 _ rfl | exact hm 1 _ rfl | exact hm 2 _ rfl | exact hm 3 _ rfl)
    simp only [nm, seval]
    apply VE.cons
    · exact ev_move rfl (gn rfl)
    simp only [nm, seval]
    apply VE.cons
    · exact ev_bin rfl (gn rfl) rfl rfl (fun w => hr  _ _ w)
    simp only [nm, seval]
    apply VE.cons
    · exact ev_bin rfl (gn rfl) rfl rfl (fun w => hs  _ _ w)
    simp only [nm, seval]
    apply VE.cons
    · exact ev_bin rfl (gn rfl) rfl rfl (fun w => ha  _ _ w)
    simp only [nm, seval]
    apply VE.cons
    · exact ev_conv rfl (gn rfl) rfl (fun w => hc w)
    simp only [nm, seval]
    apply VE.cons
    · exact ev_assign rfl (gn rfl)
    simp only [nm, seval]
    exact VE.nil _
  · kernel_rfl
  change VOk _ _ _ _ _
  refine vret ?_
  refine post_ret (res1 Tryd.results43 (rv_tmp rfl)) ?_
  intro w' hg
  exact ⟨rfl, hg⟩
theorem bit_lo (a0 a1 a2 a3 : Nat) (i : Int) (w : World) (h0 : decide (i < 0) = true) :
  Calls Tryd.prog 43 #[.agg #[.int .u64 (a0 : Nat), .int .u64 (a1 : Nat), .int .u64 (a2 : Nat), .int .u64 (a3 : Nat)], .int .i64 i] w fun e w' => e = .returned (.int .i64 0) ∧ Gw w w' := by
  go_enter Tryd.func43, Tryd.ntmps43
  refine ve_go ?_
  simp only [List.map_cons, List.map_nil]
  refine vseq ?_
  apply vrp
  · apply VE.cons
    · exact ev_box rfl rfl (gn rfl) rfl
    simp only [nm, seval]
    apply VE.cons
    · exact ev_assign rfl (gn rfl)
    simp only [nm, seval]
    exact VE.nil _
  · kernel_rfl
  change VOk _ _ _ _ _
  refine vseq ?_
  refine vseq ?_
  apply vrp
  · apply VE.cons
    · exact ev_move rfl (gn rfl)
    simp only [nm, seval]
    apply VE.cons
    · exact ev_lss (p := true) rfl (gn rfl) rfl rfl h0
    simp only [nm, seval]
    apply VE.cons
    · exact ev_move rfl (gn rfl)
    simp only [nm, seval]
    apply VE.cons
    · first | exact Ev.skip (fun _ => rfl) | exact ev_move rfl (fun _ => rfl)
    simp only [nm, seval]
    apply VE.cons
    · first | exact Ev.skip (fun _ => rfl) | refine ev_pure' (fun _ => rfl) (fun ρ w => by simp only [VS.act, SV.c, List.map_cons, List.map_nil]; go_simp; exact rfl) (fun _ _ => rfl)
    simp only [nm, seval]
    apply VE.cons
    · refine ev_pure' (gn rfl) (fun ρ w => by simp only [VS.act, SV.c, List.map_cons, List.map_nil]; go_simp; exact rfl) (fun _ _ => rfl)
    simp only [nm, seval]
    exact VE.nil _
  · kernel_rfl
  change VOk _ _ _ _ _
  refine vcond_t rfl ?_
  refine vseq ?_
  apply vrp
  · apply VE.cons
    · exact ev_assign rfl (gn rfl)
    simp only [nm, seval]
    exact VE.nil _
  · kernel_rfl
  change VOk _ _ _ _ _
  refine vret ?_
  refine post_ret (res1 Tryd.results43 (rv_tmp rfl)) ?_
  intro w' hg
  exact ⟨rfl, hg⟩
theorem bit_hi (a0 a1 a2 a3 : Nat) (i : Int) (w : World) (h0 : decide (i < 0) = false) (h1 : decide ((256 : Int) ≤ i) = true) :
  Calls Tryd.prog 43 #[.agg #[.int .u64 (a0 : Nat), .int .u64 (a1 : Nat), .int .u64 (a2 : Nat), .int .u64 (a3 : Nat)], .int .i64 i] w fun e w' => e = .returned (.int .i64 0) ∧ Gw w w' := by
  go_enter Tryd.func43, Tryd.ntmps43
  refine ve_go ?_
  simp only [List.map_cons, List.map_nil]
  refine vseq ?_
  apply vrp
  · apply VE.cons
    · exact ev_box rfl rfl (gn rfl) rfl
    simp only [nm, seval]
    apply VE.cons
    · exact ev_assign rfl (gn rfl)
    simp only [nm, seval]
    exact VE.nil _
  · kernel_rfl
  change VOk _ _ _ _ _
  refine vseq ?_
  refine vseq ?_
  apply vrp
  · apply VE.cons
    · exact ev_move rfl (gn rfl)
    simp only [nm, seval]
    apply VE.cons
    · exact ev_lss (p := false) rfl (gn rfl) rfl rfl h0
    simp only [nm, seval]
    apply VE.cons
    · exact ev_move rfl (gn rfl)
    simp only [nm, seval]
    apply VE.cons
    · first | exact Ev.skip (fun _ => rfl) | exact ev_move rfl (fun _ => rfl)
    simp only [nm, seval]
    apply VE.cons
    · first | exact Ev.skip (fun _ => rfl) | exact ev_geq (p := true) rfl (fun _ => rfl) rfl rfl h1
    simp only [nm, seval]
    apply VE.cons
    · refine ev_pure' (gn rfl) (fun ρ w => by simp only [VS.act, SV.c, List.map_cons, List.map_nil]; go_simp; exact rfl) (fun _ _ => rfl)
    simp only [nm, seval]
    exact VE.nil _
  · kernel_rfl
  change VOk _ _ _ _ _
  refine vcond_t rfl ?_
  refine vseq ?_
  apply vrp
  · apply VE.cons
    · exact ev_assign rfl (gn rfl)
    simp only [nm, seval]
    exact VE.nil _
  · kernel_rfl
  change VOk _ _ _ _ _
  refine vret ?_
  refine post_ret (res1 Tryd.results43 (rv_tmp rfl)) ?_
  intro w' hg
  exact ⟨rfl, hg⟩
end Go.Proofs.YtbnfanmolphliaaDoor
