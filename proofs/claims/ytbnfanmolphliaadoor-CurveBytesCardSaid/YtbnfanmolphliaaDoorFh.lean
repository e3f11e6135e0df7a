import Derived.Test.YtbnfanmolphliaaDoorFg
import Derived.Test.YtbnfanmolphliaaDoorVp
namespace Go.Proofs.YtbnfanmolphliaaDoor
open Go.RowKit Go.Toll TollMont
open TollEc (F pp cb Jp Pt jdouble jadd smul add base nn)
set_option maxHeartbeats 4000000
set_option maxRecDepth 100000
theorem nPV (p : Pt) : Value.cells (PV p) = #[.int .u8 (byt (xv p) 0 : Nat), .int .u8 (byt (xv p) 1 : Nat), .int .u8 (byt (xv p) 2 : Nat), .int .u8 (byt (xv p) 3 : Nat), .int .u8 (byt (xv p) 4 : Nat), .int .u8 (byt (xv p) 5 : Nat), .int .u8 (byt (xv p) 6 : Nat), .int .u8 (byt (xv p) 7 : Nat), .int .u8 (byt (xv p) 8 : Nat), .int .u8 (byt (xv p) 9 : Nat), .int .u8 (byt (xv p) 10 : Nat), .int .u8 (byt (xv p) 11 : Nat), .int .u8 (byt (xv p) 12 : Nat), .int .u8 (byt (xv p) 13 : Nat), .int .u8 (byt (xv p) 14 : Nat), .int .u8 (byt (xv p) 15 : Nat), .int .u8 (byt (xv p) 16 : Nat), .int .u8 (byt (xv p) 17 : Nat), .int .u8 (byt (xv p) 18 : Nat), .int .u8 (byt (xv p) 19 : Nat), .int .u8 (byt (xv p) 20 : Nat), .int .u8 (byt (xv p) 21 : Nat), .int .u8 (byt (xv p) 22 : Nat), .int .u8 (byt (xv p) 23 : Nat), .int .u8 (byt (xv p) 24 : Nat), .int .u8 (byt (xv p) 25 : Nat), .int .u8 (byt (xv p) 26 : Nat), .int .u8 (byt (xv p) 27 : Nat), .int .u8 (byt (xv p) 28 : Nat), .int .u8 (byt (xv p) 29 : Nat), .int .u8 (byt (xv p) 30 : Nat), .int .u8 (byt (xv p) 31 : Nat), .int .u8 (byt (yv p) 0 : Nat), .int .u8 (byt (yv p) 1 : Nat), .int .u8 (byt (yv p) 2 : Nat), .int .u8 (byt (yv p) 3 : Nat), .int .u8 (byt (yv p) 4 : Nat), .int .u8 (byt (yv p) 5 : Nat), .int .u8 (byt (yv p) 6 : Nat), .int .u8 (byt (yv p) 7 : Nat), .int .u8 (byt (yv p) 8 : Nat), .int .u8 (byt (yv p) 9 : Nat), .int .u8 (byt (yv p) 10 : Nat), .int .u8 (byt (yv p) 11 : Nat), .int .u8 (byt (yv p) 12 : Nat), .int .u8 (byt (yv p) 13 : Nat), .int .u8 (byt (yv p) 14 : Nat), .int .u8 (byt (yv p) 15 : Nat), .int .u8 (byt (yv p) 16 : Nat), .int .u8 (byt (yv p) 17 : Nat), .int .u8 (byt (yv p) 18 : Nat), .int .u8 (byt (yv p) 19 : Nat), .int .u8 (byt (yv p) 20 : Nat), .int .u8 (byt (yv p) 21 : Nat), .int .u8 (byt (yv p) 22 : Nat), .int .u8 (byt (yv p) 23 : Nat), .int .u8 (byt (yv p) 24 : Nat), .int .u8 (byt (yv p) 25 : Nat), .int .u8 (byt (yv p) 26 : Nat), .int .u8 (byt (yv p) 27 : Nat), .int .u8 (byt (yv p) 28 : Nat), .int .u8 (byt (yv p) 29 : Nat), .int .u8 (byt (yv p) 30 : Nat), .int .u8 (byt (yv p) 31 : Nat)] := rfl
theorem nm3 : type_of% nm2 ∧ type_of% nPV := ⟨nm2, nPV⟩
theorem b_shrF (x : Nat) (s : Int) (h0 : 0 ≤ s) (h1 : s < 64) (p q : Operand) (w : World) : (do eqGuard .shr 28 p q (.int .u64 (x : Nat)) (.int .i64 s); binOp .shr 28 (.int .u64 (x : Nat)) (.int .i64 s) : Sem Value).run Tryd.prog w = .ok (.int .u64 (shrF x s : Nat)) w := b_shrk x s h0 h1 p q w
theorem b_lwF (x : Nat) (w : World) : (convert 28 5 (.int .u64 (x : Nat))).run Tryd.prog w = .ok (.int .u8 (lwF x : Nat)) w := b_cvb x w
theorem OnP {x y : Nat} (hx : x < R) (hy : y < R) (w : World) (hL : Laid w) : Calls Tryd.prog 17 #[PT x y] w fun e w' => e = .returned (.bool (decide (x = 0 ∧ y = 0) || onB x y)) ∧ Gw w w' := by
  by_cases h : x = 0 ∧ y = 0
  · obtain ⟨rfl, rfl⟩ := h
    exact On_inf w hL
  · rw [decide_eq_false h, Bool.false_or]; exact On_fin hx hy w hL h
theorem onB_toP {x y : Nat} (h : onB x y = true) : ∃ X Y : F, x = X.val ∧ y = Y.val ∧ TollEc.onE X Y := by
  unfold onB at h
  split at h
  · rename_i hl; exact ⟨⟨x, hl.1⟩, ⟨y, hl.2⟩, rfl, rfl, onF_iff.1 h⟩
  · cases h
theorem onB_PV {p : Pt} (h : p.on) : (decide (xv p = 0 ∧ yv p = 0) || onB (xv p) (yv p)) = true := by
  cases p with
  | inf => rfl
  | aff x y => rw [show onB (xv (.aff x y)) (yv (.aff x y)) = true from (dif_pos ⟨x.isLt, y.isLt⟩).trans (onF_iff.2 h), Bool.or_true]
theorem On_PV {p : Pt} (h : p.on) (w : World) (hL : Laid w) : Calls Tryd.prog 17 #[PV p] w fun e w' => e = .returned (.bool true) ∧ Gw w w' := by
  have := OnP (xv_lt p) (yv_lt p) w hL
  rw [onB_PV h] at this; exact this
theorem AddX {x y x' y' : Nat} (hx : x < R) (hy : y < R) (hx' : x' < R) (hy' : y' < R) {s : Pt} (h : add (toP x y) (toP x' y') = s) (w : World) (hL : Laid w) : Calls Tryd.prog 24 #[PT x y, PT x' y'] w fun e w' => e = .returned (PV s) ∧ Gw w w' := by
  have := Add_ok hx hy hx' hy' w hL
  rw [TollEc.jadd_rep _ _ (by rw [lift_rep]; exact toP_on _ _) (by rw [lift_rep]; exact toP_on _ _), lift_rep, lift_rep, h] at this
  exact this
theorem AddE {p q s : Pt} (h : add p q = s) (hp : p.on) (hq : q.on) (w : World) (hL : Laid w) : Calls Tryd.prog 24 #[PV p, PV q] w fun e w' => e = .returned (PV s) ∧ Gw w w' :=
  AddX (xv_lt p) (yv_lt p) (xv_lt q) (yv_lt q) (by rw [toP_PV hp, toP_PV hq]; exact h) w hL
theorem TimesX {n x y : Nat} (hn : n < R) (hx : x < R) (hy : y < R) {s : Pt} (h : smul n (toP x y) = s) (w : World) (hL : Laid w) : Calls Tryd.prog 22 #[B32 n, PT x y] w fun e w' => e = .returned (PV s) ∧ Gw w w' := by
  have := Times_core hn hx hy w hL
  rw [TollEc.ladder_all n (show n < 2 ^ 256 from hn) _ (by rw [lift_rep]; exact toP_on _ _), lift_rep, h] at this
  exact this
theorem TimesE {n : Nat} {p s : Pt} (hn : n < R) (h : smul n p = s) (hp : p.on) (w : World) (hL : Laid w) : Calls Tryd.prog 22 #[B32 n, PV p] w fun e w' => e = .returned (PV s) ∧ Gw w w' :=
  TimesX hn (xv_lt p) (yv_lt p) (by rw [toP_PV hp]; exact h) w hL
theorem baseP (w : World) (hL : Laid w) : Calls Tryd.prog 10 #[] w fun e w' => e = .returned (PV base) ∧ Gw w w' := base_ok w hL
theorem mdn : Md nn := ⟨by decide, by decide, by decide⟩
theorem eqP_self (p : Pt) (a b : Operand) (w : World) : (do eqGuard .eql 24 a b (PV p) (PV p); binOp .eql 24 (PV p) (PV p) : Sem Value).run Tryd.prog w = .ok (.bool true) w := by
  have := eq_pt (xv_lt p) (yv_lt p) (xv_lt p) (yv_lt p) a b w
  rw [decide_eq_true ⟨rfl, rfl⟩] at this; exact this
theorem eqP_inf (a b : Operand) (w : World) : (do eqGuard .eql 24 a b (PV .inf) (.agg #[.int .u8 0, .int .u8 0, .int .u8 0, .int .u8 0, .int .u8 0, .int .u8 0, .int .u8 0, .int .u8 0, .int .u8 0, .int .u8 0, .int .u8 0, .int .u8 0, .int .u8 0, .int .u8 0, .int .u8 0, .int .u8 0, .int .u8 0, .int .u8 0, .int .u8 0, .int .u8 0, .int .u8 0, .int .u8 0, .int .u8 0, .int .u8 0, .int .u8 0, .int .u8 0, .int .u8 0, .int .u8 0, .int .u8 0, .int .u8 0, .int .u8 0, .int .u8 0, .int .u8 0, .int .u8 0, .int .u8 0, .int .u8 0, .int .u8 0, .int .u8 0, .int .u8 0, .int .u8 0, .int .u8 0, .int .u8 0, .int .u8 0, .int .u8 0, .int .u8 0, .int .u8 0, .int .u8 0, .int .u8 0, .int .u8 0, .int .u8 0, .int .u8 0, .int .u8 0, .int .u8 0, .int .u8 0, .int .u8 0, .int .u8 0, .int .u8 0, .int .u8 0, .int .u8 0, .int .u8 0, .int .u8 0, .int .u8 0, .int .u8 0, .int .u8 0]); binOp .eql 24 (PV .inf) (.agg #[.int .u8 0, .int .u8 0, .int .u8 0, .int .u8 0, .int .u8 0, .int .u8 0, .int .u8 0, .int .u8 0, .int .u8 0, .int .u8 0, .int .u8 0, .int .u8 0, .int .u8 0, .int .u8 0, .int .u8 0, .int .u8 0, .int .u8 0, .int .u8 0, .int .u8 0, .int .u8 0, .int .u8 0, .int .u8 0, .int .u8 0, .int .u8 0, .int .u8 0, .int .u8 0, .int .u8 0, .int .u8 0, .int .u8 0, .int .u8 0, .int .u8 0, .int .u8 0, .int .u8 0, .int .u8 0, .int .u8 0, .int .u8 0, .int .u8 0, .int .u8 0, .int .u8 0, .int .u8 0, .int .u8 0, .int .u8 0, .int .u8 0, .int .u8 0, .int .u8 0, .int .u8 0, .int .u8 0, .int .u8 0, .int .u8 0, .int .u8 0, .int .u8 0, .int .u8 0, .int .u8 0, .int .u8 0, .int .u8 0, .int .u8 0, .int .u8 0, .int .u8 0, .int .u8 0, .int .u8 0, .int .u8 0, .int .u8 0, .int .u8 0, .int .u8 0]) : Sem Value).run Tryd.prog w = .ok (.bool true) w := eq_pt0 rfl rfl a b w
theorem pv_zero {p : Pt} (h : p.on) : (xv p = 0 ∧ yv p = 0) ↔ p = .inf := by
  cases p with
  | inf => exact ⟨fun _ => rfl, fun _ => ⟨rfl, rfl⟩⟩
  | aff x y =>
    refine ⟨fun ⟨a, b⟩ => ?_, fun c => by cases c⟩
    have hx : x = ⟨0, by decide⟩ := Fin.ext a
    have hy : y = ⟨0, by decide⟩ := Fin.ext b
    subst hx hy
    exact absurd (onF_iff.2 h) (by decide +kernel)
theorem eqP_ninf {p : Pt} (hp : p.on) (h : p ≠ .inf) (a b : Operand) (w : World) : (do eqGuard .eql 24 a b (PV p) (.agg #[.int .u8 0, .int .u8 0, .int .u8 0, .int .u8 0, .int .u8 0, .int .u8 0, .int .u8 0, .int .u8 0, .int .u8 0, .int .u8 0, .int .u8 0, .int .u8 0, .int .u8 0, .int .u8 0, .int .u8 0, .int .u8 0, .int .u8 0, .int .u8 0, .int .u8 0, .int .u8 0, .int .u8 0, .int .u8 0, .int .u8 0, .int .u8 0, .int .u8 0, .int .u8 0, .int .u8 0, .int .u8 0, .int .u8 0, .int .u8 0, .int .u8 0, .int .u8 0, .int .u8 0, .int .u8 0, .int .u8 0, .int .u8 0, .int .u8 0, .int .u8 0, .int .u8 0, .int .u8 0, .int .u8 0, .int .u8 0, .int .u8 0, .int .u8 0, .int .u8 0, .int .u8 0, .int .u8 0, .int .u8 0, .int .u8 0, .int .u8 0, .int .u8 0, .int .u8 0, .int .u8 0, .int .u8 0, .int .u8 0, .int .u8 0, .int .u8 0, .int .u8 0, .int .u8 0, .int .u8 0, .int .u8 0, .int .u8 0, .int .u8 0, .int .u8 0]); binOp .eql 24 (PV p) (.agg #[.int .u8 0, .int .u8 0, .int .u8 0, .int .u8 0, .int .u8 0, .int .u8 0, .int .u8 0, .int .u8 0, .int .u8 0, .int .u8 0, .int .u8 0, .int .u8 0, .int .u8 0, .int .u8 0, .int .u8 0, .int .u8 0, .int .u8 0, .int .u8 0, .int .u8 0, .int .u8 0, .int .u8 0, .int .u8 0, .int .u8 0, .int .u8 0, .int .u8 0, .int .u8 0, .int .u8 0, .int .u8 0, .int .u8 0, .int .u8 0, .int .u8 0, .int .u8 0, .int .u8 0, .int .u8 0, .int .u8 0, .int .u8 0, .int .u8 0, .int .u8 0, .int .u8 0, .int .u8 0, .int .u8 0, .int .u8 0, .int .u8 0, .int .u8 0, .int .u8 0, .int .u8 0, .int .u8 0, .int .u8 0, .int .u8 0, .int .u8 0, .int .u8 0, .int .u8 0, .int .u8 0, .int .u8 0, .int .u8 0, .int .u8 0, .int .u8 0, .int .u8 0, .int .u8 0, .int .u8 0, .int .u8 0, .int .u8 0, .int .u8 0, .int .u8 0]) : Sem Value).run Tryd.prog w = .ok (.bool false) w :=
  eq_ptn (xv_lt p) (yv_lt p) (fun c => h ((pv_zero hp).1 c)) a b w
theorem rbytes_ok (n : Nat) (w : World) : Calls Tryd.prog 12 #[N n] w fun e w' => e = .returned (B32 n) ∧ Gw w w' := by
  go_enter Tryd.func12, Tryd.ntmps12
  refine ve_go ?_
  simp only [List.map_cons, List.map_nil]
  refine vseq ?_
  apply vrp
  · apply VE.cons
    · exact ev_box rfl rfl (gn rfl) rfl
    simp only [nm3, seval]
    apply VE.cons
    · exact ev_alloc rfl rfl (gn rfl) Tryd.zeroValue22
    simp only [nm3, seval]
    exact VE.nil _
  · kernel_rfl
  change VOk _ _ _ _ _
  refine vseq ?_
  apply vrp
  · apply VE.cons
    · exact ev_alloc rfl rfl (gn rfl) Tryd.zeroValue22
    simp only [nm3, seval]
    exact VE.nil _
  · kernel_rfl
  change VOk _ _ _ _ _
  refine vseq ?_
  refine vseq ?_
  apply vrp
  · apply VE.cons
    · exact ev_assign rfl (gn rfl)
    simp only [nm3, seval]
    exact VE.nil _
  · kernel_rfl
  change VOk _ _ _ _ _
  refine vblock ?_
  refine vloop 33 ?_
  iterate 32
    change VOk _ _ _ _ _
    refine vseq ?_
    refine vseq ?_
    apply vrp
    · apply VE.cons
      · exact ev_move rfl (gn rfl)
      simp only [nm3, seval]
      apply VE.cons
      · refine ev_pure' (gn rfl) (fun ρ w => by simp only [VS.act, SV.c, List.map_cons, List.map_nil]; go_simp; exact rfl) (fun _ _ => rfl)
      simp only [nm3, seval]
      exact VE.nil _
    · kernel_rfl
    change VOk _ _ _ _ _
    refine vcond_t rfl ?_
    refine vskip ?_
    change VOk _ _ _ _ _
    refine vseq ?_
    refine vblock ?_
    apply vrp
    · apply VE.cons
      · exact ev_move rfl (gn rfl)
      simp only [nm3, seval]
      apply VE.cons
      · exact ev_move rfl (gn rfl)
      simp only [nm3, seval]
      apply VE.cons
      · refine ev_pure' (gn rfl) (fun ρ w => by simp only [VS.act, SV.c, List.map_cons, List.map_nil]; go_simp; exact rfl) (fun _ _ => rfl)
      simp only [nm3, seval]
      apply VE.cons
      · refine ev_pure' (gn rfl) (fun ρ w => by simp only [VS.act, SV.c, List.map_cons, List.map_nil]; go_simp; exact rfl) (fun _ _ => rfl)
      simp only [nm3, seval]
      apply VE.cons
      · first | exact ev_index rfl (gn rfl) rfl rfl Tryd.underlying29 Tryd.sizeOf28 (by decide) (by decide) | exact ev_indexx rfl (gn rfl) rfl rfl Tryd.underlying29 Tryd.sizeOf28 (by decide) (by decide)
      simp only [nm3, seval]
      apply VE.cons
      · first | exact ev_load1 rfl (gn rfl) rfl rfl Tryd.underlying28 rfl rfl | exact ev_loadx1 rfl (gn rfl) rfl Tryd.underlying28 rfl (by first | assumption | exact hm 0 _ rfl | exact hm 1 _ rfl | exact hm 2 _ rfl | exact hm 3 _ rfl)
      simp only [nm3, seval]
      apply VE.cons
      · exact ev_move rfl (gn rfl)
      simp only [nm3, seval]
      apply VE.cons
      · refine ev_pure' (gn rfl) (fun ρ w => by simp only [VS.act, SV.c, List.map_cons, List.map_nil]; go_simp; exact rfl) (fun _ _ => rfl)
      simp only [nm3, seval]
      apply VE.cons
      · refine ev_pure' (gn rfl) (fun ρ w => by simp only [VS.act, SV.c, List.map_cons, List.map_nil]; go_simp; exact rfl) (fun _ _ => rfl)
      simp only [nm3, seval]
      apply VE.cons
      · refine ev_pure' (gn rfl) (fun ρ w => by simp only [VS.act, SV.c, List.map_cons, List.map_nil]; go_simp; exact rfl) (fun _ _ => rfl)
      simp only [nm3, seval]
      apply VE.cons
      · exact ev_bin rfl (gn rfl) rfl rfl (fun w => b_shrF _ _ (by decide) (by decide) _ _ w)
      simp only [nm3, seval]
      apply VE.cons
      · exact ev_conv rfl (gn rfl) rfl (fun w => b_lwF _ w)
      simp only [nm3, seval]
      apply VE.cons
      · first | exact ev_index rfl (gn rfl) rfl rfl Tryd.underlying22 Tryd.sizeOf5 (by decide) (by decide) | exact ev_indexx rfl (gn rfl) rfl rfl Tryd.underlying22 Tryd.sizeOf5 (by decide) (by decide)
      simp only [nm3, seval]
      apply VE.cons
      · exact ev_store rfl (gn rfl) rfl rfl rfl Tryd.sizeOf5 rfl (by simp) rfl
      simp only [nm3, seval]
      exact VE.nil _
    · kernel_rfl
    change VOk _ _ _ _ _
    apply vrp
    · apply VE.cons
      · exact ev_move rfl (gn rfl)
      simp only [nm3, seval]
      apply VE.cons
      · refine ev_pure' (gn rfl) (fun ρ w => by simp only [VS.act, SV.c, List.map_cons, List.map_nil]; go_simp; exact rfl) (fun _ _ => rfl)
      simp only [nm3, seval]
      apply VE.cons
      · exact ev_assign rfl (gn rfl)
      simp only [nm3, seval]
      exact VE.nil _
    · kernel_rfl
  change VOk _ _ _ _ _
  refine vseq ?_
  refine vseq ?_
  apply vrp
  · apply VE.cons
    · exact ev_move rfl (gn rfl)
    simp only [nm3, seval]
    apply VE.cons
    · refine ev_pure' (gn rfl) (fun ρ w => by simp only [VS.act, SV.c, List.map_cons, List.map_nil]; go_simp; exact rfl) (fun _ _ => rfl)
    simp only [nm3, seval]
    exact VE.nil _
  · kernel_rfl
  change VOk _ _ _ _ _
  refine vcond_f rfl ?_
  refine vexit ?_
  change VOk _ _ _ _ _
  refine vseq ?_
  apply vrp
  · apply VE.cons
    · first | exact ev_load rfl (gn rfl) rfl rfl Tryd.underlying22 rfl Tryd.sizeOf22 rfl rfl | exact ev_loadx rfl (gn rfl) rfl Tryd.underlying22 rfl Tryd.sizeOf22 (by assumption) rfl
    simp only [nm3, seval]
    apply VE.cons
    · exact ev_store rfl (gn rfl) rfl rfl rfl Tryd.sizeOf22 rfl (by simp) rfl
    simp only [nm3, seval]
    exact VE.nil _
  · kernel_rfl
  change VOk _ _ _ _ _
  refine vret ?_
  refine post_ret (res1 Tryd.results12 (rv_cell rfl rfl Tryd.underlying22 rfl Tryd.sizeOf22 rfl rfl)) ?_
  intro w' hg
  exact ⟨rfl, hg⟩
theorem built_c13 : Tryd.prog.built 29 [(0, .int .u64 17627433388654248598), (1, .int .u64 8575836109218198432), (2, .int .u64 17923454489921339634), (3, .int .u64 7716867327612699207)] = some #[.int .u64 17627433388654248598, .int .u64 8575836109218198432, .int .u64 17923454489921339634, .int .u64 7716867327612699207] := by kernel_rfl
theorem lims_c13 : lim (TollEc.bx.val) 0 = 17627433388654248598 ∧ lim (TollEc.bx.val) 1 = 8575836109218198432 ∧ lim (TollEc.bx.val) 2 = 17923454489921339634 ∧ lim (TollEc.bx.val) 3 = 7716867327612699207 := by decide +kernel
theorem const_c13 (w : World) : Calls Tryd.prog 13 #[] w fun e w' => e = .returned (.agg #[.int .u64 17627433388654248598, .int .u64 8575836109218198432, .int .u64 17923454489921339634, .int .u64 7716867327612699207]) ∧ Gw w w' := by
  go_enter Tryd.func13, Tryd.ntmps13
  refine ve_go ?_
  simp only [List.map_cons, List.map_nil]
  refine vseq ?_
  apply vrp
  · apply VE.cons
    · exact ev_alloc rfl rfl (gn rfl) Tryd.zeroValue29
    simp only [nm3, seval]
    exact VE.nil _
  · kernel_rfl
  change VOk _ _ _ _ _
  refine vseq ?_
  apply vrp
  · apply VE.cons
    · exact ev_build rfl (gn rfl) rfl built_c13
    simp only [nm3, seval]
    apply VE.cons
    · exact ev_store rfl (gn rfl) rfl rfl rfl Tryd.sizeOf29 rfl (by simp) rfl
    simp only [nm3, seval]
    exact VE.nil _
  · kernel_rfl
  change VOk _ _ _ _ _
  refine vret ?_
  refine post_ret (res1 Tryd.results13 (rv_cell rfl rfl Tryd.underlying29 rfl Tryd.sizeOf29 rfl rfl)) ?_
  intro w' hg
  exact ⟨rfl, hg⟩
theorem c_X (w : World) : Calls Tryd.prog 13 #[] w fun e w' => e = .returned (N (TollEc.bx.val)) ∧ Gw w w' := by
  have h := const_c13 w
  obtain ⟨e0, e1, e2, e3⟩ := lims_c13
  have e : (.agg #[.int .u64 17627433388654248598, .int .u64 8575836109218198432, .int .u64 17923454489921339634, .int .u64 7716867327612699207] : Value) = N (TollEc.bx.val) := by unfold N; rw [e0, e1, e2, e3]; rfl
  rw [e] at h; exact h
theorem built_c14 : Tryd.prog.built 29 [(0, .int .u64 14678990851816772085), (1, .int .u64 3156516839386865358), (2, .int .u64 10297457778147434006), (3, .int .u64 5756518291402817435)] = some #[.int .u64 14678990851816772085, .int .u64 3156516839386865358, .int .u64 10297457778147434006, .int .u64 5756518291402817435] := by kernel_rfl
theorem lims_c14 : lim (TollEc.bY.val) 0 = 14678990851816772085 ∧ lim (TollEc.bY.val) 1 = 3156516839386865358 ∧ lim (TollEc.bY.val) 2 = 10297457778147434006 ∧ lim (TollEc.bY.val) 3 = 5756518291402817435 := by decide +kernel
theorem const_c14 (w : World) : Calls Tryd.prog 14 #[] w fun e w' => e = .returned (.agg #[.int .u64 14678990851816772085, .int .u64 3156516839386865358, .int .u64 10297457778147434006, .int .u64 5756518291402817435]) ∧ Gw w w' := by
  go_enter Tryd.func14, Tryd.ntmps14
  refine ve_go ?_
  simp only [List.map_cons, List.map_nil]
  refine vseq ?_
  apply vrp
  · apply VE.cons
    · exact ev_alloc rfl rfl (gn rfl) Tryd.zeroValue29
    simp only [nm3, seval]
    exact VE.nil _
  · kernel_rfl
  change VOk _ _ _ _ _
  refine vseq ?_
  apply vrp
  · apply VE.cons
    · exact ev_build rfl (gn rfl) rfl built_c14
    simp only [nm3, seval]
    apply VE.cons
    · exact ev_store rfl (gn rfl) rfl rfl rfl Tryd.sizeOf29 rfl (by simp) rfl
    simp only [nm3, seval]
    exact VE.nil _
  · kernel_rfl
  change VOk _ _ _ _ _
  refine vret ?_
  refine post_ret (res1 Tryd.results14 (rv_cell rfl rfl Tryd.underlying29 rfl Tryd.sizeOf29 rfl rfl)) ?_
  intro w' hg
  exact ⟨rfl, hg⟩
theorem c_Y (w : World) : Calls Tryd.prog 14 #[] w fun e w' => e = .returned (N (TollEc.bY.val)) ∧ Gw w w' := by
  have h := const_c14 w
  obtain ⟨e0, e1, e2, e3⟩ := lims_c14
  have e : (.agg #[.int .u64 14678990851816772085, .int .u64 3156516839386865358, .int .u64 10297457778147434006, .int .u64 5756518291402817435] : Value) = N (TollEc.bY.val) := by unfold N; rw [e0, e1, e2, e3]; rfl
  rw [e] at h; exact h
theorem built_c16 : Tryd.prog.built 29 [(0, .int .u64 17562291160714782033), (1, .int .u64 13611842547513532036), (2, .int .u64 18446744073709551615), (3, .int .u64 18446744069414584320)] = some #[.int .u64 17562291160714782033, .int .u64 13611842547513532036, .int .u64 18446744073709551615, .int .u64 18446744069414584320] := by kernel_rfl
theorem lims_c16 : lim (nn) 0 = 17562291160714782033 ∧ lim (nn) 1 = 13611842547513532036 ∧ lim (nn) 2 = 18446744073709551615 ∧ lim (nn) 3 = 18446744069414584320 := by decide +kernel
theorem const_c16 (w : World) : Calls Tryd.prog 16 #[] w fun e w' => e = .returned (.agg #[.int .u64 17562291160714782033, .int .u64 13611842547513532036, .int .u64 18446744073709551615, .int .u64 18446744069414584320]) ∧ Gw w w' := by
  go_enter Tryd.func16, Tryd.ntmps16
  refine ve_go ?_
  simp only [List.map_cons, List.map_nil]
  refine vseq ?_
  apply vrp
  · apply VE.cons
    · exact ev_alloc rfl rfl (gn rfl) Tryd.zeroValue29
    simp only [nm3, seval]
    exact VE.nil _
  · kernel_rfl
  change VOk _ _ _ _ _
  refine vseq ?_
  apply vrp
  · apply VE.cons
    · exact ev_build rfl (gn rfl) rfl built_c16
    simp only [nm3, seval]
    apply VE.cons
    · exact ev_store rfl (gn rfl) rfl rfl rfl Tryd.sizeOf29 rfl (by simp) rfl
    simp only [nm3, seval]
    exact VE.nil _
  · kernel_rfl
  change VOk _ _ _ _ _
  refine vret ?_
  refine post_ret (res1 Tryd.results16 (rv_cell rfl rfl Tryd.underlying29 rfl Tryd.sizeOf29 rfl rfl)) ?_
  intro w' hg
  exact ⟨rfl, hg⟩
theorem c_N (w : World) : Calls Tryd.prog 16 #[] w fun e w' => e = .returned (N (nn)) ∧ Gw w w' := by
  have h := const_c16 w
  obtain ⟨e0, e1, e2, e3⟩ := lims_c16
  have e : (.agg #[.int .u64 17562291160714782033, .int .u64 13611842547513532036, .int .u64 18446744073709551615, .int .u64 18446744069414584320] : Value) = N (nn) := by unfold N; rw [e0, e1, e2, e3]; rfl
  rw [e] at h; exact h
theorem built_c28 : Tryd.prog.built 29 [(0, .int .u64 18446744073709551615), (1, .int .u64 4294967295), (2, .int .u64 0), (3, .int .u64 18446744069414584321)] = some #[.int .u64 18446744073709551615, .int .u64 4294967295, .int .u64 0, .int .u64 18446744069414584321] := by kernel_rfl
theorem lims_c28 : lim (pp) 0 = 18446744073709551615 ∧ lim (pp) 1 = 4294967295 ∧ lim (pp) 2 = 0 ∧ lim (pp) 3 = 18446744069414584321 := by decide +kernel
theorem const_c28 (w : World) : Calls Tryd.prog 28 #[] w fun e w' => e = .returned (.agg #[.int .u64 18446744073709551615, .int .u64 4294967295, .int .u64 0, .int .u64 18446744069414584321]) ∧ Gw w w' := by
  go_enter Tryd.func28, Tryd.ntmps28
  refine ve_go ?_
  simp only [List.map_cons, List.map_nil]
  refine vseq ?_
  apply vrp
  · apply VE.cons
    · exact ev_alloc rfl rfl (gn rfl) Tryd.zeroValue29
    simp only [nm3, seval]
    exact VE.nil _
  · kernel_rfl
  change VOk _ _ _ _ _
  refine vseq ?_
  apply vrp
  · apply VE.cons
    · exact ev_build rfl (gn rfl) rfl built_c28
    simp only [nm3, seval]
    apply VE.cons
    · exact ev_store rfl (gn rfl) rfl rfl rfl Tryd.sizeOf29 rfl (by simp) rfl
    simp only [nm3, seval]
    exact VE.nil _
  · kernel_rfl
  change VOk _ _ _ _ _
  refine vret ?_
  refine post_ret (res1 Tryd.results28 (rv_cell rfl rfl Tryd.underlying29 rfl Tryd.sizeOf29 rfl rfl)) ?_
  intro w' hg
  exact ⟨rfl, hg⟩
theorem c_P (w : World) : Calls Tryd.prog 28 #[] w fun e w' => e = .returned (N (pp)) ∧ Gw w w' := by
  have h := const_c28 w
  obtain ⟨e0, e1, e2, e3⟩ := lims_c28
  have e : (.agg #[.int .u64 18446744073709551615, .int .u64 4294967295, .int .u64 0, .int .u64 18446744069414584321] : Value) = N (pp) := by unfold N; rw [e0, e1, e2, e3]; rfl
  rw [e] at h; exact h
theorem built_c39 : Tryd.prog.built 29 [(0, .int .u64 4309448131093880907), (1, .int .u64 7285987128567378166), (2, .int .u64 12964664127075681980), (3, .int .u64 6540974713487397863)] = some #[.int .u64 4309448131093880907, .int .u64 7285987128567378166, .int .u64 12964664127075681980, .int .u64 6540974713487397863] := by kernel_rfl
theorem lims_c39 : lim (cb.val) 0 = 4309448131093880907 ∧ lim (cb.val) 1 = 7285987128567378166 ∧ lim (cb.val) 2 = 12964664127075681980 ∧ lim (cb.val) 3 = 6540974713487397863 := by decide +kernel
theorem const_c39 (w : World) : Calls Tryd.prog 39 #[] w fun e w' => e = .returned (.agg #[.int .u64 4309448131093880907, .int .u64 7285987128567378166, .int .u64 12964664127075681980, .int .u64 6540974713487397863]) ∧ Gw w w' := by
  go_enter Tryd.func39, Tryd.ntmps39
  refine ve_go ?_
  simp only [List.map_cons, List.map_nil]
  refine vseq ?_
  apply vrp
  · apply VE.cons
    · exact ev_alloc rfl rfl (gn rfl) Tryd.zeroValue29
    simp only [nm3, seval]
    exact VE.nil _
  · kernel_rfl
  change VOk _ _ _ _ _
  refine vseq ?_
  apply vrp
  · apply VE.cons
    · exact ev_build rfl (gn rfl) rfl built_c39
    simp only [nm3, seval]
    apply VE.cons
    · exact ev_store rfl (gn rfl) rfl rfl rfl Tryd.sizeOf29 rfl (by simp) rfl
    simp only [nm3, seval]
    exact VE.nil _
  · kernel_rfl
  change VOk _ _ _ _ _
  refine vret ?_
  refine post_ret (res1 Tryd.results39 (rv_cell rfl rfl Tryd.underlying29 rfl Tryd.sizeOf29 rfl rfl)) ?_
  intro w' hg
  exact ⟨rfl, hg⟩
theorem c_B (w : World) : Calls Tryd.prog 39 #[] w fun e w' => e = .returned (N (cb.val)) ∧ Gw w w' := by
  have h := const_c39 w
  obtain ⟨e0, e1, e2, e3⟩ := lims_c39
  have e : (.agg #[.int .u64 4309448131093880907, .int .u64 7285987128567378166, .int .u64 12964664127075681980, .int .u64 6540974713487397863] : Value) = N (cb.val) := by unfold N; rw [e0, e1, e2, e3]; rfl
  rw [e] at h; exact h
theorem built29_1 (n : Nat) : Tryd.prog.built 29 [(0, .int .u64 (n : Nat))] = some #[.int .u64 (n : Nat), .int .u64 0, .int .u64 0, .int .u64 0] := by kernel_rfl
theorem rbytes_small {n : Nat} (hn : n < W) (w : World) : Calls Tryd.prog 12 #[.agg #[.int .u64 (n : Nat), .int .u64 0, .int .u64 0, .int .u64 0]] w fun e w' => e = .returned (B32 n) ∧ Gw w w' := by
  have := rbytes_ok n w; rw [N_small hn] at this; exact this
theorem cv_i64 {n : Nat} (hn : n < W) (w : World) : (convert 3 28 (.int .i64 (n : Nat))).run Tryd.prog w = .ok (.int .u64 (n : Nat)) w := by
  go_simp
  rw [wrap_nat, Nat.mod_eq_of_lt hn]
theorem small_ok {n : Nat} (hn : n < W) (w : World) : Calls Tryd.prog 21 #[.int .i64 (n : Nat)] w fun e w' => e = .returned (B32 n) ∧ Gw w w' := by
  go_enter Tryd.func21, Tryd.ntmps21
  refine ve_go ?_
  simp only [List.map_cons, List.map_nil]
  refine vseq ?_
  apply vrp
  · apply VE.cons
    · exact ev_alloc rfl rfl (gn rfl) Tryd.zeroValue22
    simp only [nm3, seval]
    exact VE.nil _
  · kernel_rfl
  change VOk _ _ _ _ _
  refine vseq ?_
  apply vrp
  · apply VE.cons
    · exact ev_move rfl (gn rfl)
    simp only [nm3, seval]
    apply VE.cons
    · exact ev_conv rfl (gn rfl) rfl (fun w => cv_i64 hn w)
    simp only [nm3, seval]
    apply VE.cons
    · exact ev_build rfl (gn rfl) rfl (built29_1 _)
    simp only [nm3, seval]
    apply VE.cons
    · exact ev_call rfl (gn rfl) rfl (en_of Tryd.func12 (by kernel_rfl) rfl) (fun w' hw' => rbytes_small hn w')
    simp only [nm3, seval]
    apply VE.cons
    · exact ev_store rfl (gn rfl) rfl rfl rfl Tryd.sizeOf22 rfl (by simp) rfl
    simp only [nm3, seval]
    exact VE.nil _
  · kernel_rfl
  change VOk _ _ _ _ _
  refine vret ?_
  refine post_ret (res1 Tryd.results21 (rv_cell rfl rfl Tryd.underlying22 rfl Tryd.sizeOf22 rfl rfl)) ?_
  intro w' hg
  exact ⟨rfl, hg⟩
theorem ofP {n : Nat} {s : Pt} (hn : n < R) (h : smul n base = s) (w : World) (hL : Laid w) : Calls Tryd.prog 20 #[B32 n] w fun e w' => e = .returned (PV s) ∧ Gw w w' := by
  go_enter Tryd.func20, Tryd.ntmps20
  refine ve_go ?_
  simp only [List.map_cons, List.map_nil]
  refine vseq ?_
  apply vrp
  · apply VE.cons
    · exact ev_box rfl rfl (gn rfl) rfl
    simp only [nm3, seval]
    apply VE.cons
    · exact ev_alloc rfl rfl (gn rfl) Tryd.zeroValue24
    simp only [nm3, seval]
    exact VE.nil _
  · kernel_rfl
  change VOk _ _ _ _ _
  refine vseq ?_
  apply vrd (by kernel_rfl)
  · apply VE.cons
    · first | exact ev_load rfl (gn rfl) rfl rfl Tryd.underlying22 rfl Tryd.sizeOf22 rfl rfl | exact ev_loadx rfl (gn rfl) rfl Tryd.underlying22 rfl Tryd.sizeOf22 (by assumption) rfl
    simp only [nm3, seval]
    apply VE.cons
    · exact ev_call rfl (gn rfl) rfl (en_of Tryd.func10 (by kernel_rfl) rfl) (fun w' hw' => baseP w' (hL.gw hw'))
    simp only [nm3, seval]
    apply VE.cons
    · exact ev_call rfl (gn rfl) rfl (en_of Tryd.func22 (by kernel_rfl) rfl) (fun w' hw' => TimesE hn h TollEc.base_on w' (hL.gw hw'))
    simp only [nm3, seval]
    apply VE.cons
    · exact ev_store rfl (gn rfl) rfl rfl rfl Tryd.sizeOf24 rfl (by simp) rfl
    simp only [nm3, seval]
    exact VE.nil _
  · kernel_rfl
  change VOk _ _ _ _ _
  refine vret ?_
  refine post_ret (res1 Tryd.results20 (rv_cell rfl rfl Tryd.underlying24 rfl Tryd.sizeOf24 rfl rfl)) ?_
  intro w' hg
  exact ⟨rfl, hg⟩
end Go.Proofs.YtbnfanmolphliaaDoor
