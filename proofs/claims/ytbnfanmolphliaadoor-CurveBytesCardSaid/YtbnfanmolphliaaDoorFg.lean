import Derived.Test.YtbnfanmolphliaaDoorFf
import Derived.Test.YtbnfanmolphliaaDoorVp
namespace Go.Proofs.YtbnfanmolphliaaDoor
open Go.RowKit Go.Toll TollMont
open TollEc (F pp cb Jp Pt jdouble jadd)
set_option maxHeartbeats 4000000
set_option maxRecDepth 100000
theorem eq_pt0 {x y : Nat} (hx : x = 0) (hy : y = 0) (p q : Operand) (w : World) : (do eqGuard .eql 24 p q (PT x y) (.agg #[.int .u8 0, .int .u8 0, .int .u8 0, .int .u8 0, .int .u8 0, .int .u8 0, .int .u8 0, .int .u8 0, .int .u8 0, .int .u8 0, .int .u8 0, .int .u8 0, .int .u8 0, .int .u8 0, .int .u8 0, .int .u8 0, .int .u8 0, .int .u8 0, .int .u8 0, .int .u8 0, .int .u8 0, .int .u8 0, .int .u8 0, .int .u8 0, .int .u8 0, .int .u8 0, .int .u8 0, .int .u8 0, .int .u8 0, .int .u8 0, .int .u8 0, .int .u8 0, .int .u8 0, .int .u8 0, .int .u8 0, .int .u8 0, .int .u8 0, .int .u8 0, .int .u8 0, .int .u8 0, .int .u8 0, .int .u8 0, .int .u8 0, .int .u8 0, .int .u8 0, .int .u8 0, .int .u8 0, .int .u8 0, .int .u8 0, .int .u8 0, .int .u8 0, .int .u8 0, .int .u8 0, .int .u8 0, .int .u8 0, .int .u8 0, .int .u8 0, .int .u8 0, .int .u8 0, .int .u8 0, .int .u8 0, .int .u8 0, .int .u8 0, .int .u8 0]); binOp .eql 24 (PT x y) (.agg #[.int .u8 0, .int .u8 0, .int .u8 0, .int .u8 0, .int .u8 0, .int .u8 0, .int .u8 0, .int .u8 0, .int .u8 0, .int .u8 0, .int .u8 0, .int .u8 0, .int .u8 0, .int .u8 0, .int .u8 0, .int .u8 0, .int .u8 0, .int .u8 0, .int .u8 0, .int .u8 0, .int .u8 0, .int .u8 0, .int .u8 0, .int .u8 0, .int .u8 0, .int .u8 0, .int .u8 0, .int .u8 0, .int .u8 0, .int .u8 0, .int .u8 0, .int .u8 0, .int .u8 0, .int .u8 0, .int .u8 0, .int .u8 0, .int .u8 0, .int .u8 0, .int .u8 0, .int .u8 0, .int .u8 0, .int .u8 0, .int .u8 0, .int .u8 0, .int .u8 0, .int .u8 0, .int .u8 0, .int .u8 0, .int .u8 0, .int .u8 0, .int .u8 0, .int .u8 0, .int .u8 0, .int .u8 0, .int .u8 0, .int .u8 0, .int .u8 0, .int .u8 0, .int .u8 0, .int .u8 0, .int .u8 0, .int .u8 0, .int .u8 0, .int .u8 0]) : Sem Value).run Tryd.prog w = .ok (.bool true) w := by
  subst hx hy
  have := eq_pt (x := 0) (y := 0) (x' := 0) (y' := 0) (by decide) (by decide) (by decide) (by decide) p q w
  exact this
theorem eq_ptn {x y : Nat} (hx : x < R) (hy : y < R) (h : ¬ (x = 0 ∧ y = 0)) (p q : Operand) (w : World) : (do eqGuard .eql 24 p q (PT x y) (.agg #[.int .u8 0, .int .u8 0, .int .u8 0, .int .u8 0, .int .u8 0, .int .u8 0, .int .u8 0, .int .u8 0, .int .u8 0, .int .u8 0, .int .u8 0, .int .u8 0, .int .u8 0, .int .u8 0, .int .u8 0, .int .u8 0, .int .u8 0, .int .u8 0, .int .u8 0, .int .u8 0, .int .u8 0, .int .u8 0, .int .u8 0, .int .u8 0, .int .u8 0, .int .u8 0, .int .u8 0, .int .u8 0, .int .u8 0, .int .u8 0, .int .u8 0, .int .u8 0, .int .u8 0, .int .u8 0, .int .u8 0, .int .u8 0, .int .u8 0, .int .u8 0, .int .u8 0, .int .u8 0, .int .u8 0, .int .u8 0, .int .u8 0, .int .u8 0, .int .u8 0, .int .u8 0, .int .u8 0, .int .u8 0, .int .u8 0, .int .u8 0, .int .u8 0, .int .u8 0, .int .u8 0, .int .u8 0, .int .u8 0, .int .u8 0, .int .u8 0, .int .u8 0, .int .u8 0, .int .u8 0, .int .u8 0, .int .u8 0, .int .u8 0, .int .u8 0]); binOp .eql 24 (PT x y) (.agg #[.int .u8 0, .int .u8 0, .int .u8 0, .int .u8 0, .int .u8 0, .int .u8 0, .int .u8 0, .int .u8 0, .int .u8 0, .int .u8 0, .int .u8 0, .int .u8 0, .int .u8 0, .int .u8 0, .int .u8 0, .int .u8 0, .int .u8 0, .int .u8 0, .int .u8 0, .int .u8 0, .int .u8 0, .int .u8 0, .int .u8 0, .int .u8 0, .int .u8 0, .int .u8 0, .int .u8 0, .int .u8 0, .int .u8 0, .int .u8 0, .int .u8 0, .int .u8 0, .int .u8 0, .int .u8 0, .int .u8 0, .int .u8 0, .int .u8 0, .int .u8 0, .int .u8 0, .int .u8 0, .int .u8 0, .int .u8 0, .int .u8 0, .int .u8 0, .int .u8 0, .int .u8 0, .int .u8 0, .int .u8 0, .int .u8 0, .int .u8 0, .int .u8 0, .int .u8 0, .int .u8 0, .int .u8 0, .int .u8 0, .int .u8 0, .int .u8 0, .int .u8 0, .int .u8 0, .int .u8 0, .int .u8 0, .int .u8 0, .int .u8 0, .int .u8 0]) : Sem Value).run Tryd.prog w = .ok (.bool false) w := by
  have := eq_pt (x' := 0) (y' := 0) hx hy (by decide) (by decide) p q w
  rw [decide_eq_false h] at this
  exact this
theorem bitN {n k : Nat} (hk : k < 256) (w : World) : Calls Tryd.prog 43 #[N n, .int .i64 (((k + 1 : Nat) : Int) - 1)] w fun e w' => e = .returned (.int .i64 (n / 2 ^ k % 2 : Nat)) ∧ Gw w w' := by
  rw [show ((k + 1 : Nat) : Int) - 1 = (k : Int) by omega]; exact bit_ok n k hk w
theorem lad_t {n k : Nat} {t r : Jp} (hk : k < 256) (hb : n / 2 ^ k % 2 = 1) (hr : r = TollEc.ladder n t (256 - (k + 1))) : jadd (jdouble r) t = TollEc.ladder n t (256 - k) := by
  rw [hr, show 256 - k = (256 - (k + 1)) + 1 by omega]
  show _ = (if n / 2 ^ (255 - (256 - (k + 1))) % 2 = 1 then _ else _)
  rw [show 255 - (256 - (k + 1)) = k by omega, if_pos hb]
theorem lad_f {n k : Nat} {t r : Jp} (hk : k < 256) (hb : ¬ n / 2 ^ k % 2 = 1) (hr : r = TollEc.ladder n t (256 - (k + 1))) : jdouble r = TollEc.ladder n t (256 - k) := by
  rw [hr, show 256 - k = (256 - (k + 1)) + 1 by omega]
  show _ = (if n / 2 ^ (255 - (256 - (k + 1))) % 2 = 1 then _ else _)
  rw [show 255 - (256 - (k + 1)) = k by omega, if_neg hb]
theorem On_inf (w : World) (_hL : Laid w) : Calls Tryd.prog 17 #[PT 0 0] w fun e w' => e = .returned (.bool true) ∧ Gw w w' := by
  go_enter Tryd.func17, Tryd.ntmps17
  refine ve_go ?_
  simp only [List.map_cons, List.map_nil]
  refine vseq ?_
  apply vrp
  · apply VE.cons
    · exact ev_box rfl rfl (gn rfl) rfl
    simp only [nm2, seval]
    apply VE.cons
    · exact ev_assign rfl (gn rfl)
    simp only [nm2, seval]
    exact VE.nil _
  · kernel_rfl
  change VOk _ _ _ _ _
  refine vseq ?_
  apply vrd (by kernel_rfl)
  · apply VE.cons
    · first | exact ev_load rfl (gn rfl) rfl rfl Tryd.underlying24 rfl Tryd.sizeOf24 rfl rfl | exact ev_loadx rfl (gn rfl) rfl Tryd.underlying24 rfl Tryd.sizeOf24 (by assumption) rfl
    simp only [nm2, seval]
    apply VE.cons
    · exact ev_build rfl (gn rfl) rfl (built24_0)
    simp only [nm2, seval]
    apply VE.cons
    · exact ev_bin rfl (gn rfl) rfl rfl (fun w => eq_pt0 (x := 0) (y := 0) (by decide) (by decide) _ _ w)
    simp only [nm2, seval]
    apply VE.cons
    · exact ev_move rfl (gn rfl)
    simp only [nm2, seval]
    apply VE.cons
    · first | exact Ev.skip (fun _ => rfl) | refine ev_pure' (fun _ => rfl) (fun ρ w => by simp only [VS.act, SV.c, List.map_cons, List.map_nil]; go_simp; exact rfl) (fun _ _ => rfl)
    simp only [nm2, seval]
    apply VE.cons
    · first | exact Ev.skip (fun _ => rfl) | exact ev_load rfl (fun _ => rfl) rfl rfl Tryd.underlying24 rfl Tryd.sizeOf24 rfl rfl | exact ev_loadx rfl (fun _ => rfl) rfl Tryd.underlying24 rfl Tryd.sizeOf24 (by assumption) rfl
    simp only [nm2, seval]
    apply VE.cons
    · first | exact Ev.skip (fun _ => rfl) | refine ev_pure' (fun _ => rfl) (fun ρ w => by simp only [VS.act, SV.c, List.map_cons, List.map_nil]; go_simp; exact rfl) (fun _ _ => rfl)
    simp only [nm2, seval]
    apply VE.cons
    · first | exact ev_pick_t rfl (gn rfl) rfl rfl | exact ev_pick_f rfl (gn rfl) rfl rfl
    simp only [nm2, seval]
    apply VE.cons
    · exact ev_assign rfl (gn rfl)
    simp only [nm2, seval]
    exact VE.nil _
  · kernel_rfl
  change VOk _ _ _ _ _
  refine vret ?_
  refine post_ret (res1 Tryd.results17 (rv_tmp rfl)) ?_
  intro w' hg
  exact ⟨rfl, hg⟩
theorem On_fin {x y : Nat} (hx : x < R) (hy : y < R) (w : World) (hL : Laid w) (h : ¬ (x = 0 ∧ y = 0)) : Calls Tryd.prog 17 #[PT x y] w fun e w' => e = .returned (.bool (onB x y)) ∧ Gw w w' := by
  go_enter Tryd.func17, Tryd.ntmps17
  refine ve_go ?_
  simp only [List.map_cons, List.map_nil]
  refine vseq ?_
  apply vrp
  · apply VE.cons
    · exact ev_box rfl rfl (gn rfl) rfl
    simp only [nm2, seval]
    apply VE.cons
    · exact ev_assign rfl (gn rfl)
    simp only [nm2, seval]
    exact VE.nil _
  · kernel_rfl
  change VOk _ _ _ _ _
  refine vseq ?_
  apply vrd (by kernel_rfl)
  · apply VE.cons
    · first | exact ev_load rfl (gn rfl) rfl rfl Tryd.underlying24 rfl Tryd.sizeOf24 rfl rfl | exact ev_loadx rfl (gn rfl) rfl Tryd.underlying24 rfl Tryd.sizeOf24 (by assumption) rfl
    simp only [nm2, seval]
    apply VE.cons
    · exact ev_build rfl (gn rfl) rfl (built24_0)
    simp only [nm2, seval]
    apply VE.cons
    · exact ev_bin (c := .bool false) rfl (gn rfl) rfl rfl (fun w => eq_ptn hx hy h _ _ w)
    simp only [nm2, seval]
    apply VE.cons
    · exact ev_move rfl (gn rfl)
    simp only [nm2, seval]
    apply VE.cons
    · first | exact Ev.skip (fun _ => rfl) | exact ev_callnewf rfl rfl (fun _ => rfl) rfl (en_of Tryd.func35 (by kernel_rfl) rfl) (modc pp) 83 (fun w' hw' => newField_ok w' (hL.gw hw'))
    simp only [nm2, seval]
    apply VE.cons
    · first | exact Ev.skip (fun _ => rfl) | exact ev_load rfl (fun _ => rfl) rfl rfl Tryd.underlying24 rfl Tryd.sizeOf24 rfl rfl | exact ev_loadx rfl (fun _ => rfl) rfl Tryd.underlying24 rfl Tryd.sizeOf24 (by assumption) rfl
    simp only [nm2, seval]
    apply VE.cons
    · first | exact Ev.skip (fun _ => rfl) | exact ev_callp [7] rfl (fun _ => rfl) rfl (en_of Tryd.func36 (by kernel_rfl) rfl) (fun ρ w' hs => on_ok hx hy w' (at_own hs (by simp) rfl) (hL.gw hs.1))
    simp only [nm2, seval]
    apply VE.cons
    · first | exact ev_pick_t rfl (gn rfl) rfl rfl | exact ev_pick_f rfl (gn rfl) rfl rfl
    simp only [nm2, seval]
    apply VE.cons
    · exact ev_assign rfl (gn rfl)
    simp only [nm2, seval]
    exact VE.nil _
  · kernel_rfl
  change VOk _ _ _ _ _
  refine vret ?_
  refine post_ret (res1 Tryd.results17 (rv_tmp rfl)) ?_
  intro w' hg
  exact ⟨rfl, hg⟩
theorem Add_ok {x y x' y' : Nat} (hx : x < R) (hy : y < R) (hx' : x' < R) (hy' : y' < R) (w : World) (hL : Laid w) : Calls Tryd.prog 24 #[PT x y, PT x' y'] w fun e w' => e = .returned (PV (jadd (liftJ x y) (liftJ x' y')).rep) ∧ Gw w w' := by
  go_enter Tryd.func24, Tryd.ntmps24
  refine ve_go ?_
  simp only [List.map_cons, List.map_nil]
  refine vseq ?_
  apply vrp
  · apply VE.cons
    · exact ev_box rfl rfl (gn rfl) rfl
    simp only [nm2, seval]
    apply VE.cons
    · exact ev_box rfl rfl (gn rfl) rfl
    simp only [nm2, seval]
    apply VE.cons
    · exact ev_alloc rfl rfl (gn rfl) Tryd.zeroValue24
    simp only [nm2, seval]
    exact VE.nil _
  · kernel_rfl
  change VOk _ _ _ _ _
  refine vseq ?_
  apply vrp
  · apply VE.cons
    · exact ev_callnewf rfl rfl (gn rfl) rfl (en_of Tryd.func35 (by kernel_rfl) rfl) (modc pp) 83 (fun w' hw' => newField_ok w' (hL.gw hw'))
    simp only [nm2, seval]
    apply VE.cons
    · exact ev_alloc rfl rfl (gn rfl) Tryd.zeroValue62
    simp only [nm2, seval]
    apply VE.cons
    · exact ev_storeap rfl (gn rfl) rfl rfl rfl Tryd.sizeOf62 (by simp)
    simp only [nm2, seval]
    exact VE.nil _
  · kernel_rfl
  change VOk _ _ _ _ _
  refine vseq ?_
  apply vrd (by kernel_rfl)
  · apply VE.cons
    · exact ev_loadap rfl (gn rfl) rfl rfl Tryd.underlying62 rfl Tryd.sizeOf62 rfl
    simp only [nm2, seval]
    apply VE.cons
    · exact ev_loadap rfl (gn rfl) rfl rfl Tryd.underlying62 rfl Tryd.sizeOf62 rfl
    simp only [nm2, seval]
    apply VE.cons
    · exact ev_loadap rfl (gn rfl) rfl rfl Tryd.underlying62 rfl Tryd.sizeOf62 rfl
    simp only [nm2, seval]
    apply VE.cons
    · first | exact ev_load rfl (gn rfl) rfl rfl Tryd.underlying24 rfl Tryd.sizeOf24 rfl rfl | exact ev_loadx rfl (gn rfl) rfl Tryd.underlying24 rfl Tryd.sizeOf24 (by assumption) rfl
    simp only [nm2, seval]
    apply VE.cons
    · exact ev_callp [6] rfl (gn rfl) rfl (en_of Tryd.func41 (by kernel_rfl) rfl) (fun ρ w' hs => lift_ok hx hy w' (at_own hs (by simp) rfl) (hL.gw hs.1))
    simp only [nm2, seval]
    apply VE.cons
    · exact ev_loadap rfl (gn rfl) rfl rfl Tryd.underlying62 rfl Tryd.sizeOf62 rfl
    simp only [nm2, seval]
    apply VE.cons
    · first | exact ev_load rfl (gn rfl) rfl rfl Tryd.underlying24 rfl Tryd.sizeOf24 rfl rfl | exact ev_loadx rfl (gn rfl) rfl Tryd.underlying24 rfl Tryd.sizeOf24 (by assumption) rfl
    simp only [nm2, seval]
    apply VE.cons
    · exact ev_callp [6] rfl (gn rfl) rfl (en_of Tryd.func41 (by kernel_rfl) rfl) (fun ρ w' hs => lift_ok hx' hy' w' (at_own hs (by simp) rfl) (hL.gw hs.1))
    simp only [nm2, seval]
    apply VE.cons
    · exact ev_callp [6] rfl (gn rfl) rfl (en_of Tryd.func44 (by kernel_rfl) rfl) (fun ρ w' hs => add_ok2 _ _ w' (at_own hs (by simp) rfl))
    simp only [nm2, seval]
    apply VE.cons
    · exact ev_callp [6] rfl (gn rfl) rfl (en_of Tryd.func45 (by kernel_rfl) rfl) (fun ρ w' hs => drop_ok _ w' (at_own hs (by simp) rfl))
    simp only [nm2, seval]
    apply VE.cons
    · exact ev_store rfl (gn rfl) rfl rfl rfl Tryd.sizeOf24 rfl (by simp) rfl
    simp only [nm2, seval]
    exact VE.nil _
  · kernel_rfl
  change VOk _ _ _ _ _
  refine vret ?_
  refine post_ret (res1 Tryd.results24 (rv_cell rfl rfl Tryd.underlying24 rfl Tryd.sizeOf24 rfl rfl)) ?_
  intro w' hg
  exact ⟨rfl, hg⟩
theorem Times_core {n x y : Nat} (hn : n < R) (hx : x < R) (hy : y < R) (w : World) (hL : Laid w) : Calls Tryd.prog 22 #[B32 n, PT x y] w fun e w' => e = .returned (PV (TollEc.ladder n (liftJ x y) 256).rep) ∧ Gw w w' := by
  go_enter Tryd.func22, Tryd.ntmps22
  refine ve_go ?_
  simp only [List.map_cons, List.map_nil]
  refine vseq ?_
  apply vrp
  · apply VE.cons
    · exact ev_box rfl rfl (gn rfl) rfl
    simp only [nm2, seval]
    apply VE.cons
    · exact ev_box rfl rfl (gn rfl) rfl
    simp only [nm2, seval]
    apply VE.cons
    · exact ev_alloc rfl rfl (gn rfl) Tryd.zeroValue24
    simp only [nm2, seval]
    exact VE.nil _
  · kernel_rfl
  change VOk _ _ _ _ _
  refine vseq ?_
  apply vrp
  · apply VE.cons
    · exact ev_callnewf rfl rfl (gn rfl) rfl (en_of Tryd.func35 (by kernel_rfl) rfl) (modc pp) 83 (fun w' hw' => newField_ok w' (hL.gw hw'))
    simp only [nm2, seval]
    apply VE.cons
    · exact ev_alloc rfl rfl (gn rfl) Tryd.zeroValue62
    simp only [nm2, seval]
    apply VE.cons
    · exact ev_storeap rfl (gn rfl) rfl rfl rfl Tryd.sizeOf62 (by simp)
    simp only [nm2, seval]
    exact VE.nil _
  · kernel_rfl
  change VOk _ _ _ _ _
  refine vseq ?_
  apply vrd (by kernel_rfl)
  · apply VE.cons
    · first | exact ev_load rfl (gn rfl) rfl rfl Tryd.underlying22 rfl Tryd.sizeOf22 rfl rfl | exact ev_loadx rfl (gn rfl) rfl Tryd.underlying22 rfl Tryd.sizeOf22 (by assumption) rfl
    simp only [nm2, seval]
    apply VE.cons
    · exact ev_call rfl (gn rfl) rfl (en_of Tryd.func40 (by kernel_rfl) rfl) (fun w' hw' => ofN n hn w')
    simp only [nm2, seval]
    apply VE.cons
    · exact ev_loadap rfl (gn rfl) rfl rfl Tryd.underlying62 rfl Tryd.sizeOf62 rfl
    simp only [nm2, seval]
    apply VE.cons
    · first | exact ev_load rfl (gn rfl) rfl rfl Tryd.underlying24 rfl Tryd.sizeOf24 rfl rfl | exact ev_loadx rfl (gn rfl) rfl Tryd.underlying24 rfl Tryd.sizeOf24 (by assumption) rfl
    simp only [nm2, seval]
    apply VE.cons
    · exact ev_callp [10] rfl (gn rfl) rfl (en_of Tryd.func41 (by kernel_rfl) rfl) (fun ρ w' hs => lift_ok hx hy w' (at_own hs (by simp) rfl) (hL.gw hs.1))
    simp only [nm2, seval]
    apply VE.cons
    · exact ev_alloc rfl rfl (gn rfl) Tryd.zeroValue59
    simp only [nm2, seval]
    apply VE.cons
    · exact ev_alloc rfl rfl (gn rfl) Tryd.zeroValue67
    simp only [nm2, seval]
    apply VE.cons
    · exact ev_store rfl (gn rfl) rfl rfl rfl Tryd.sizeOf59 rfl (by simp) rfl
    simp only [nm2, seval]
    apply VE.cons
    · exact ev_store rfl (gn rfl) rfl rfl rfl Tryd.sizeOf67 rfl (by simp) rfl
    simp only [nm2, seval]
    exact VE.nil _
  · kernel_rfl
  change VOk _ _ _ _ _
  refine vseq ?_
  apply vrp
  · apply VE.cons
    · exact ev_alloc rfl rfl (gn rfl) Tryd.zeroValue67
    simp only [nm2, seval]
    exact VE.nil _
  · kernel_rfl
  change VOk _ _ _ _ _
  refine vseq ?_
  refine vseq ?_
  apply vrp
  · apply VE.cons
    · exact ev_assign rfl (gn rfl)
    simp only [nm2, seval]
    exact VE.nil _
  · kernel_rfl
  change VOk _ _ _ _ _
  refine vblock ?_
  obtain ⟨t, ht⟩ : ∃ t, t = liftJ x y := ⟨_, rfl⟩
  rw [← ht]
  refine vloop_inv (fun i s => ∃ (r : Jp), i ≤ 256 ∧ r = TollEc.ladder n t (256 - i) ∧ s.fr = [.v (B32 n), .v (PT x y), .p 2 0, .p 3 0, .p 4 0, .p 5 0, .p 6 0, .p 7 0, .p 8 0, .v (.int .i64 ((i : Int) - 1)), .ap 10 0, s.fr.getD 11 default, s.fr.getD 12 default, s.fr.getD 13 default, s.fr.getD 14 default, s.fr.getD 15 default, s.fr.getD 16 default, s.fr.getD 17 default, s.fr.getD 18 default, s.fr.getD 19 default, s.fr.getD 20 default, s.fr.getD 21 default, s.fr.getD 22 default, s.fr.getD 23 default, s.fr.getD 24 default, s.fr.getD 25 default, s.fr.getD 26 default, s.fr.getD 27 default, s.fr.getD 28 default, s.fr.getD 29 default, s.fr.getD 30 default, s.fr.getD 31 default, s.fr.getD 32 default, s.fr.getD 33 default] ∧ s.mem = memOf [(8, ([.v (.int .u64 (lv r.x 0 : Nat)), .v (.int .u64 (lv r.x 1 : Nat)), .v (.int .u64 (lv r.x 2 : Nat)), .v (.int .u64 (lv r.x 3 : Nat)), .v (.int .u64 (lv r.y 0 : Nat)), .v (.int .u64 (lv r.y 1 : Nat)), .v (.int .u64 (lv r.y 2 : Nat)), .v (.int .u64 (lv r.y 3 : Nat)), .v (.int .u64 (lv r.z 0 : Nat)), .v (.int .u64 (lv r.z 1 : Nat)), .v (.int .u64 (lv r.z 2 : Nat)), .v (.int .u64 (lv r.z 3 : Nat))], 67)), (7, ([.v (.int .u64 (lv t.x 0 : Nat)), .v (.int .u64 (lv t.x 1 : Nat)), .v (.int .u64 (lv t.x 2 : Nat)), .v (.int .u64 (lv t.x 3 : Nat)), .v (.int .u64 (lv t.y 0 : Nat)), .v (.int .u64 (lv t.y 1 : Nat)), .v (.int .u64 (lv t.y 2 : Nat)), .v (.int .u64 (lv t.y 3 : Nat)), .v (.int .u64 (lv t.z 0 : Nat)), .v (.int .u64 (lv t.z 1 : Nat)), .v (.int .u64 (lv t.z 2 : Nat)), .v (.int .u64 (lv t.z 3 : Nat))], 67)), (6, ([.v (.int .u64 (lim n 0 : Nat)), .v (.int .u64 (lim n 1 : Nat)), .v (.int .u64 (lim n 2 : Nat)), .v (.int .u64 (lim n 3 : Nat))], 59)), (5, ([.p 10 0], 62)), (10, ((modc pp).map SV.v, 83)), (4, ([.v (.int .u8 0), .v (.int .u8 0), .v (.int .u8 0), .v (.int .u8 0), .v (.int .u8 0), .v (.int .u8 0), .v (.int .u8 0), .v (.int .u8 0), .v (.int .u8 0), .v (.int .u8 0), .v (.int .u8 0), .v (.int .u8 0), .v (.int .u8 0), .v (.int .u8 0), .v (.int .u8 0), .v (.int .u8 0), .v (.int .u8 0), .v (.int .u8 0), .v (.int .u8 0), .v (.int .u8 0), .v (.int .u8 0), .v (.int .u8 0), .v (.int .u8 0), .v (.int .u8 0), .v (.int .u8 0), .v (.int .u8 0), .v (.int .u8 0), .v (.int .u8 0), .v (.int .u8 0), .v (.int .u8 0), .v (.int .u8 0), .v (.int .u8 0), .v (.int .u8 0), .v (.int .u8 0), .v (.int .u8 0), .v (.int .u8 0), .v (.int .u8 0), .v (.int .u8 0), .v (.int .u8 0), .v (.int .u8 0), .v (.int .u8 0), .v (.int .u8 0), .v (.int .u8 0), .v (.int .u8 0), .v (.int .u8 0), .v (.int .u8 0), .v (.int .u8 0), .v (.int .u8 0), .v (.int .u8 0), .v (.int .u8 0), .v (.int .u8 0), .v (.int .u8 0), .v (.int .u8 0), .v (.int .u8 0), .v (.int .u8 0), .v (.int .u8 0), .v (.int .u8 0), .v (.int .u8 0), .v (.int .u8 0), .v (.int .u8 0), .v (.int .u8 0), .v (.int .u8 0), .v (.int .u8 0), .v (.int .u8 0)], 24)), (3, ([.v (.int .u8 (byt x 0 : Nat)), .v (.int .u8 (byt x 1 : Nat)), .v (.int .u8 (byt x 2 : Nat)), .v (.int .u8 (byt x 3 : Nat)), .v (.int .u8 (byt x 4 : Nat)), .v (.int .u8 (byt x 5 : Nat)), .v (.int .u8 (byt x 6 : Nat)), .v (.int .u8 (byt x 7 : Nat)), .v (.int .u8 (byt x 8 : Nat)), .v (.int .u8 (byt x 9 : Nat)), .v (.int .u8 (byt x 10 : Nat)), .v (.int .u8 (byt x 11 : Nat)), .v (.int .u8 (byt x 12 : Nat)), .v (.int .u8 (byt x 13 : Nat)), .v (.int .u8 (byt x 14 : Nat)), .v (.int .u8 (byt x 15 : Nat)), .v (.int .u8 (byt x 16 : Nat)), .v (.int .u8 (byt x 17 : Nat)), .v (.int .u8 (byt x 18 : Nat)), .v (.int .u8 (byt x 19 : Nat)), .v (.int .u8 (byt x 20 : Nat)), .v (.int .u8 (byt x 21 : Nat)), .v (.int .u8 (byt x 22 : Nat)), .v (.int .u8 (byt x 23 : Nat)), .v (.int .u8 (byt x 24 : Nat)), .v (.int .u8 (byt x 25 : Nat)), .v (.int .u8 (byt x 26 : Nat)), .v (.int .u8 (byt x 27 : Nat)), .v (.int .u8 (byt x 28 : Nat)), .v (.int .u8 (byt x 29 : Nat)), .v (.int .u8 (byt x 30 : Nat)), .v (.int .u8 (byt x 31 : Nat)), .v (.int .u8 (byt y 0 : Nat)), .v (.int .u8 (byt y 1 : Nat)), .v (.int .u8 (byt y 2 : Nat)), .v (.int .u8 (byt y 3 : Nat)), .v (.int .u8 (byt y 4 : Nat)), .v (.int .u8 (byt y 5 : Nat)), .v (.int .u8 (byt y 6 : Nat)), .v (.int .u8 (byt y 7 : Nat)), .v (.int .u8 (byt y 8 : Nat)), .v (.int .u8 (byt y 9 : Nat)), .v (.int .u8 (byt y 10 : Nat)), .v (.int .u8 (byt y 11 : Nat)), .v (.int .u8 (byt y 12 : Nat)), .v (.int .u8 (byt y 13 : Nat)), .v (.int .u8 (byt y 14 : Nat)), .v (.int .u8 (byt y 15 : Nat)), .v (.int .u8 (byt y 16 : Nat)), .v (.int .u8 (byt y 17 : Nat)), .v (.int .u8 (byt y 18 : Nat)), .v (.int .u8 (byt y 19 : Nat)), .v (.int .u8 (byt y 20 : Nat)), .v (.int .u8 (byt y 21 : Nat)), .v (.int .u8 (byt y 22 : Nat)), .v (.int .u8 (byt y 23 : Nat)), .v (.int .u8 (byt y 24 : Nat)), .v (.int .u8 (byt y 25 : Nat)), .v (.int .u8 (byt y 26 : Nat)), .v (.int .u8 (byt y 27 : Nat)), .v (.int .u8 (byt y 28 : Nat)), .v (.int .u8 (byt y 29 : Nat)), .v (.int .u8 (byt y 30 : Nat)), .v (.int .u8 (byt y 31 : Nat))], 24)), (2, ([.v (.int .u8 (byt n 0 : Nat)), .v (.int .u8 (byt n 1 : Nat)), .v (.int .u8 (byt n 2 : Nat)), .v (.int .u8 (byt n 3 : Nat)), .v (.int .u8 (byt n 4 : Nat)), .v (.int .u8 (byt n 5 : Nat)), .v (.int .u8 (byt n 6 : Nat)), .v (.int .u8 (byt n 7 : Nat)), .v (.int .u8 (byt n 8 : Nat)), .v (.int .u8 (byt n 9 : Nat)), .v (.int .u8 (byt n 10 : Nat)), .v (.int .u8 (byt n 11 : Nat)), .v (.int .u8 (byt n 12 : Nat)), .v (.int .u8 (byt n 13 : Nat)), .v (.int .u8 (byt n 14 : Nat)), .v (.int .u8 (byt n 15 : Nat)), .v (.int .u8 (byt n 16 : Nat)), .v (.int .u8 (byt n 17 : Nat)), .v (.int .u8 (byt n 18 : Nat)), .v (.int .u8 (byt n 19 : Nat)), .v (.int .u8 (byt n 20 : Nat)), .v (.int .u8 (byt n 21 : Nat)), .v (.int .u8 (byt n 22 : Nat)), .v (.int .u8 (byt n 23 : Nat)), .v (.int .u8 (byt n 24 : Nat)), .v (.int .u8 (byt n 25 : Nat)), .v (.int .u8 (byt n 26 : Nat)), .v (.int .u8 (byt n 27 : Nat)), .v (.int .u8 (byt n 28 : Nat)), .v (.int .u8 (byt n 29 : Nat)), .v (.int .u8 (byt n 30 : Nat)), .v (.int .u8 (byt n 31 : Nat))], 22))]) ?_ 256 ?_
  rotate_left
  · exact ⟨⟨0, 0, 0⟩, Nat.le_refl _, rfl, rfl, rfl⟩
  rintro i ⟨fr, mm⟩ ⟨r, hi, hr, hfr, hmm⟩
  obtain ⟨f, hf⟩ : ∃ f : Nat → SV, fr = [.v (B32 n), .v (PT x y), .p 2 0, .p 3 0, .p 4 0, .p 5 0, .p 6 0, .p 7 0, .p 8 0, .v (.int .i64 ((i : Int) - 1)), .ap 10 0, f 11, f 12, f 13, f 14, f 15, f 16, f 17, f 18, f 19, f 20, f 21, f 22, f 23, f 24, f 25, f 26, f 27, f 28, f 29, f 30, f 31, f 32, f 33] := ⟨fun i => fr.getD i default, hfr⟩
  clear hfr
  simp only at hmm
  subst hf hmm
  cases i with
  | succ k =>
    have hk : k < 256 := by omega
    have hdn : IntKind.i64.wrap (((k + 1 : Nat) : Int) - 1 - 1) = (k : Int) - 1 := by rw [i64w (by omega) (by omega)]; omega
    have hge : decide ((0 : Int) ≤ ((k + 1 : Nat) : Int) - 1) = true := decide_eq_true (by omega)
    by_cases hb : n / 2 ^ k % 2 = 1
    · have he : decide (((n / 2 ^ k % 2 : Nat) : Int) = 1) = true := decide_eq_true (by omega)
      refine vseq ?_
      refine vseq ?_
      apply vrp
      · apply VE.cons
        · exact ev_move rfl (gn rfl)
        simp only [nm2, seval]
        apply VE.cons
        · exact ev_geq (p := true) rfl (gn rfl) rfl rfl hge
        simp only [nm2, seval]
        exact VE.nil _
      · kernel_rfl
      change VOk _ _ _ _ _
      refine vcond_t rfl ?_
      refine vskip ?_
      change VOk _ _ _ _ _
      refine vseq ?_
      refine vblock ?_
      refine vseq ?_
      apply vrp
      · apply VE.cons
        · exact ev_loadap rfl (gn rfl) rfl rfl Tryd.underlying62 rfl Tryd.sizeOf62 rfl
        simp only [nm2, seval]
        apply VE.cons
        · first | exact ev_load rfl (gn rfl) rfl rfl Tryd.underlying67 rfl Tryd.sizeOf67 rfl rfl | exact ev_loadx rfl (gn rfl) rfl Tryd.underlying67 rfl Tryd.sizeOf67 (by assumption) rfl
        simp only [nm2, seval]
        apply VE.cons
        · exact ev_callp [10] rfl (gn rfl) rfl (en_of Tryd.func42 (by kernel_rfl) rfl) (fun ρ w' hs => double_ok _ w' (at_own hs (by simp) rfl))
        simp only [nm2, seval]
        apply VE.cons
        · exact ev_store rfl (gn rfl) rfl rfl rfl Tryd.sizeOf67 rfl (by simp) rfl
        simp only [nm2, seval]
        exact VE.nil _
      · kernel_rfl
      change VOk _ _ _ _ _
      refine vseq ?_
      apply vrp
      · apply VE.cons
        · first | exact ev_load rfl (gn rfl) rfl rfl Tryd.underlying59 rfl Tryd.sizeOf59 rfl rfl | exact ev_loadx rfl (gn rfl) rfl Tryd.underlying59 rfl Tryd.sizeOf59 (by assumption) rfl
        simp only [nm2, seval]
        apply VE.cons
        · exact ev_move rfl (gn rfl)
        simp only [nm2, seval]
        apply VE.cons
        · exact ev_call rfl (gn rfl) rfl (en_of Tryd.func43 (by kernel_rfl) rfl) (fun w' hw' => bitN hk w')
        simp only [nm2, seval]
        apply VE.cons
        · exact ev_eql (p := true) rfl (gn rfl) rfl rfl he
        simp only [nm2, seval]
        exact VE.nil _
      · kernel_rfl
      change VOk _ _ _ _ _
      refine vcond_t rfl ?_
      apply vrp
      · apply VE.cons
        · exact ev_loadap rfl (gn rfl) rfl rfl Tryd.underlying62 rfl Tryd.sizeOf62 rfl
        simp only [nm2, seval]
        apply VE.cons
        · first | exact ev_load rfl (gn rfl) rfl rfl Tryd.underlying67 rfl Tryd.sizeOf67 rfl rfl | exact ev_loadx rfl (gn rfl) rfl Tryd.underlying67 rfl Tryd.sizeOf67 (by assumption) rfl
        simp only [nm2, seval]
        apply VE.cons
        · first | exact ev_load rfl (gn rfl) rfl rfl Tryd.underlying67 rfl Tryd.sizeOf67 rfl rfl | exact ev_loadx rfl (gn rfl) rfl Tryd.underlying67 rfl Tryd.sizeOf67 (by assumption) rfl
        simp only [nm2, seval]
        apply VE.cons
        · exact ev_callp [10] rfl (gn rfl) rfl (en_of Tryd.func44 (by kernel_rfl) rfl) (fun ρ w' hs => add_ok2 _ _ w' (at_own hs (by simp) rfl))
        simp only [nm2, seval]
        apply VE.cons
        · exact ev_store rfl (gn rfl) rfl rfl rfl Tryd.sizeOf67 rfl (by simp) rfl
        simp only [nm2, seval]
        exact VE.nil _
      · kernel_rfl
      change VOk _ _ _ _ _
      apply vrp
      · apply VE.cons
        · exact ev_move rfl (gn rfl)
        simp only [nm2, seval]
        apply VE.cons
        · exact ev_sub rfl (gn rfl) rfl rfl hdn
        simp only [nm2, seval]
        apply VE.cons
        · exact ev_assign rfl (gn rfl)
        simp only [nm2, seval]
        exact VE.nil _
      · kernel_rfl
      exact ⟨k, by omega, _, by omega, lad_t hk hb hr, rfl, rfl⟩
    · have he : decide (((n / 2 ^ k % 2 : Nat) : Int) = 1) = false := decide_eq_false (by omega)
      refine vseq ?_
      refine vseq ?_
      apply vrp
      · apply VE.cons
        · exact ev_move rfl (gn rfl)
        simp only [nm2, seval]
        apply VE.cons
        · exact ev_geq (p := true) rfl (gn rfl) rfl rfl hge
        simp only [nm2, seval]
        exact VE.nil _
      · kernel_rfl
      change VOk _ _ _ _ _
      refine vcond_t rfl ?_
      refine vskip ?_
      change VOk _ _ _ _ _
      refine vseq ?_
      refine vblock ?_
      refine vseq ?_
      apply vrp
      · apply VE.cons
        · exact ev_loadap rfl (gn rfl) rfl rfl Tryd.underlying62 rfl Tryd.sizeOf62 rfl
        simp only [nm2, seval]
        apply VE.cons
        · first | exact ev_load rfl (gn rfl) rfl rfl Tryd.underlying67 rfl Tryd.sizeOf67 rfl rfl | exact ev_loadx rfl (gn rfl) rfl Tryd.underlying67 rfl Tryd.sizeOf67 (by assumption) rfl
        simp only [nm2, seval]
        apply VE.cons
        · exact ev_callp [10] rfl (gn rfl) rfl (en_of Tryd.func42 (by kernel_rfl) rfl) (fun ρ w' hs => double_ok _ w' (at_own hs (by simp) rfl))
        simp only [nm2, seval]
        apply VE.cons
        · exact ev_store rfl (gn rfl) rfl rfl rfl Tryd.sizeOf67 rfl (by simp) rfl
        simp only [nm2, seval]
        exact VE.nil _
      · kernel_rfl
      change VOk _ _ _ _ _
      refine vseq ?_
      apply vrp
      · apply VE.cons
        · first | exact ev_load rfl (gn rfl) rfl rfl Tryd.underlying59 rfl Tryd.sizeOf59 rfl rfl | exact ev_loadx rfl (gn rfl) rfl Tryd.underlying59 rfl Tryd.sizeOf59 (by assumption) rfl
        simp only [nm2, seval]
        apply VE.cons
        · exact ev_move rfl (gn rfl)
        simp only [nm2, seval]
        apply VE.cons
        · exact ev_call rfl (gn rfl) rfl (en_of Tryd.func43 (by kernel_rfl) rfl) (fun w' hw' => bitN hk w')
        simp only [nm2, seval]
        apply VE.cons
        · exact ev_eql (p := false) rfl (gn rfl) rfl rfl he
        simp only [nm2, seval]
        exact VE.nil _
      · kernel_rfl
      change VOk _ _ _ _ _
      refine vcond_f rfl ?_
      refine vskip ?_
      change VOk _ _ _ _ _
      apply vrp
      · apply VE.cons
        · exact ev_move rfl (gn rfl)
        simp only [nm2, seval]
        apply VE.cons
        · exact ev_sub rfl (gn rfl) rfl rfl hdn
        simp only [nm2, seval]
        apply VE.cons
        · exact ev_assign rfl (gn rfl)
        simp only [nm2, seval]
        exact VE.nil _
      · kernel_rfl
      exact ⟨k, by omega, _, by omega, lad_f hk hb hr, rfl, rfl⟩
  | zero =>
    refine vseq ?_
    refine vseq ?_
    apply vrp
    · apply VE.cons
      · exact ev_move rfl (gn rfl)
      simp only [nm2, seval]
      apply VE.cons
      · exact ev_geq (p := false) rfl (gn rfl) rfl rfl (by decide)
      simp only [nm2, seval]
      exact VE.nil _
    · kernel_rfl
    change VOk _ _ _ _ _
    refine vcond_f rfl ?_
    refine vexit ?_
    change VOk _ _ _ _ _
    change VOk _ _ _ _ _
    refine vseq ?_
    apply vrp
    · apply VE.cons
      · exact ev_loadap rfl (gn rfl) rfl rfl Tryd.underlying62 rfl Tryd.sizeOf62 rfl
      simp only [nm2, seval]
      apply VE.cons
      · first | exact ev_load rfl (gn rfl) rfl rfl Tryd.underlying67 rfl Tryd.sizeOf67 rfl rfl | exact ev_loadx rfl (gn rfl) rfl Tryd.underlying67 rfl Tryd.sizeOf67 (by assumption) rfl
      simp only [nm2, seval]
      apply VE.cons
      · exact ev_callp [10] rfl (gn rfl) rfl (en_of Tryd.func45 (by kernel_rfl) rfl) (fun ρ w' hs => drop_ok _ w' (at_own hs (by simp) rfl))
      simp only [nm2, seval]
      apply VE.cons
      · exact ev_store rfl (gn rfl) rfl rfl rfl Tryd.sizeOf24 rfl (by simp) rfl
      simp only [nm2, seval]
      exact VE.nil _
    · kernel_rfl
    change VOk _ _ _ _ _
    refine vret ?_
    refine post_ret (res1 Tryd.results22 (rv_cell rfl rfl Tryd.underlying24 rfl Tryd.sizeOf24 rfl rfl)) ?_
    intro w' hg
    exact ⟨by rw [hr, ht]; exact rfl, hg⟩
end Go.Proofs.YtbnfanmolphliaaDoor
