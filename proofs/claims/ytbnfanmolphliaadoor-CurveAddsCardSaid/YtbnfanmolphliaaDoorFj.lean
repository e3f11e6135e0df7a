import Derived.Test.YtbnfanmolphliaaDoorFi
import Derived.Test.YtbnfanmolphliaaDoorVp
namespace Go.Proofs.YtbnfanmolphliaaDoor
open Go.RowKit Go.Toll TollMont
open TollEc (F pp cb Jp Pt jdouble jadd smul add base nn neg)
set_option maxHeartbeats 4000000
set_option maxRecDepth 100000
theorem constants_inf {x y : Nat} (hx : x < R) (hy : y < R) (w : World) (hL : Laid w) (h : x = 0) (h2 : y = 0) : Calls Tryd.prog 3 #[B32 x, B32 y] w fun e w' => e = .returned (.bool true) ∧ Gw w w' := by
  go_enter Tryd.func3, Tryd.ntmps3
  refine ve_go ?_
  simp only [List.map_cons, List.map_nil]
  refine vseq ?_
  apply vrp
  · apply VE.cons
    · exact ev_box rfl rfl (gn rfl) rfl
    simp only [nm3, seval]
    apply VE.cons
    · exact ev_box rfl rfl (gn rfl) rfl
    simp only [nm3, seval]
    apply VE.cons
    · exact ev_assign rfl (gn rfl)
    simp only [nm3, seval]
    exact VE.nil _
  · kernel_rfl
  change VOk _ _ _ _ _
  refine vseq ?_
  apply vrp
  · apply VE.cons
    · exact ev_call rfl (gn rfl) rfl (en_of Tryd.func10 (by kernel_rfl) rfl) (fun w' hw' => base_ok w' (hL.gw hw'))
    simp only [nm3, seval]
    apply VE.cons
    · exact ev_alloc rfl rfl (gn rfl) Tryd.zeroValue24
    simp only [nm3, seval]
    apply VE.cons
    · exact ev_store rfl (gn rfl) rfl rfl rfl Tryd.sizeOf24 rfl (by simp) rfl
    simp only [nm3, seval]
    exact VE.nil _
  · kernel_rfl
  change VOk _ _ _ _ _
  refine vseq ?_
  apply vrp
  · apply VE.cons
    · first | exact ev_load rfl (gn rfl) rfl rfl Tryd.underlying22 rfl Tryd.sizeOf22 rfl rfl | exact ev_loadx rfl (gn rfl) rfl Tryd.underlying22 rfl Tryd.sizeOf22 (by assumption) rfl
    simp only [nm3, seval]
    apply VE.cons
    · exact ev_build rfl (gn rfl) rfl built22_0
    simp only [nm3, seval]
    apply VE.cons
    · exact ev_bin (c := .bool true) rfl (gn rfl) rfl rfl (fun w => eqb_z hx h _ _ w)
    simp only [nm3, seval]
    apply VE.cons
    · exact ev_move rfl (gn rfl)
    simp only [nm3, seval]
    apply VE.cons
    · first | exact Ev.skip (fun _ => rfl) | exact ev_load rfl (fun _ => rfl) rfl rfl Tryd.underlying22 rfl Tryd.sizeOf22 rfl rfl | exact ev_loadx rfl (fun _ => rfl) rfl Tryd.underlying22 rfl Tryd.sizeOf22 (by assumption) rfl
    simp only [nm3, seval]
    apply VE.cons
    · first | exact Ev.skip (fun _ => rfl) | exact Ev.skip (fun _ => rfl) | exact ev_build rfl (fun _ => rfl) rfl built22_0
    simp only [nm3, seval]
    apply VE.cons
    · first | exact Ev.skip (fun _ => rfl) | exact Ev.skip (fun _ => rfl) | exact ev_bin (c := .bool true) rfl (fun _ => rfl) rfl rfl (fun w => eqb_z hy h2 _ _ w)
    simp only [nm3, seval]
    apply VE.cons
    · first | exact ev_pick_t rfl (gn rfl) rfl rfl | exact ev_pick_f rfl (gn rfl) rfl rfl
    simp only [nm3, seval]
    apply VE.cons
    · exact ev_assign rfl (gn rfl)
    simp only [nm3, seval]
    exact VE.nil _
  · kernel_rfl
  change VOk _ _ _ _ _
  refine vseq ?_
  apply vrd (by kernel_rfl)
  · apply VE.cons
    · exact ev_call (v := .bool true) rfl (gn rfl) rfl (en_of Tryd.func11 (by kernel_rfl) rfl) (fun w' hw' => curves_ok w' (hL.gw hw'))
    simp only [nm3, seval]
    apply VE.cons
    · exact ev_move rfl (gn rfl)
    simp only [nm3, seval]
    apply VE.cons
    · first | exact Ev.skip (fun _ => rfl) | exact ev_field rfl (fun _ => rfl) rfl Tryd.underlying24 rfl Tryd.sizeOf22 | exact ev_fieldx rfl (fun _ => rfl) rfl Tryd.underlying24 rfl Tryd.sizeOf22
    simp only [nm3, seval]
    apply VE.cons
    · first | exact Ev.skip (fun _ => rfl) | exact ev_load rfl (fun _ => rfl) rfl rfl Tryd.underlying22 rfl Tryd.sizeOf22 rfl rfl | exact ev_loadx rfl (fun _ => rfl) rfl Tryd.underlying22 rfl Tryd.sizeOf22 (by assumption) rfl
    simp only [nm3, seval]
    apply VE.cons
    · first | exact Ev.skip (fun _ => rfl) | exact ev_call rfl (fun _ => rfl) rfl (en_of Tryd.func13 (by kernel_rfl) rfl) (fun w' hw' => c_X w')
    simp only [nm3, seval]
    apply VE.cons
    · first | exact Ev.skip (fun _ => rfl) | exact ev_call rfl (fun _ => rfl) rfl (en_of Tryd.func12 (by kernel_rfl) rfl) (fun w' hw' => rbytes_ok _ w')
    simp only [nm3, seval]
    apply VE.cons
    · first | exact Ev.skip (fun _ => rfl) | exact ev_bin (c := .bool true) rfl (fun _ => rfl) rfl rfl (fun w => eqb_self (val_lt _) _ _ w)
    simp only [nm3, seval]
    apply VE.cons
    · first | exact ev_pick_t rfl (gn rfl) rfl rfl | exact ev_pick_f rfl (gn rfl) rfl rfl
    simp only [nm3, seval]
    apply VE.cons
    · exact ev_move rfl (gn rfl)
    simp only [nm3, seval]
    apply VE.cons
    · first | exact Ev.skip (fun _ => rfl) | exact ev_field rfl (fun _ => rfl) rfl Tryd.underlying24 rfl Tryd.sizeOf22 | exact ev_fieldx rfl (fun _ => rfl) rfl Tryd.underlying24 rfl Tryd.sizeOf22
    simp only [nm3, seval]
    apply VE.cons
    · first | exact Ev.skip (fun _ => rfl) | exact ev_load rfl (fun _ => rfl) rfl rfl Tryd.underlying22 rfl Tryd.sizeOf22 rfl rfl | exact ev_loadx rfl (fun _ => rfl) rfl Tryd.underlying22 rfl Tryd.sizeOf22 (by assumption) rfl
    simp only [nm3, seval]
    apply VE.cons
    · first | exact Ev.skip (fun _ => rfl) | exact ev_call rfl (fun _ => rfl) rfl (en_of Tryd.func14 (by kernel_rfl) rfl) (fun w' hw' => c_Y w')
    simp only [nm3, seval]
    apply VE.cons
    · first | exact Ev.skip (fun _ => rfl) | exact ev_call rfl (fun _ => rfl) rfl (en_of Tryd.func12 (by kernel_rfl) rfl) (fun w' hw' => rbytes_ok _ w')
    simp only [nm3, seval]
    apply VE.cons
    · first | exact Ev.skip (fun _ => rfl) | exact ev_bin (c := .bool true) rfl (fun _ => rfl) rfl rfl (fun w => eqb_self (val_lt _) _ _ w)
    simp only [nm3, seval]
    apply VE.cons
    · first | exact ev_pick_t rfl (gn rfl) rfl rfl | exact ev_pick_f rfl (gn rfl) rfl rfl
    simp only [nm3, seval]
    apply VE.cons
    · exact ev_move rfl (gn rfl)
    simp only [nm3, seval]
    apply VE.cons
    · first | exact Ev.skip (fun _ => rfl) | exact ev_call rfl (fun _ => rfl) rfl (en_of Tryd.func15 (by kernel_rfl) rfl) (fun w' hw' => order_ok w' (hL.gw hw'))
    simp only [nm3, seval]
    apply VE.cons
    · first | exact Ev.skip (fun _ => rfl) | exact ev_call rfl (fun _ => rfl) rfl (en_of Tryd.func16 (by kernel_rfl) rfl) (fun w' hw' => c_N w')
    simp only [nm3, seval]
    apply VE.cons
    · first | exact Ev.skip (fun _ => rfl) | exact ev_call rfl (fun _ => rfl) rfl (en_of Tryd.func12 (by kernel_rfl) rfl) (fun w' hw' => rbytes_ok _ w')
    simp only [nm3, seval]
    apply VE.cons
    · first | exact Ev.skip (fun _ => rfl) | exact ev_bin (c := .bool true) rfl (fun _ => rfl) rfl rfl (fun w => eqb_self (by decide) _ _ w)
    simp only [nm3, seval]
    apply VE.cons
    · first | exact ev_pick_t rfl (gn rfl) rfl rfl | exact ev_pick_f rfl (gn rfl) rfl rfl
    simp only [nm3, seval]
    apply VE.cons
    · exact ev_move rfl (gn rfl)
    simp only [nm3, seval]
    apply VE.cons
    · first | exact Ev.skip (fun _ => rfl) | exact ev_load rfl (fun _ => rfl) rfl rfl Tryd.underlying22 rfl Tryd.sizeOf22 rfl rfl | exact ev_loadx rfl (fun _ => rfl) rfl Tryd.underlying22 rfl Tryd.sizeOf22 (by assumption) rfl
    simp only [nm3, seval]
    apply VE.cons
    · first | exact Ev.skip (fun _ => rfl) | exact ev_load rfl (fun _ => rfl) rfl rfl Tryd.underlying22 rfl Tryd.sizeOf22 rfl rfl | exact ev_loadx rfl (fun _ => rfl) rfl Tryd.underlying22 rfl Tryd.sizeOf22 (by assumption) rfl
    simp only [nm3, seval]
    apply VE.cons
    · first | exact Ev.skip (fun _ => rfl) | exact ev_build rfl (fun _ => rfl) rfl (built24_2 _ _)
    simp only [nm3, seval]
    apply VE.cons
    · first | exact Ev.skip (fun _ => rfl) | exact ev_call (v := .bool true) rfl (fun _ => rfl) rfl (en_of Tryd.func17 (by kernel_rfl) rfl) (fun w' hw' => by have := OnP hx hy w' (hL.gw hw'); rw [decide_eq_true ⟨h, h2⟩, Bool.true_or] at this; exact this)
    simp only [nm3, seval]
    apply VE.cons
    · first | exact Ev.skip (fun _ => rfl) | exact ev_move rfl (fun _ => rfl)
    simp only [nm3, seval]
    apply VE.cons
    · first | exact Ev.skip (fun _ => rfl) | exact ev_move rfl (fun _ => rfl)
    simp only [nm3, seval]
    apply VE.cons
    · first | exact Ev.skip (fun _ => rfl) | exact ev_load rfl (fun _ => rfl) rfl rfl Tryd.underlying22 rfl Tryd.sizeOf22 rfl rfl | exact ev_loadx rfl (fun _ => rfl) rfl Tryd.underlying22 rfl Tryd.sizeOf22 (by assumption) rfl
    simp only [nm3, seval]
    apply VE.cons
    · first | exact Ev.skip (fun _ => rfl) | exact Ev.skip (fun _ => rfl) | exact ev_call rfl (fun _ => rfl) rfl (en_of Tryd.func19 (by kernel_rfl) rfl) (fun w' hw' => rofN _ hx w')
    simp only [nm3, seval]
    apply VE.cons
    · first | exact Ev.skip (fun _ => rfl) | exact ev_load rfl (fun _ => rfl) rfl rfl Tryd.underlying22 rfl Tryd.sizeOf22 rfl rfl | exact ev_loadx rfl (fun _ => rfl) rfl Tryd.underlying22 rfl Tryd.sizeOf22 (by assumption) rfl
    simp only [nm3, seval]
    apply VE.cons
    · first | exact Ev.skip (fun _ => rfl) | exact Ev.skip (fun _ => rfl) | exact ev_call rfl (fun _ => rfl) rfl (en_of Tryd.func19 (by kernel_rfl) rfl) (fun w' hw' => rofN _ hy w')
    simp only [nm3, seval]
    apply VE.cons
    · first | exact Ev.skip (fun _ => rfl) | exact Ev.skip (fun _ => rfl) | exact ev_call rfl (fun _ => rfl) rfl (en_of Tryd.func18 (by kernel_rfl) rfl) (fun w' hw' => rOn_ok hx hy w')
    simp only [nm3, seval]
    apply VE.cons
    · first | exact Ev.skip (fun _ => rfl) | exact ev_pick_t rfl (fun _ => rfl) rfl rfl | exact ev_pick_f rfl (fun _ => rfl) rfl rfl
    simp only [nm3, seval]
    apply VE.cons
    · first | exact Ev.skip (fun _ => rfl) | exact ev_bin (c := .bool true) rfl (fun _ => rfl) rfl rfl (fun w => eq_bool _ _ _ w)
    simp only [nm3, seval]
    apply VE.cons
    · first | exact ev_pick_t rfl (gn rfl) rfl rfl | exact ev_pick_f rfl (gn rfl) rfl rfl
    simp only [nm3, seval]
    apply VE.cons
    · exact ev_assign rfl (gn rfl)
    simp only [nm3, seval]
    exact VE.nil _
  · kernel_rfl
  change VOk _ _ _ _ _
  refine vret ?_
  refine post_ret (res1 Tryd.results3 (rv_tmp rfl)) ?_
  intro w' hg
  exact ⟨rfl, hg⟩
theorem constants_y {x y : Nat} (hx : x < R) (hy : y < R) (w : World) (hL : Laid w) (h : x = 0) (h2 : y ≠ 0) : Calls Tryd.prog 3 #[B32 x, B32 y] w fun e w' => e = .returned (.bool true) ∧ Gw w w' := by
  go_enter Tryd.func3, Tryd.ntmps3
  refine ve_go ?_
  simp only [List.map_cons, List.map_nil]
  refine vseq ?_
  apply vrp
  · apply VE.cons
    · exact ev_box rfl rfl (gn rfl) rfl
    simp only [nm3, seval]
    apply VE.cons
    · exact ev_box rfl rfl (gn rfl) rfl
    simp only [nm3, seval]
    apply VE.cons
    · exact ev_assign rfl (gn rfl)
    simp only [nm3, seval]
    exact VE.nil _
  · kernel_rfl
  change VOk _ _ _ _ _
  refine vseq ?_
  apply vrp
  · apply VE.cons
    · exact ev_call rfl (gn rfl) rfl (en_of Tryd.func10 (by kernel_rfl) rfl) (fun w' hw' => base_ok w' (hL.gw hw'))
    simp only [nm3, seval]
    apply VE.cons
    · exact ev_alloc rfl rfl (gn rfl) Tryd.zeroValue24
    simp only [nm3, seval]
    apply VE.cons
    · exact ev_store rfl (gn rfl) rfl rfl rfl Tryd.sizeOf24 rfl (by simp) rfl
    simp only [nm3, seval]
    exact VE.nil _
  · kernel_rfl
  change VOk _ _ _ _ _
  refine vseq ?_
  apply vrp
  · apply VE.cons
    · first | exact ev_load rfl (gn rfl) rfl rfl Tryd.underlying22 rfl Tryd.sizeOf22 rfl rfl | exact ev_loadx rfl (gn rfl) rfl Tryd.underlying22 rfl Tryd.sizeOf22 (by assumption) rfl
    simp only [nm3, seval]
    apply VE.cons
    · exact ev_build rfl (gn rfl) rfl built22_0
    simp only [nm3, seval]
    apply VE.cons
    · exact ev_bin (c := .bool true) rfl (gn rfl) rfl rfl (fun w => eqb_z hx h _ _ w)
    simp only [nm3, seval]
    apply VE.cons
    · exact ev_move rfl (gn rfl)
    simp only [nm3, seval]
    apply VE.cons
    · first | exact Ev.skip (fun _ => rfl) | exact ev_load rfl (fun _ => rfl) rfl rfl Tryd.underlying22 rfl Tryd.sizeOf22 rfl rfl | exact ev_loadx rfl (fun _ => rfl) rfl Tryd.underlying22 rfl Tryd.sizeOf22 (by assumption) rfl
    simp only [nm3, seval]
    apply VE.cons
    · first | exact Ev.skip (fun _ => rfl) | exact Ev.skip (fun _ => rfl) | exact ev_build rfl (fun _ => rfl) rfl built22_0
    simp only [nm3, seval]
    apply VE.cons
    · first | exact Ev.skip (fun _ => rfl) | exact Ev.skip (fun _ => rfl) | exact ev_bin (c := .bool false) rfl (fun _ => rfl) rfl rfl (fun w => eqb_nz hy h2 _ _ w)
    simp only [nm3, seval]
    apply VE.cons
    · first | exact ev_pick_t rfl (gn rfl) rfl rfl | exact ev_pick_f rfl (gn rfl) rfl rfl
    simp only [nm3, seval]
    apply VE.cons
    · exact ev_assign rfl (gn rfl)
    simp only [nm3, seval]
    exact VE.nil _
  · kernel_rfl
  change VOk _ _ _ _ _
  refine vseq ?_
  apply vrd (by kernel_rfl)
  · apply VE.cons
    · exact ev_call (v := .bool true) rfl (gn rfl) rfl (en_of Tryd.func11 (by kernel_rfl) rfl) (fun w' hw' => curves_ok w' (hL.gw hw'))
    simp only [nm3, seval]
    apply VE.cons
    · exact ev_move rfl (gn rfl)
    simp only [nm3, seval]
    apply VE.cons
    · first | exact Ev.skip (fun _ => rfl) | exact ev_field rfl (fun _ => rfl) rfl Tryd.underlying24 rfl Tryd.sizeOf22 | exact ev_fieldx rfl (fun _ => rfl) rfl Tryd.underlying24 rfl Tryd.sizeOf22
    simp only [nm3, seval]
    apply VE.cons
    · first | exact Ev.skip (fun _ => rfl) | exact ev_load rfl (fun _ => rfl) rfl rfl Tryd.underlying22 rfl Tryd.sizeOf22 rfl rfl | exact ev_loadx rfl (fun _ => rfl) rfl Tryd.underlying22 rfl Tryd.sizeOf22 (by assumption) rfl
    simp only [nm3, seval]
    apply VE.cons
    · first | exact Ev.skip (fun _ => rfl) | exact ev_call rfl (fun _ => rfl) rfl (en_of Tryd.func13 (by kernel_rfl) rfl) (fun w' hw' => c_X w')
    simp only [nm3, seval]
    apply VE.cons
    · first | exact Ev.skip (fun _ => rfl) | exact ev_call rfl (fun _ => rfl) rfl (en_of Tryd.func12 (by kernel_rfl) rfl) (fun w' hw' => rbytes_ok _ w')
    simp only [nm3, seval]
    apply VE.cons
    · first | exact Ev.skip (fun _ => rfl) | exact ev_bin (c := .bool true) rfl (fun _ => rfl) rfl rfl (fun w => eqb_self (val_lt _) _ _ w)
    simp only [nm3, seval]
    apply VE.cons
    · first | exact ev_pick_t rfl (gn rfl) rfl rfl | exact ev_pick_f rfl (gn rfl) rfl rfl
    simp only [nm3, seval]
    apply VE.cons
    · exact ev_move rfl (gn rfl)
    simp only [nm3, seval]
    apply VE.cons
    · first | exact Ev.skip (fun _ => rfl) | exact ev_field rfl (fun _ => rfl) rfl Tryd.underlying24 rfl Tryd.sizeOf22 | exact ev_fieldx rfl (fun _ => rfl) rfl Tryd.underlying24 rfl Tryd.sizeOf22
    simp only [nm3, seval]
    apply VE.cons
    · first | exact Ev.skip (fun _ => rfl) | exact ev_load rfl (fun _ => rfl) rfl rfl Tryd.underlying22 rfl Tryd.sizeOf22 rfl rfl | exact ev_loadx rfl (fun _ => rfl) rfl Tryd.underlying22 rfl Tryd.sizeOf22 (by assumption) rfl
    simp only [nm3, seval]
    apply VE.cons
    · first | exact Ev.skip (fun _ => rfl) | exact ev_call rfl (fun _ => rfl) rfl (en_of Tryd.func14 (by kernel_rfl) rfl) (fun w' hw' => c_Y w')
    simp only [nm3, seval]
    apply VE.cons
    · first | exact Ev.skip (fun _ => rfl) | exact ev_call rfl (fun _ => rfl) rfl (en_of Tryd.func12 (by kernel_rfl) rfl) (fun w' hw' => rbytes_ok _ w')
    simp only [nm3, seval]
    apply VE.cons
    · first | exact Ev.skip (fun _ => rfl) | exact ev_bin (c := .bool true) rfl (fun _ => rfl) rfl rfl (fun w => eqb_self (val_lt _) _ _ w)
    simp only [nm3, seval]
    apply VE.cons
    · first | exact ev_pick_t rfl (gn rfl) rfl rfl | exact ev_pick_f rfl (gn rfl) rfl rfl
    simp only [nm3, seval]
    apply VE.cons
    · exact ev_move rfl (gn rfl)
    simp only [nm3, seval]
    apply VE.cons
    · first | exact Ev.skip (fun _ => rfl) | exact ev_call rfl (fun _ => rfl) rfl (en_of Tryd.func15 (by kernel_rfl) rfl) (fun w' hw' => order_ok w' (hL.gw hw'))
    simp only [nm3, seval]
    apply VE.cons
    · first | exact Ev.skip (fun _ => rfl) | exact ev_call rfl (fun _ => rfl) rfl (en_of Tryd.func16 (by kernel_rfl) rfl) (fun w' hw' => c_N w')
    simp only [nm3, seval]
    apply VE.cons
    · first | exact Ev.skip (fun _ => rfl) | exact ev_call rfl (fun _ => rfl) rfl (en_of Tryd.func12 (by kernel_rfl) rfl) (fun w' hw' => rbytes_ok _ w')
    simp only [nm3, seval]
    apply VE.cons
    · first | exact Ev.skip (fun _ => rfl) | exact ev_bin (c := .bool true) rfl (fun _ => rfl) rfl rfl (fun w => eqb_self (by decide) _ _ w)
    simp only [nm3, seval]
    apply VE.cons
    · first | exact ev_pick_t rfl (gn rfl) rfl rfl | exact ev_pick_f rfl (gn rfl) rfl rfl
    simp only [nm3, seval]
    apply VE.cons
    · exact ev_move rfl (gn rfl)
    simp only [nm3, seval]
    apply VE.cons
    · first | exact Ev.skip (fun _ => rfl) | exact ev_load rfl (fun _ => rfl) rfl rfl Tryd.underlying22 rfl Tryd.sizeOf22 rfl rfl | exact ev_loadx rfl (fun _ => rfl) rfl Tryd.underlying22 rfl Tryd.sizeOf22 (by assumption) rfl
    simp only [nm3, seval]
    apply VE.cons
    · first | exact Ev.skip (fun _ => rfl) | exact ev_load rfl (fun _ => rfl) rfl rfl Tryd.underlying22 rfl Tryd.sizeOf22 rfl rfl | exact ev_loadx rfl (fun _ => rfl) rfl Tryd.underlying22 rfl Tryd.sizeOf22 (by assumption) rfl
    simp only [nm3, seval]
    apply VE.cons
    · first | exact Ev.skip (fun _ => rfl) | exact ev_build rfl (fun _ => rfl) rfl (built24_2 _ _)
    simp only [nm3, seval]
    apply VE.cons
    · first | exact Ev.skip (fun _ => rfl) | exact ev_call (v := .bool (onB x y)) rfl (fun _ => rfl) rfl (en_of Tryd.func17 (by kernel_rfl) rfl) (fun w' hw' => by have := OnP hx hy w' (hL.gw hw'); rw [decide_eq_false (fun c => h2 c.2), Bool.false_or] at this; exact this)
    simp only [nm3, seval]
    apply VE.cons
    · first | exact Ev.skip (fun _ => rfl) | exact ev_move rfl (fun _ => rfl)
    simp only [nm3, seval]
    apply VE.cons
    · first | exact Ev.skip (fun _ => rfl) | exact ev_move rfl (fun _ => rfl)
    simp only [nm3, seval]
    apply VE.cons
    · first | exact Ev.skip (fun _ => rfl) | exact ev_load rfl (fun _ => rfl) rfl rfl Tryd.underlying22 rfl Tryd.sizeOf22 rfl rfl | exact ev_loadx rfl (fun _ => rfl) rfl Tryd.underlying22 rfl Tryd.sizeOf22 (by assumption) rfl
    simp only [nm3, seval]
    apply VE.cons
    · first | exact Ev.skip (fun _ => rfl) | exact Ev.skip (fun _ => rfl) | exact ev_call rfl (fun _ => rfl) rfl (en_of Tryd.func19 (by kernel_rfl) rfl) (fun w' hw' => rofN _ hx w')
    simp only [nm3, seval]
    apply VE.cons
    · first | exact Ev.skip (fun _ => rfl) | exact ev_load rfl (fun _ => rfl) rfl rfl Tryd.underlying22 rfl Tryd.sizeOf22 rfl rfl | exact ev_loadx rfl (fun _ => rfl) rfl Tryd.underlying22 rfl Tryd.sizeOf22 (by assumption) rfl
    simp only [nm3, seval]
    apply VE.cons
    · first | exact Ev.skip (fun _ => rfl) | exact Ev.skip (fun _ => rfl) | exact ev_call rfl (fun _ => rfl) rfl (en_of Tryd.func19 (by kernel_rfl) rfl) (fun w' hw' => rofN _ hy w')
    simp only [nm3, seval]
    apply VE.cons
    · first | exact Ev.skip (fun _ => rfl) | exact Ev.skip (fun _ => rfl) | exact ev_call rfl (fun _ => rfl) rfl (en_of Tryd.func18 (by kernel_rfl) rfl) (fun w' hw' => rOn_ok hx hy w')
    simp only [nm3, seval]
    apply VE.cons
    · first | exact Ev.skip (fun _ => rfl) | exact ev_pick_t rfl (fun _ => rfl) rfl rfl | exact ev_pick_f rfl (fun _ => rfl) rfl rfl
    simp only [nm3, seval]
    apply VE.cons
    · first | exact Ev.skip (fun _ => rfl) | exact ev_bin (c := .bool true) rfl (fun _ => rfl) rfl rfl (fun w => eq_bool _ _ _ w)
    simp only [nm3, seval]
    apply VE.cons
    · first | exact ev_pick_t rfl (gn rfl) rfl rfl | exact ev_pick_f rfl (gn rfl) rfl rfl
    simp only [nm3, seval]
    apply VE.cons
    · exact ev_assign rfl (gn rfl)
    simp only [nm3, seval]
    exact VE.nil _
  · kernel_rfl
  change VOk _ _ _ _ _
  refine vret ?_
  refine post_ret (res1 Tryd.results3 (rv_tmp rfl)) ?_
  intro w' hg
  exact ⟨rfl, hg⟩
theorem constants_x {x y : Nat} (hx : x < R) (hy : y < R) (w : World) (hL : Laid w) (h : x ≠ 0) : Calls Tryd.prog 3 #[B32 x, B32 y] w fun e w' => e = .returned (.bool true) ∧ Gw w w' := by
  go_enter Tryd.func3, Tryd.ntmps3
  refine ve_go ?_
  simp only [List.map_cons, List.map_nil]
  refine vseq ?_
  apply vrp
  · apply VE.cons
    · exact ev_box rfl rfl (gn rfl) rfl
    simp only [nm3, seval]
    apply VE.cons
    · exact ev_box rfl rfl (gn rfl) rfl
    simp only [nm3, seval]
    apply VE.cons
    · exact ev_assign rfl (gn rfl)
    simp only [nm3, seval]
    exact VE.nil _
  · kernel_rfl
  change VOk _ _ _ _ _
  refine vseq ?_
  apply vrp
  · apply VE.cons
    · exact ev_call rfl (gn rfl) rfl (en_of Tryd.func10 (by kernel_rfl) rfl) (fun w' hw' => base_ok w' (hL.gw hw'))
    simp only [nm3, seval]
    apply VE.cons
    · exact ev_alloc rfl rfl (gn rfl) Tryd.zeroValue24
    simp only [nm3, seval]
    apply VE.cons
    · exact ev_store rfl (gn rfl) rfl rfl rfl Tryd.sizeOf24 rfl (by simp) rfl
    simp only [nm3, seval]
    exact VE.nil _
  · kernel_rfl
  change VOk _ _ _ _ _
  refine vseq ?_
  apply vrp
  · apply VE.cons
    · first | exact ev_load rfl (gn rfl) rfl rfl Tryd.underlying22 rfl Tryd.sizeOf22 rfl rfl | exact ev_loadx rfl (gn rfl) rfl Tryd.underlying22 rfl Tryd.sizeOf22 (by assumption) rfl
    simp only [nm3, seval]
    apply VE.cons
    · exact ev_build rfl (gn rfl) rfl built22_0
    simp only [nm3, seval]
    apply VE.cons
    · exact ev_bin (c := .bool false) rfl (gn rfl) rfl rfl (fun w => eqb_nz hx h _ _ w)
    simp only [nm3, seval]
    apply VE.cons
    · exact ev_move rfl (gn rfl)
    simp only [nm3, seval]
    apply VE.cons
    · first | exact Ev.skip (fun _ => rfl) | exact ev_load rfl (fun _ => rfl) rfl rfl Tryd.underlying22 rfl Tryd.sizeOf22 rfl rfl | exact ev_loadx rfl (fun _ => rfl) rfl Tryd.underlying22 rfl Tryd.sizeOf22 (by assumption) rfl
    simp only [nm3, seval]
    apply VE.cons
    · first | exact Ev.skip (fun _ => rfl) | exact Ev.skip (fun _ => rfl) | exact ev_build rfl (fun _ => rfl) rfl built22_0
    simp only [nm3, seval]
    apply VE.cons
    · first | exact Ev.skip (fun _ => rfl) | refine ev_pure' (fun _ => rfl) (fun ρ w => by simp only [VS.act, SV.c, List.map_cons, List.map_nil]; go_simp; exact rfl) (fun _ _ => rfl)
    simp only [nm3, seval]
    apply VE.cons
    · first | exact ev_pick_t rfl (gn rfl) rfl rfl | exact ev_pick_f rfl (gn rfl) rfl rfl
    simp only [nm3, seval]
    apply VE.cons
    · exact ev_assign rfl (gn rfl)
    simp only [nm3, seval]
    exact VE.nil _
  · kernel_rfl
  change VOk _ _ _ _ _
  refine vseq ?_
  apply vrd (by kernel_rfl)
  · apply VE.cons
    · exact ev_call (v := .bool true) rfl (gn rfl) rfl (en_of Tryd.func11 (by kernel_rfl) rfl) (fun w' hw' => curves_ok w' (hL.gw hw'))
    simp only [nm3, seval]
    apply VE.cons
    · exact ev_move rfl (gn rfl)
    simp only [nm3, seval]
    apply VE.cons
    · first | exact Ev.skip (fun _ => rfl) | exact ev_field rfl (fun _ => rfl) rfl Tryd.underlying24 rfl Tryd.sizeOf22 | exact ev_fieldx rfl (fun _ => rfl) rfl Tryd.underlying24 rfl Tryd.sizeOf22
    simp only [nm3, seval]
    apply VE.cons
    · first | exact Ev.skip (fun _ => rfl) | exact ev_load rfl (fun _ => rfl) rfl rfl Tryd.underlying22 rfl Tryd.sizeOf22 rfl rfl | exact ev_loadx rfl (fun _ => rfl) rfl Tryd.underlying22 rfl Tryd.sizeOf22 (by assumption) rfl
    simp only [nm3, seval]
    apply VE.cons
    · first | exact Ev.skip (fun _ => rfl) | exact ev_call rfl (fun _ => rfl) rfl (en_of Tryd.func13 (by kernel_rfl) rfl) (fun w' hw' => c_X w')
    simp only [nm3, seval]
    apply VE.cons
    · first | exact Ev.skip (fun _ => rfl) | exact ev_call rfl (fun _ => rfl) rfl (en_of Tryd.func12 (by kernel_rfl) rfl) (fun w' hw' => rbytes_ok _ w')
    simp only [nm3, seval]
    apply VE.cons
    · first | exact Ev.skip (fun _ => rfl) | exact ev_bin (c := .bool true) rfl (fun _ => rfl) rfl rfl (fun w => eqb_self (val_lt _) _ _ w)
    simp only [nm3, seval]
    apply VE.cons
    · first | exact ev_pick_t rfl (gn rfl) rfl rfl | exact ev_pick_f rfl (gn rfl) rfl rfl
    simp only [nm3, seval]
    apply VE.cons
    · exact ev_move rfl (gn rfl)
    simp only [nm3, seval]
    apply VE.cons
    · first | exact Ev.skip (fun _ => rfl) | exact ev_field rfl (fun _ => rfl) rfl Tryd.underlying24 rfl Tryd.sizeOf22 | exact ev_fieldx rfl (fun _ => rfl) rfl Tryd.underlying24 rfl Tryd.sizeOf22
    simp only [nm3, seval]
    apply VE.cons
    · first | exact Ev.skip (fun _ => rfl) | exact ev_load rfl (fun _ => rfl) rfl rfl Tryd.underlying22 rfl Tryd.sizeOf22 rfl rfl | exact ev_loadx rfl (fun _ => rfl) rfl Tryd.underlying22 rfl Tryd.sizeOf22 (by assumption) rfl
    simp only [nm3, seval]
    apply VE.cons
    · first | exact Ev.skip (fun _ => rfl) | exact ev_call rfl (fun _ => rfl) rfl (en_of Tryd.func14 (by kernel_rfl) rfl) (fun w' hw' => c_Y w')
    simp only [nm3, seval]
    apply VE.cons
    · first | exact Ev.skip (fun _ => rfl) | exact ev_call rfl (fun _ => rfl) rfl (en_of Tryd.func12 (by kernel_rfl) rfl) (fun w' hw' => rbytes_ok _ w')
    simp only [nm3, seval]
    apply VE.cons
    · first | exact Ev.skip (fun _ => rfl) | exact ev_bin (c := .bool true) rfl (fun _ => rfl) rfl rfl (fun w => eqb_self (val_lt _) _ _ w)
    simp only [nm3, seval]
    apply VE.cons
    · first | exact ev_pick_t rfl (gn rfl) rfl rfl | exact ev_pick_f rfl (gn rfl) rfl rfl
    simp only [nm3, seval]
    apply VE.cons
    · exact ev_move rfl (gn rfl)
    simp only [nm3, seval]
    apply VE.cons
    · first | exact Ev.skip (fun _ => rfl) | exact ev_call rfl (fun _ => rfl) rfl (en_of Tryd.func15 (by kernel_rfl) rfl) (fun w' hw' => order_ok w' (hL.gw hw'))
    simp only [nm3, seval]
    apply VE.cons
    · first | exact Ev.skip (fun _ => rfl) | exact ev_call rfl (fun _ => rfl) rfl (en_of Tryd.func16 (by kernel_rfl) rfl) (fun w' hw' => c_N w')
    simp only [nm3, seval]
    apply VE.cons
    · first | exact Ev.skip (fun _ => rfl) | exact ev_call rfl (fun _ => rfl) rfl (en_of Tryd.func12 (by kernel_rfl) rfl) (fun w' hw' => rbytes_ok _ w')
    simp only [nm3, seval]
    apply VE.cons
    · first | exact Ev.skip (fun _ => rfl) | exact ev_bin (c := .bool true) rfl (fun _ => rfl) rfl rfl (fun w => eqb_self (by decide) _ _ w)
    simp only [nm3, seval]
    apply VE.cons
    · first | exact ev_pick_t rfl (gn rfl) rfl rfl | exact ev_pick_f rfl (gn rfl) rfl rfl
    simp only [nm3, seval]
    apply VE.cons
    · exact ev_move rfl (gn rfl)
    simp only [nm3, seval]
    apply VE.cons
    · first | exact Ev.skip (fun _ => rfl) | exact ev_load rfl (fun _ => rfl) rfl rfl Tryd.underlying22 rfl Tryd.sizeOf22 rfl rfl | exact ev_loadx rfl (fun _ => rfl) rfl Tryd.underlying22 rfl Tryd.sizeOf22 (by assumption) rfl
    simp only [nm3, seval]
    apply VE.cons
    · first | exact Ev.skip (fun _ => rfl) | exact ev_load rfl (fun _ => rfl) rfl rfl Tryd.underlying22 rfl Tryd.sizeOf22 rfl rfl | exact ev_loadx rfl (fun _ => rfl) rfl Tryd.underlying22 rfl Tryd.sizeOf22 (by assumption) rfl
    simp only [nm3, seval]
    apply VE.cons
    · first | exact Ev.skip (fun _ => rfl) | exact ev_build rfl (fun _ => rfl) rfl (built24_2 _ _)
    simp only [nm3, seval]
    apply VE.cons
    · first | exact Ev.skip (fun _ => rfl) | exact ev_call (v := .bool (onB x y)) rfl (fun _ => rfl) rfl (en_of Tryd.func17 (by kernel_rfl) rfl) (fun w' hw' => by have := OnP hx hy w' (hL.gw hw'); rw [decide_eq_false (fun c => h c.1), Bool.false_or] at this; exact this)
    simp only [nm3, seval]
    apply VE.cons
    · first | exact Ev.skip (fun _ => rfl) | exact ev_move rfl (fun _ => rfl)
    simp only [nm3, seval]
    apply VE.cons
    · first | exact Ev.skip (fun _ => rfl) | exact ev_move rfl (fun _ => rfl)
    simp only [nm3, seval]
    apply VE.cons
    · first | exact Ev.skip (fun _ => rfl) | exact ev_load rfl (fun _ => rfl) rfl rfl Tryd.underlying22 rfl Tryd.sizeOf22 rfl rfl | exact ev_loadx rfl (fun _ => rfl) rfl Tryd.underlying22 rfl Tryd.sizeOf22 (by assumption) rfl
    simp only [nm3, seval]
    apply VE.cons
    · first | exact Ev.skip (fun _ => rfl) | exact Ev.skip (fun _ => rfl) | exact ev_call rfl (fun _ => rfl) rfl (en_of Tryd.func19 (by kernel_rfl) rfl) (fun w' hw' => rofN _ hx w')
    simp only [nm3, seval]
    apply VE.cons
    · first | exact Ev.skip (fun _ => rfl) | exact ev_load rfl (fun _ => rfl) rfl rfl Tryd.underlying22 rfl Tryd.sizeOf22 rfl rfl | exact ev_loadx rfl (fun _ => rfl) rfl Tryd.underlying22 rfl Tryd.sizeOf22 (by assumption) rfl
    simp only [nm3, seval]
    apply VE.cons
    · first | exact Ev.skip (fun _ => rfl) | exact Ev.skip (fun _ => rfl) | exact ev_call rfl (fun _ => rfl) rfl (en_of Tryd.func19 (by kernel_rfl) rfl) (fun w' hw' => rofN _ hy w')
    simp only [nm3, seval]
    apply VE.cons
    · first | exact Ev.skip (fun _ => rfl) | exact Ev.skip (fun _ => rfl) | exact ev_call rfl (fun _ => rfl) rfl (en_of Tryd.func18 (by kernel_rfl) rfl) (fun w' hw' => rOn_ok hx hy w')
    simp only [nm3, seval]
    apply VE.cons
    · first | exact Ev.skip (fun _ => rfl) | exact ev_pick_t rfl (fun _ => rfl) rfl rfl | exact ev_pick_f rfl (fun _ => rfl) rfl rfl
    simp only [nm3, seval]
    apply VE.cons
    · first | exact Ev.skip (fun _ => rfl) | exact ev_bin (c := .bool true) rfl (fun _ => rfl) rfl rfl (fun w => eq_bool _ _ _ w)
    simp only [nm3, seval]
    apply VE.cons
    · first | exact ev_pick_t rfl (gn rfl) rfl rfl | exact ev_pick_f rfl (gn rfl) rfl rfl
    simp only [nm3, seval]
    apply VE.cons
    · exact ev_assign rfl (gn rfl)
    simp only [nm3, seval]
    exact VE.nil _
  · kernel_rfl
  change VOk _ _ _ _ _
  refine vret ?_
  refine post_ret (res1 Tryd.results3 (rv_tmp rfl)) ?_
  intro w' hg
  exact ⟨rfl, hg⟩
theorem constants_law {x y : Nat} (hx : x < R) (hy : y < R) (w : World) (hL : Laid w) : Calls Tryd.prog 3 #[B32 x, B32 y] w fun e w' => e = .returned (.bool true) ∧ Gw w w' := by
  by_cases h : x = 0
  · by_cases h2 : y = 0
    · exact constants_inf hx hy w hL h h2
    · exact constants_y hx hy w hL h h2
  · exact constants_x hx hy w hL h
theorem rAdd1 {n : Nat} (hn : n < R) (w : World) : Calls Tryd.prog 26 #[N n, .agg #[.int .u64 1, .int .u64 0, .int .u64 0, .int .u64 0], N nn] w fun e w' => e = .returned (N ((n + 1) % nn)) ∧ Gw w w' := by
  have := rAdd_ok mdn hn (by decide : 1 < R) w; rw [N_one] at this; exact this
theorem modn_lt (n : Nat) : n % nn < R := Nat.lt_trans (Nat.mod_lt _ (by decide)) (by decide)
theorem times_core {n m : Nat} {p r s x q : Pt} (hn : n < R) (hm : m < R) (w : World) (hL : Laid w) (op : p.on) (or : r.on) (_os : s.on) (hp : smul n base = p) (hr : smul m base = r) (hR : smul (n % nn) base = p) (hS : smul ((n + m) % nn) base = s) (hA : add p r = s) (hX : smul m p = x) (hY : smul n r = x) (hG : add p base = q) (hQ : smul ((n + 1) % nn) base = q) : Calls Tryd.prog 5 #[B32 n, B32 m] w fun e w' => e = .returned (.bool true) ∧ Gw w w' := by
  go_enter Tryd.func5, Tryd.ntmps5
  refine ve_go ?_
  simp only [List.map_cons, List.map_nil]
  refine vseq ?_
  apply vrp
  · apply VE.cons
    · exact ev_box rfl rfl (gn rfl) rfl
    simp only [nm3, seval]
    apply VE.cons
    · exact ev_box rfl rfl (gn rfl) rfl
    simp only [nm3, seval]
    apply VE.cons
    · exact ev_assign rfl (gn rfl)
    simp only [nm3, seval]
    exact VE.nil _
  · kernel_rfl
  change VOk _ _ _ _ _
  refine vseq ?_
  apply vrp
  · apply VE.cons
    · exact ev_call rfl (gn rfl) rfl (en_of Tryd.func10 (by kernel_rfl) rfl) (fun w' hw' => baseP w' (hL.gw hw'))
    simp only [nm3, seval]
    apply VE.cons
    · exact ev_alloc rfl rfl (gn rfl) Tryd.zeroValue24
    simp only [nm3, seval]
    apply VE.cons
    · exact ev_store rfl (gn rfl) rfl rfl rfl Tryd.sizeOf24 rfl (by simp) rfl
    simp only [nm3, seval]
    exact VE.nil _
  · kernel_rfl
  change VOk _ _ _ _ _
  refine vseq ?_
  apply vrp
  · apply VE.cons
    · exact ev_call rfl (gn rfl) rfl (en_of Tryd.func16 (by kernel_rfl) rfl) (fun w' hw' => c_N w')
    simp only [nm3, seval]
    apply VE.cons
    · exact ev_alloc rfl rfl (gn rfl) Tryd.zeroValue29
    simp only [nm3, seval]
    apply VE.cons
    · exact ev_store rfl (gn rfl) rfl rfl rfl Tryd.sizeOf29 rfl (by simp) rfl
    simp only [nm3, seval]
    exact VE.nil _
  · kernel_rfl
  change VOk _ _ _ _ _
  refine vseq ?_
  apply vrd (by kernel_rfl)
  · apply VE.cons
    · first | exact ev_load rfl (gn rfl) rfl rfl Tryd.underlying22 rfl Tryd.sizeOf22 rfl rfl | exact ev_loadx rfl (gn rfl) rfl Tryd.underlying22 rfl Tryd.sizeOf22 (by assumption) rfl
    simp only [nm3, seval]
    apply VE.cons
    · exact ev_call rfl (gn rfl) rfl (en_of Tryd.func19 (by kernel_rfl) rfl) (fun w' hw' => rofN _ hn w')
    simp only [nm3, seval]
    apply VE.cons
    · first | exact ev_load rfl (gn rfl) rfl rfl Tryd.underlying22 rfl Tryd.sizeOf22 rfl rfl | exact ev_loadx rfl (gn rfl) rfl Tryd.underlying22 rfl Tryd.sizeOf22 (by assumption) rfl
    simp only [nm3, seval]
    apply VE.cons
    · exact ev_call rfl (gn rfl) rfl (en_of Tryd.func19 (by kernel_rfl) rfl) (fun w' hw' => rofN _ hm w')
    simp only [nm3, seval]
    apply VE.cons
    · first | exact ev_load rfl (gn rfl) rfl rfl Tryd.underlying29 rfl Tryd.sizeOf29 rfl rfl | exact ev_loadx rfl (gn rfl) rfl Tryd.underlying29 rfl Tryd.sizeOf29 (by assumption) rfl
    simp only [nm3, seval]
    apply VE.cons
    · exact ev_call rfl (gn rfl) rfl (en_of Tryd.func26 (by kernel_rfl) rfl) (fun w' hw' => rAdd_ok mdn hn hm w')
    simp only [nm3, seval]
    apply VE.cons
    · exact ev_call rfl (gn rfl) rfl (en_of Tryd.func12 (by kernel_rfl) rfl) (fun w' hw' => rbytes_ok _ w')
    simp only [nm3, seval]
    apply VE.cons
    · exact ev_alloc rfl rfl (gn rfl) Tryd.zeroValue22
    simp only [nm3, seval]
    apply VE.cons
    · exact ev_store rfl (gn rfl) rfl rfl rfl Tryd.sizeOf22 rfl (by simp) rfl
    simp only [nm3, seval]
    exact VE.nil _
  · kernel_rfl
  change VOk _ _ _ _ _
  refine vseq ?_
  apply vrd (by kernel_rfl)
  · apply VE.cons
    · first | exact ev_load rfl (gn rfl) rfl rfl Tryd.underlying22 rfl Tryd.sizeOf22 rfl rfl | exact ev_loadx rfl (gn rfl) rfl Tryd.underlying22 rfl Tryd.sizeOf22 (by assumption) rfl
    simp only [nm3, seval]
    apply VE.cons
    · exact ev_call rfl (gn rfl) rfl (en_of Tryd.func19 (by kernel_rfl) rfl) (fun w' hw' => rofN _ hn w')
    simp only [nm3, seval]
    apply VE.cons
    · first | exact ev_load rfl (gn rfl) rfl rfl Tryd.underlying29 rfl Tryd.sizeOf29 rfl rfl | exact ev_loadx rfl (gn rfl) rfl Tryd.underlying29 rfl Tryd.sizeOf29 (by assumption) rfl
    simp only [nm3, seval]
    apply VE.cons
    · exact ev_call rfl (gn rfl) rfl (en_of Tryd.func27 (by kernel_rfl) rfl) (fun w' hw' => rrest_ok mdn hn w')
    simp only [nm3, seval]
    apply VE.cons
    · exact ev_call rfl (gn rfl) rfl (en_of Tryd.func12 (by kernel_rfl) rfl) (fun w' hw' => rbytes_ok _ w')
    simp only [nm3, seval]
    apply VE.cons
    · exact ev_alloc rfl rfl (gn rfl) Tryd.zeroValue22
    simp only [nm3, seval]
    apply VE.cons
    · exact ev_store rfl (gn rfl) rfl rfl rfl Tryd.sizeOf22 rfl (by simp) rfl
    simp only [nm3, seval]
    exact VE.nil _
  · kernel_rfl
  change VOk _ _ _ _ _
  refine vseq ?_
  apply vrp
  · apply VE.cons
    · first | exact ev_load rfl (gn rfl) rfl rfl Tryd.underlying22 rfl Tryd.sizeOf22 rfl rfl | exact ev_loadx rfl (gn rfl) rfl Tryd.underlying22 rfl Tryd.sizeOf22 (by assumption) rfl
    simp only [nm3, seval]
    apply VE.cons
    · exact ev_call rfl (gn rfl) rfl (en_of Tryd.func20 (by kernel_rfl) rfl) (fun w' hw' => ofP hn hp w' (hL.gw hw'))
    simp only [nm3, seval]
    apply VE.cons
    · exact ev_alloc rfl rfl (gn rfl) Tryd.zeroValue24
    simp only [nm3, seval]
    apply VE.cons
    · exact ev_store rfl (gn rfl) rfl rfl rfl Tryd.sizeOf24 rfl (by simp) rfl
    simp only [nm3, seval]
    exact VE.nil _
  · kernel_rfl
  change VOk _ _ _ _ _
  refine vseq ?_
  apply vrd (by kernel_rfl)
  · apply VE.cons
    · exact ev_call (v := .bool true) rfl (gn rfl) rfl (en_of Tryd.func11 (by kernel_rfl) rfl) (fun w' hw' => curves_ok w' (hL.gw hw'))
    simp only [nm3, seval]
    apply VE.cons
    · exact ev_move rfl (gn rfl)
    simp only [nm3, seval]
    apply VE.cons
    · first | exact Ev.skip (fun _ => rfl) | exact ev_load rfl (fun _ => rfl) rfl rfl Tryd.underlying24 rfl Tryd.sizeOf24 rfl rfl | exact ev_loadx rfl (fun _ => rfl) rfl Tryd.underlying24 rfl Tryd.sizeOf24 (by assumption) rfl
    simp only [nm3, seval]
    apply VE.cons
    · first | exact Ev.skip (fun _ => rfl) | exact ev_call (v := .bool true) rfl (fun _ => rfl) rfl (en_of Tryd.func17 (by kernel_rfl) rfl) (fun w' hw' => On_PV op w' (hL.gw hw'))
    simp only [nm3, seval]
    apply VE.cons
    · first | exact ev_pick_t rfl (gn rfl) rfl rfl | exact ev_pick_f rfl (gn rfl) rfl rfl
    simp only [nm3, seval]
    apply VE.cons
    · exact ev_move rfl (gn rfl)
    simp only [nm3, seval]
    apply VE.cons
    · first | exact Ev.skip (fun _ => rfl) | exact ev_load rfl (fun _ => rfl) rfl rfl Tryd.underlying22 rfl Tryd.sizeOf22 rfl rfl | exact ev_loadx rfl (fun _ => rfl) rfl Tryd.underlying22 rfl Tryd.sizeOf22 (by assumption) rfl
    simp only [nm3, seval]
    apply VE.cons
    · first | exact Ev.skip (fun _ => rfl) | exact ev_call rfl (fun _ => rfl) rfl (en_of Tryd.func20 (by kernel_rfl) rfl) (fun w' hw' => ofP (modn_lt _) hR w' (hL.gw hw'))
    simp only [nm3, seval]
    apply VE.cons
    · first | exact Ev.skip (fun _ => rfl) | exact ev_load rfl (fun _ => rfl) rfl rfl Tryd.underlying24 rfl Tryd.sizeOf24 rfl rfl | exact ev_loadx rfl (fun _ => rfl) rfl Tryd.underlying24 rfl Tryd.sizeOf24 (by assumption) rfl
    simp only [nm3, seval]
    apply VE.cons
    · first | exact Ev.skip (fun _ => rfl) | exact ev_bin (c := .bool true) rfl (fun _ => rfl) rfl rfl (fun w => eqP_self _ _ _ w)
    simp only [nm3, seval]
    apply VE.cons
    · first | exact ev_pick_t rfl (gn rfl) rfl rfl | exact ev_pick_f rfl (gn rfl) rfl rfl
    simp only [nm3, seval]
    apply VE.cons
    · exact ev_move rfl (gn rfl)
    simp only [nm3, seval]
    apply VE.cons
    · first | exact Ev.skip (fun _ => rfl) | exact ev_load rfl (fun _ => rfl) rfl rfl Tryd.underlying24 rfl Tryd.sizeOf24 rfl rfl | exact ev_loadx rfl (fun _ => rfl) rfl Tryd.underlying24 rfl Tryd.sizeOf24 (by assumption) rfl
    simp only [nm3, seval]
    apply VE.cons
    · first | exact Ev.skip (fun _ => rfl) | exact ev_load rfl (fun _ => rfl) rfl rfl Tryd.underlying22 rfl Tryd.sizeOf22 rfl rfl | exact ev_loadx rfl (fun _ => rfl) rfl Tryd.underlying22 rfl Tryd.sizeOf22 (by assumption) rfl
    simp only [nm3, seval]
    apply VE.cons
    · first | exact Ev.skip (fun _ => rfl) | exact ev_call rfl (fun _ => rfl) rfl (en_of Tryd.func20 (by kernel_rfl) rfl) (fun w' hw' => ofP hm hr w' (hL.gw hw'))
    simp only [nm3, seval]
    apply VE.cons
    · first | exact Ev.skip (fun _ => rfl) | exact ev_call rfl (fun _ => rfl) rfl (en_of Tryd.func24 (by kernel_rfl) rfl) (fun w' hw' => AddE hA op or w' (hL.gw hw'))
    simp only [nm3, seval]
    apply VE.cons
    · first | exact Ev.skip (fun _ => rfl) | exact ev_load rfl (fun _ => rfl) rfl rfl Tryd.underlying22 rfl Tryd.sizeOf22 rfl rfl | exact ev_loadx rfl (fun _ => rfl) rfl Tryd.underlying22 rfl Tryd.sizeOf22 (by assumption) rfl
    simp only [nm3, seval]
    apply VE.cons
    · first | exact Ev.skip (fun _ => rfl) | exact ev_call rfl (fun _ => rfl) rfl (en_of Tryd.func20 (by kernel_rfl) rfl) (fun w' hw' => ofP (modn_lt _) hS w' (hL.gw hw'))
    simp only [nm3, seval]
    apply VE.cons
    · first | exact Ev.skip (fun _ => rfl) | exact ev_bin (c := .bool true) rfl (fun _ => rfl) rfl rfl (fun w => eqP_self _ _ _ w)
    simp only [nm3, seval]
    apply VE.cons
    · first | exact ev_pick_t rfl (gn rfl) rfl rfl | exact ev_pick_f rfl (gn rfl) rfl rfl
    simp only [nm3, seval]
    apply VE.cons
    · exact ev_move rfl (gn rfl)
    simp only [nm3, seval]
    apply VE.cons
    · first | exact Ev.skip (fun _ => rfl) | exact ev_load rfl (fun _ => rfl) rfl rfl Tryd.underlying22 rfl Tryd.sizeOf22 rfl rfl | exact ev_loadx rfl (fun _ => rfl) rfl Tryd.underlying22 rfl Tryd.sizeOf22 (by assumption) rfl
    simp only [nm3, seval]
    apply VE.cons
    · first | exact Ev.skip (fun _ => rfl) | exact ev_load rfl (fun _ => rfl) rfl rfl Tryd.underlying24 rfl Tryd.sizeOf24 rfl rfl | exact ev_loadx rfl (fun _ => rfl) rfl Tryd.underlying24 rfl Tryd.sizeOf24 (by assumption) rfl
    simp only [nm3, seval]
    apply VE.cons
    · first | exact Ev.skip (fun _ => rfl) | exact ev_call rfl (fun _ => rfl) rfl (en_of Tryd.func22 (by kernel_rfl) rfl) (fun w' hw' => TimesE hm hX op w' (hL.gw hw'))
    simp only [nm3, seval]
    apply VE.cons
    · first | exact Ev.skip (fun _ => rfl) | exact ev_load rfl (fun _ => rfl) rfl rfl Tryd.underlying22 rfl Tryd.sizeOf22 rfl rfl | exact ev_loadx rfl (fun _ => rfl) rfl Tryd.underlying22 rfl Tryd.sizeOf22 (by assumption) rfl
    simp only [nm3, seval]
    apply VE.cons
    · first | exact Ev.skip (fun _ => rfl) | exact ev_load rfl (fun _ => rfl) rfl rfl Tryd.underlying22 rfl Tryd.sizeOf22 rfl rfl | exact ev_loadx rfl (fun _ => rfl) rfl Tryd.underlying22 rfl Tryd.sizeOf22 (by assumption) rfl
    simp only [nm3, seval]
    apply VE.cons
    · first | exact Ev.skip (fun _ => rfl) | exact ev_call rfl (fun _ => rfl) rfl (en_of Tryd.func20 (by kernel_rfl) rfl) (fun w' hw' => ofP hm hr w' (hL.gw hw'))
    simp only [nm3, seval]
    apply VE.cons
    · first | exact Ev.skip (fun _ => rfl) | exact ev_call rfl (fun _ => rfl) rfl (en_of Tryd.func22 (by kernel_rfl) rfl) (fun w' hw' => TimesE hn hY or w' (hL.gw hw'))
    simp only [nm3, seval]
    apply VE.cons
    · first | exact Ev.skip (fun _ => rfl) | exact ev_bin (c := .bool true) rfl (fun _ => rfl) rfl rfl (fun w => eqP_self _ _ _ w)
    simp only [nm3, seval]
    apply VE.cons
    · first | exact ev_pick_t rfl (gn rfl) rfl rfl | exact ev_pick_f rfl (gn rfl) rfl rfl
    simp only [nm3, seval]
    apply VE.cons
    · exact ev_move rfl (gn rfl)
    simp only [nm3, seval]
    apply VE.cons
    · first | exact Ev.skip (fun _ => rfl) | exact ev_load rfl (fun _ => rfl) rfl rfl Tryd.underlying24 rfl Tryd.sizeOf24 rfl rfl | exact ev_loadx rfl (fun _ => rfl) rfl Tryd.underlying24 rfl Tryd.sizeOf24 (by assumption) rfl
    simp only [nm3, seval]
    apply VE.cons
    · first | exact Ev.skip (fun _ => rfl) | exact ev_load rfl (fun _ => rfl) rfl rfl Tryd.underlying24 rfl Tryd.sizeOf24 rfl rfl | exact ev_loadx rfl (fun _ => rfl) rfl Tryd.underlying24 rfl Tryd.sizeOf24 (by assumption) rfl
    simp only [nm3, seval]
    apply VE.cons
    · first | exact Ev.skip (fun _ => rfl) | exact ev_call rfl (fun _ => rfl) rfl (en_of Tryd.func24 (by kernel_rfl) rfl) (fun w' hw' => AddE hG op TollEc.base_on w' (hL.gw hw'))
    simp only [nm3, seval]
    apply VE.cons
    · first | exact Ev.skip (fun _ => rfl) | exact ev_load rfl (fun _ => rfl) rfl rfl Tryd.underlying22 rfl Tryd.sizeOf22 rfl rfl | exact ev_loadx rfl (fun _ => rfl) rfl Tryd.underlying22 rfl Tryd.sizeOf22 (by assumption) rfl
    simp only [nm3, seval]
    apply VE.cons
    · first | exact Ev.skip (fun _ => rfl) | exact ev_call rfl (fun _ => rfl) rfl (en_of Tryd.func19 (by kernel_rfl) rfl) (fun w' hw' => rofN _ hn w')
    simp only [nm3, seval]
    apply VE.cons
    · first | exact Ev.skip (fun _ => rfl) | exact ev_build rfl (fun _ => rfl) rfl built29_one
    simp only [nm3, seval]
    apply VE.cons
    · first | exact Ev.skip (fun _ => rfl) | exact ev_load rfl (fun _ => rfl) rfl rfl Tryd.underlying29 rfl Tryd.sizeOf29 rfl rfl | exact ev_loadx rfl (fun _ => rfl) rfl Tryd.underlying29 rfl Tryd.sizeOf29 (by assumption) rfl
    simp only [nm3, seval]
    apply VE.cons
    · first | exact Ev.skip (fun _ => rfl) | exact ev_call rfl (fun _ => rfl) rfl (en_of Tryd.func26 (by kernel_rfl) rfl) (fun w' hw' => rAdd1 hn w')
    simp only [nm3, seval]
    apply VE.cons
    · first | exact Ev.skip (fun _ => rfl) | exact ev_call rfl (fun _ => rfl) rfl (en_of Tryd.func12 (by kernel_rfl) rfl) (fun w' hw' => rbytes_ok _ w')
    simp only [nm3, seval]
    apply VE.cons
    · first | exact Ev.skip (fun _ => rfl) | exact ev_call rfl (fun _ => rfl) rfl (en_of Tryd.func20 (by kernel_rfl) rfl) (fun w' hw' => ofP (modn_lt _) hQ w' (hL.gw hw'))
    simp only [nm3, seval]
    apply VE.cons
    · first | exact Ev.skip (fun _ => rfl) | exact ev_bin (c := .bool true) rfl (fun _ => rfl) rfl rfl (fun w => eqP_self _ _ _ w)
    simp only [nm3, seval]
    apply VE.cons
    · first | exact ev_pick_t rfl (gn rfl) rfl rfl | exact ev_pick_f rfl (gn rfl) rfl rfl
    simp only [nm3, seval]
    apply VE.cons
    · exact ev_assign rfl (gn rfl)
    simp only [nm3, seval]
    exact VE.nil _
  · kernel_rfl
  change VOk _ _ _ _ _
  refine vret ?_
  refine post_ret (res1 Tryd.results5 (rv_tmp rfl)) ?_
  intro w' hg
  exact ⟨rfl, hg⟩
theorem times_law {n m : Nat} (hn : n < R) (hm : m < R) (w : World) (hL : Laid w) : Calls Tryd.prog 5 #[B32 n, B32 m] w fun e w' => e = .returned (.bool true) ∧ Gw w w' :=
  times_core hn hm w hL (TollEc.smul_on TollEc.base_on n) (TollEc.smul_on TollEc.base_on m) (TollEc.smul_on TollEc.base_on (n + m)) rfl rfl (TollEc.smul_mod n) (TollEc.smul_mod (n + m)) (TollEc.smul_add TollEc.base_on n m).symm rfl (TollEc.smul_comm TollEc.base_on n m) rfl (TollEc.smul_mod (n + 1))
end Go.Proofs.YtbnfanmolphliaaDoor
