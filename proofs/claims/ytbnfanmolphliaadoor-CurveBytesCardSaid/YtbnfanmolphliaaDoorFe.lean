import Derived.Test.YtbnfanmolphliaaDoorFd
import Derived.Test.YtbnfanmolphliaaDoorVp
namespace Go.Proofs.YtbnfanmolphliaaDoor
open Go.RowKit Go.Toll TollMont
open TollEc (F pp cb Jp Pt)
set_option maxHeartbeats 4000000
set_option maxRecDepth 100000
theorem on_x {b : Nat} {x y : Nat} (hx : x < R) (hy : y < R) (w : World) (_ha : At w b pp) (hL : Laid w) (h : ¬ x < pp) : Calls Tryd.prog 36 #[FV b, PT x y] w fun e w' => e = .returned (.bool false) ∧ Gw w w' := by
  go_enter Tryd.func36, Tryd.ntmps36
  refine ve_go ?_
  simp only [List.map_cons, List.map_nil]
  refine vseq ?_
  apply vrp
  · apply VE.cons
    · exact ev_box rfl rfl (gn rfl) rfl
    simp only [nm2, seval]
    apply VE.cons
    · exact ev_box rfl rfl (gn rfl) rfl
    simp only [nm2, seval]
    apply VE.cons
    · exact ev_assign rfl (gn rfl)
    simp only [nm2, seval]
    exact VE.nil _
  · kernel_rfl
  change VOk _ _ _ _ _
  refine vseq ?_
  apply vrd (by kernel_rfl)
  · apply VE.cons
    · first | exact ev_field rfl (gn rfl) rfl Tryd.underlying24 rfl Tryd.sizeOf22 | exact ev_fieldx rfl (gn rfl) rfl Tryd.underlying24 rfl Tryd.sizeOf22
    simp only [nm2, seval]
    apply VE.cons
    · first | exact ev_load rfl (gn rfl) rfl rfl Tryd.underlying22 rfl Tryd.sizeOf22 rfl rfl | exact ev_loadx rfl (gn rfl) rfl Tryd.underlying22 rfl Tryd.sizeOf22 (by assumption) rfl
    simp only [nm2, seval]
    apply VE.cons
    · exact ev_call rfl (gn rfl) rfl (en_of Tryd.func40 (by kernel_rfl) rfl) (fun w' hw' => ofN x hx w')
    simp only [nm2, seval]
    apply VE.cons
    · first | exact ev_field rfl (gn rfl) rfl Tryd.underlying24 rfl Tryd.sizeOf22 | exact ev_fieldx rfl (gn rfl) rfl Tryd.underlying24 rfl Tryd.sizeOf22
    simp only [nm2, seval]
    apply VE.cons
    · first | exact ev_load rfl (gn rfl) rfl rfl Tryd.underlying22 rfl Tryd.sizeOf22 rfl rfl | exact ev_loadx rfl (gn rfl) rfl Tryd.underlying22 rfl Tryd.sizeOf22 (by assumption) rfl
    simp only [nm2, seval]
    apply VE.cons
    · exact ev_call rfl (gn rfl) rfl (en_of Tryd.func40 (by kernel_rfl) rfl) (fun w' hw' => ofN y hy w')
    simp only [nm2, seval]
    apply VE.cons
    · exact ev_alloc rfl rfl (gn rfl) Tryd.zeroValue59
    simp only [nm2, seval]
    apply VE.cons
    · exact ev_alloc rfl rfl (gn rfl) Tryd.zeroValue59
    simp only [nm2, seval]
    apply VE.cons
    · exact ev_store rfl (gn rfl) rfl rfl rfl Tryd.sizeOf59 rfl (by simp) rfl
    simp only [nm2, seval]
    apply VE.cons
    · exact ev_store rfl (gn rfl) rfl rfl rfl Tryd.sizeOf59 rfl (by simp) rfl
    simp only [nm2, seval]
    exact VE.nil _
  · kernel_rfl
  change VOk _ _ _ _ _
  refine vseq ?_
  refine vseq ?_
  apply vrp
  · apply VE.cons
    · first | exact ev_load rfl (gn rfl) rfl rfl Tryd.underlying59 rfl Tryd.sizeOf59 rfl rfl | exact ev_loadx rfl (gn rfl) rfl Tryd.underlying59 rfl Tryd.sizeOf59 (by assumption) rfl
    simp only [nm2, seval]
    apply VE.cons
    · exact ev_loadx rfl (gn rfl) rfl Tryd.underlying59 rfl Tryd.sizeOf59 (hL.pp) rfl
    simp only [nm2, seval]
    apply VE.cons
    · exact ev_call (v := .bool false) rfl (gn rfl) rfl (en_of Tryd.func52 (by kernel_rfl) rfl) (fun w' hw' => less_f hx h w')
    simp only [nm2, seval]
    apply VE.cons
    · exact ev_not rfl (gn rfl) rfl
    simp only [nm2, seval]
    apply VE.cons
    · exact ev_move rfl (gn rfl)
    simp only [nm2, seval]
    apply VE.cons
    · first | exact Ev.skip (fun _ => rfl) | exact ev_load rfl (fun _ => rfl) rfl rfl Tryd.underlying59 rfl Tryd.sizeOf59 rfl rfl | exact ev_loadx rfl (fun _ => rfl) rfl Tryd.underlying59 rfl Tryd.sizeOf59 (by assumption) rfl
    simp only [nm2, seval]
    apply VE.cons
    · first | exact Ev.skip (fun _ => rfl) | exact ev_load rfl (fun _ => rfl) rfl rfl Tryd.underlying59 rfl Tryd.sizeOf59 rfl rfl | exact ev_loadx rfl (fun _ => rfl) rfl Tryd.underlying59 rfl Tryd.sizeOf59 (by assumption) rfl
    simp only [nm2, seval]
    apply VE.cons
    · first | exact Ev.skip (fun _ => rfl) | refine ev_pure' (fun _ => rfl) (fun ρ w => by simp only [VS.act, SV.c, List.map_cons, List.map_nil]; go_simp; exact rfl) (fun _ _ => rfl)
    simp only [nm2, seval]
    apply VE.cons
    · first | exact Ev.skip (fun _ => rfl) | exact ev_not rfl (fun _ => rfl) rfl
    simp only [nm2, seval]
    apply VE.cons
    · first | exact ev_pick_t rfl (gn rfl) rfl rfl | exact ev_pick_f rfl (gn rfl) rfl rfl
    simp only [nm2, seval]
    exact VE.nil _
  · kernel_rfl
  change VOk _ _ _ _ _
  refine vcond_t rfl ?_
  refine vseq ?_
  apply vrp
  · apply VE.cons
    · exact ev_assign rfl (gn rfl)
    simp only [nm2, seval]
    exact VE.nil _
  · kernel_rfl
  change VOk _ _ _ _ _
  refine vret ?_
  refine post_ret (res1 Tryd.results36 (rv_tmp rfl)) ?_
  intro w' hg
  exact ⟨rfl, hg⟩
theorem on_y {b : Nat} {x y : Nat} (hx : x < R) (hy : y < R) (w : World) (_ha : At w b pp) (hL : Laid w) (h : x < pp) (h2 : ¬ y < pp) : Calls Tryd.prog 36 #[FV b, PT x y] w fun e w' => e = .returned (.bool false) ∧ Gw w w' := by
  go_enter Tryd.func36, Tryd.ntmps36
  refine ve_go ?_
  simp only [List.map_cons, List.map_nil]
  refine vseq ?_
  apply vrp
  · apply VE.cons
    · exact ev_box rfl rfl (gn rfl) rfl
    simp only [nm2, seval]
    apply VE.cons
    · exact ev_box rfl rfl (gn rfl) rfl
    simp only [nm2, seval]
    apply VE.cons
    · exact ev_assign rfl (gn rfl)
    simp only [nm2, seval]
    exact VE.nil _
  · kernel_rfl
  change VOk _ _ _ _ _
  refine vseq ?_
  apply vrd (by kernel_rfl)
  · apply VE.cons
    · first | exact ev_field rfl (gn rfl) rfl Tryd.underlying24 rfl Tryd.sizeOf22 | exact ev_fieldx rfl (gn rfl) rfl Tryd.underlying24 rfl Tryd.sizeOf22
    simp only [nm2, seval]
    apply VE.cons
    · first | exact ev_load rfl (gn rfl) rfl rfl Tryd.underlying22 rfl Tryd.sizeOf22 rfl rfl | exact ev_loadx rfl (gn rfl) rfl Tryd.underlying22 rfl Tryd.sizeOf22 (by assumption) rfl
    simp only [nm2, seval]
    apply VE.cons
    · exact ev_call rfl (gn rfl) rfl (en_of Tryd.func40 (by kernel_rfl) rfl) (fun w' hw' => ofN x hx w')
    simp only [nm2, seval]
    apply VE.cons
    · first | exact ev_field rfl (gn rfl) rfl Tryd.underlying24 rfl Tryd.sizeOf22 | exact ev_fieldx rfl (gn rfl) rfl Tryd.underlying24 rfl Tryd.sizeOf22
    simp only [nm2, seval]
    apply VE.cons
    · first | exact ev_load rfl (gn rfl) rfl rfl Tryd.underlying22 rfl Tryd.sizeOf22 rfl rfl | exact ev_loadx rfl (gn rfl) rfl Tryd.underlying22 rfl Tryd.sizeOf22 (by assumption) rfl
    simp only [nm2, seval]
    apply VE.cons
    · exact ev_call rfl (gn rfl) rfl (en_of Tryd.func40 (by kernel_rfl) rfl) (fun w' hw' => ofN y hy w')
    simp only [nm2, seval]
    apply VE.cons
    · exact ev_alloc rfl rfl (gn rfl) Tryd.zeroValue59
    simp only [nm2, seval]
    apply VE.cons
    · exact ev_alloc rfl rfl (gn rfl) Tryd.zeroValue59
    simp only [nm2, seval]
    apply VE.cons
    · exact ev_store rfl (gn rfl) rfl rfl rfl Tryd.sizeOf59 rfl (by simp) rfl
    simp only [nm2, seval]
    apply VE.cons
    · exact ev_store rfl (gn rfl) rfl rfl rfl Tryd.sizeOf59 rfl (by simp) rfl
    simp only [nm2, seval]
    exact VE.nil _
  · kernel_rfl
  change VOk _ _ _ _ _
  refine vseq ?_
  refine vseq ?_
  apply vrp
  · apply VE.cons
    · first | exact ev_load rfl (gn rfl) rfl rfl Tryd.underlying59 rfl Tryd.sizeOf59 rfl rfl | exact ev_loadx rfl (gn rfl) rfl Tryd.underlying59 rfl Tryd.sizeOf59 (by assumption) rfl
    simp only [nm2, seval]
    apply VE.cons
    · exact ev_loadx rfl (gn rfl) rfl Tryd.underlying59 rfl Tryd.sizeOf59 (hL.pp) rfl
    simp only [nm2, seval]
    apply VE.cons
    · exact ev_call (v := .bool true) rfl (gn rfl) rfl (en_of Tryd.func52 (by kernel_rfl) rfl) (fun w' hw' => less_t hx h w')
    simp only [nm2, seval]
    apply VE.cons
    · exact ev_not rfl (gn rfl) rfl
    simp only [nm2, seval]
    apply VE.cons
    · exact ev_move rfl (gn rfl)
    simp only [nm2, seval]
    apply VE.cons
    · first | exact Ev.skip (fun _ => rfl) | exact ev_load rfl (fun _ => rfl) rfl rfl Tryd.underlying59 rfl Tryd.sizeOf59 rfl rfl | exact ev_loadx rfl (fun _ => rfl) rfl Tryd.underlying59 rfl Tryd.sizeOf59 (by assumption) rfl
    simp only [nm2, seval]
    apply VE.cons
    · first | exact Ev.skip (fun _ => rfl) | exact ev_loadx rfl (fun _ => rfl) rfl Tryd.underlying59 rfl Tryd.sizeOf59 (hL.pp) rfl
    simp only [nm2, seval]
    apply VE.cons
    · first | exact Ev.skip (fun _ => rfl) | exact ev_call (v := .bool false) rfl (fun _ => rfl) rfl (en_of Tryd.func52 (by kernel_rfl) rfl) (fun w' hw' => less_f hy h2 w')
    simp only [nm2, seval]
    apply VE.cons
    · first | exact Ev.skip (fun _ => rfl) | exact ev_not rfl (fun _ => rfl) rfl
    simp only [nm2, seval]
    apply VE.cons
    · first | exact ev_pick_t rfl (gn rfl) rfl rfl | exact ev_pick_f rfl (gn rfl) rfl rfl
    simp only [nm2, seval]
    exact VE.nil _
  · kernel_rfl
  change VOk _ _ _ _ _
  refine vcond_t rfl ?_
  refine vseq ?_
  apply vrp
  · apply VE.cons
    · exact ev_assign rfl (gn rfl)
    simp only [nm2, seval]
    exact VE.nil _
  · kernel_rfl
  change VOk _ _ _ _ _
  refine vret ?_
  refine post_ret (res1 Tryd.results36 (rv_tmp rfl)) ?_
  intro w' hg
  exact ⟨rfl, hg⟩
theorem on_f {b : Nat} (x y : F) (w : World) (ha : At w b pp) (hL : Laid w) : Calls Tryd.prog 36 #[FV b, PT x.val y.val] w fun e w' => e = .returned (.bool (decide (y * y = (x * x - 3) * x + cb))) ∧ Gw w w' := by
  go_enter Tryd.func36, Tryd.ntmps36
  refine ve_go ?_
  simp only [List.map_cons, List.map_nil]
  refine vseq ?_
  apply vrp
  · apply VE.cons
    · exact ev_box rfl rfl (gn rfl) rfl
    simp only [nm2, seval]
    apply VE.cons
    · exact ev_box rfl rfl (gn rfl) rfl
    simp only [nm2, seval]
    apply VE.cons
    · exact ev_assign rfl (gn rfl)
    simp only [nm2, seval]
    exact VE.nil _
  · kernel_rfl
  change VOk _ _ _ _ _
  refine vseq ?_
  apply vrd (by kernel_rfl)
  · apply VE.cons
    · first | exact ev_field rfl (gn rfl) rfl Tryd.underlying24 rfl Tryd.sizeOf22 | exact ev_fieldx rfl (gn rfl) rfl Tryd.underlying24 rfl Tryd.sizeOf22
    simp only [nm2, seval]
    apply VE.cons
    · first | exact ev_load rfl (gn rfl) rfl rfl Tryd.underlying22 rfl Tryd.sizeOf22 rfl rfl | exact ev_loadx rfl (gn rfl) rfl Tryd.underlying22 rfl Tryd.sizeOf22 (by assumption) rfl
    simp only [nm2, seval]
    apply VE.cons
    · exact ev_call rfl (gn rfl) rfl (en_of Tryd.func40 (by kernel_rfl) rfl) (fun w' hw' => ofF x w')
    simp only [nm2, seval]
    apply VE.cons
    · first | exact ev_field rfl (gn rfl) rfl Tryd.underlying24 rfl Tryd.sizeOf22 | exact ev_fieldx rfl (gn rfl) rfl Tryd.underlying24 rfl Tryd.sizeOf22
    simp only [nm2, seval]
    apply VE.cons
    · first | exact ev_load rfl (gn rfl) rfl rfl Tryd.underlying22 rfl Tryd.sizeOf22 rfl rfl | exact ev_loadx rfl (gn rfl) rfl Tryd.underlying22 rfl Tryd.sizeOf22 (by assumption) rfl
    simp only [nm2, seval]
    apply VE.cons
    · exact ev_call rfl (gn rfl) rfl (en_of Tryd.func40 (by kernel_rfl) rfl) (fun w' hw' => ofF y w')
    simp only [nm2, seval]
    apply VE.cons
    · exact ev_alloc rfl rfl (gn rfl) Tryd.zeroValue59
    simp only [nm2, seval]
    apply VE.cons
    · exact ev_alloc rfl rfl (gn rfl) Tryd.zeroValue59
    simp only [nm2, seval]
    apply VE.cons
    · exact ev_store rfl (gn rfl) rfl rfl rfl Tryd.sizeOf59 rfl (by simp) rfl
    simp only [nm2, seval]
    apply VE.cons
    · exact ev_store rfl (gn rfl) rfl rfl rfl Tryd.sizeOf59 rfl (by simp) rfl
    simp only [nm2, seval]
    exact VE.nil _
  · kernel_rfl
  change VOk _ _ _ _ _
  refine vseq ?_
  refine vseq ?_
  apply vrp
  · apply VE.cons
    · first | exact ev_load rfl (gn rfl) rfl rfl Tryd.underlying59 rfl Tryd.sizeOf59 rfl rfl | exact ev_loadx rfl (gn rfl) rfl Tryd.underlying59 rfl Tryd.sizeOf59 (by assumption) rfl
    simp only [nm2, seval]
    apply VE.cons
    · exact ev_loadx rfl (gn rfl) rfl Tryd.underlying59 rfl Tryd.sizeOf59 (hL.pp) rfl
    simp only [nm2, seval]
    apply VE.cons
    · exact ev_call (v := .bool true) rfl (gn rfl) rfl (en_of Tryd.func52 (by kernel_rfl) rfl) (fun w' hw' => less_t (val_lt x) x.isLt w')
    simp only [nm2, seval]
    apply VE.cons
    · exact ev_not rfl (gn rfl) rfl
    simp only [nm2, seval]
    apply VE.cons
    · exact ev_move rfl (gn rfl)
    simp only [nm2, seval]
    apply VE.cons
    · first | exact Ev.skip (fun _ => rfl) | exact ev_load rfl (fun _ => rfl) rfl rfl Tryd.underlying59 rfl Tryd.sizeOf59 rfl rfl | exact ev_loadx rfl (fun _ => rfl) rfl Tryd.underlying59 rfl Tryd.sizeOf59 (by assumption) rfl
    simp only [nm2, seval]
    apply VE.cons
    · first | exact Ev.skip (fun _ => rfl) | exact ev_loadx rfl (fun _ => rfl) rfl Tryd.underlying59 rfl Tryd.sizeOf59 (hL.pp) rfl
    simp only [nm2, seval]
    apply VE.cons
    · first | exact Ev.skip (fun _ => rfl) | exact ev_call (v := .bool true) rfl (fun _ => rfl) rfl (en_of Tryd.func52 (by kernel_rfl) rfl) (fun w' hw' => less_t (val_lt y) y.isLt w')
    simp only [nm2, seval]
    apply VE.cons
    · first | exact Ev.skip (fun _ => rfl) | exact ev_not rfl (fun _ => rfl) rfl
    simp only [nm2, seval]
    apply VE.cons
    · first | exact ev_pick_t rfl (gn rfl) rfl rfl | exact ev_pick_f rfl (gn rfl) rfl rfl
    simp only [nm2, seval]
    exact VE.nil _
  · kernel_rfl
  change VOk _ _ _ _ _
  refine vcond_f rfl ?_
  refine vskip ?_
  change VOk _ _ _ _ _
  refine vseq ?_
  apply vrd (by kernel_rfl)
  · apply VE.cons
    · first | exact ev_field rfl (gn rfl) rfl Tryd.underlying62 rfl Tryd.sizeOf60 | exact ev_fieldx rfl (gn rfl) rfl Tryd.underlying62 rfl Tryd.sizeOf60
    simp only [nm2, seval]
    apply VE.cons
    · first | exact ev_load1 rfl (gn rfl) rfl rfl Tryd.underlying60 rfl rfl | exact ev_loadx1 rfl (gn rfl) rfl Tryd.underlying60 rfl (by first | assumption | exact hm 0 _ rfl | exact hm 1 _ rfl | exact hm 2 _ rfl | exact hm 3 _ rfl)
    simp only [nm2, seval]
    apply VE.cons
    · first | exact ev_field rfl (gn rfl) rfl Tryd.underlying62 rfl Tryd.sizeOf60 | exact ev_fieldx rfl (gn rfl) rfl Tryd.underlying62 rfl Tryd.sizeOf60
    simp only [nm2, seval]
    apply VE.cons
    · first | exact ev_load1 rfl (gn rfl) rfl rfl Tryd.underlying60 rfl rfl | exact ev_loadx1 rfl (gn rfl) rfl Tryd.underlying60 rfl (by first | assumption | exact hm 0 _ rfl | exact hm 1 _ rfl | exact hm 2 _ rfl | exact hm 3 _ rfl)
    simp only [nm2, seval]
    apply VE.cons
    · first | exact ev_field rfl (gn rfl) rfl Tryd.underlying62 rfl Tryd.sizeOf60 | exact ev_fieldx rfl (gn rfl) rfl Tryd.underlying62 rfl Tryd.sizeOf60
    simp only [nm2, seval]
    apply VE.cons
    · first | exact ev_load1 rfl (gn rfl) rfl rfl Tryd.underlying60 rfl rfl | exact ev_loadx1 rfl (gn rfl) rfl Tryd.underlying60 rfl (by first | assumption | exact hm 0 _ rfl | exact hm 1 _ rfl | exact hm 2 _ rfl | exact hm 3 _ rfl)
    simp only [nm2, seval]
    apply VE.cons
    · first | exact ev_field rfl (gn rfl) rfl Tryd.underlying62 rfl Tryd.sizeOf60 | exact ev_fieldx rfl (gn rfl) rfl Tryd.underlying62 rfl Tryd.sizeOf60
    simp only [nm2, seval]
    apply VE.cons
    · first | exact ev_load1 rfl (gn rfl) rfl rfl Tryd.underlying60 rfl rfl | exact ev_loadx1 rfl (gn rfl) rfl Tryd.underlying60 rfl (by first | assumption | exact hm 0 _ rfl | exact hm 1 _ rfl | exact hm 2 _ rfl | exact hm 3 _ rfl)
    simp only [nm2, seval]
    apply VE.cons
    · first | exact ev_load rfl (gn rfl) rfl rfl Tryd.underlying59 rfl Tryd.sizeOf59 rfl rfl | exact ev_loadx rfl (gn rfl) rfl Tryd.underlying59 rfl Tryd.sizeOf59 (by assumption) rfl
    simp only [nm2, seval]
    apply VE.cons
    · first | exact ev_load rfl (gn rfl) rfl rfl Tryd.underlying59 rfl Tryd.sizeOf59 rfl rfl | exact ev_loadx rfl (gn rfl) rfl Tryd.underlying59 rfl Tryd.sizeOf59 (by assumption) rfl
    simp only [nm2, seval]
    apply VE.cons
    · exact ev_call rfl (gn rfl) rfl (en_of Tryd.func54 (by kernel_rfl) rfl) (fun w' hw' => mulF _ _ w' (ha.gw hw'))
    simp only [nm2, seval]
    apply VE.cons
    · exact ev_build rfl (gn rfl) rfl built59_3
    simp only [nm2, seval]
    apply VE.cons
    · exact ev_call rfl (gn rfl) rfl (en_of Tryd.func55 (by kernel_rfl) rfl) (fun w' hw' => subF3 _ w' (ha.gw hw'))
    simp only [nm2, seval]
    apply VE.cons
    · first | exact ev_load rfl (gn rfl) rfl rfl Tryd.underlying59 rfl Tryd.sizeOf59 rfl rfl | exact ev_loadx rfl (gn rfl) rfl Tryd.underlying59 rfl Tryd.sizeOf59 (by assumption) rfl
    simp only [nm2, seval]
    apply VE.cons
    · exact ev_call rfl (gn rfl) rfl (en_of Tryd.func54 (by kernel_rfl) rfl) (fun w' hw' => mulF _ _ w' (ha.gw hw'))
    simp only [nm2, seval]
    apply VE.cons
    · exact ev_loadx rfl (gn rfl) rfl Tryd.underlying59 rfl Tryd.sizeOf59 (hL.cb) rfl
    simp only [nm2, seval]
    apply VE.cons
    · exact ev_call rfl (gn rfl) rfl (en_of Tryd.func53 (by kernel_rfl) rfl) (fun w' hw' => addF _ cb w' (ha.gw hw'))
    simp only [nm2, seval]
    apply VE.cons
    · exact ev_alloc rfl rfl (gn rfl) Tryd.zeroValue59
    simp only [nm2, seval]
    apply VE.cons
    · exact ev_store rfl (gn rfl) rfl rfl rfl Tryd.sizeOf59 rfl (by simp) rfl
    simp only [nm2, seval]
    exact VE.nil _
  · kernel_rfl
  change VOk _ _ _ _ _
  refine vseq ?_
  apply vrd (by kernel_rfl)
  · apply VE.cons
    · first | exact ev_field rfl (gn rfl) rfl Tryd.underlying62 rfl Tryd.sizeOf60 | exact ev_fieldx rfl (gn rfl) rfl Tryd.underlying62 rfl Tryd.sizeOf60
    simp only [nm2, seval]
    apply VE.cons
    · first | exact ev_load1 rfl (gn rfl) rfl rfl Tryd.underlying60 rfl rfl | exact ev_loadx1 rfl (gn rfl) rfl Tryd.underlying60 rfl (by first | assumption | exact hm 0 _ rfl | exact hm 1 _ rfl | exact hm 2 _ rfl | exact hm 3 _ rfl)
    simp only [nm2, seval]
    apply VE.cons
    · first | exact ev_load rfl (gn rfl) rfl rfl Tryd.underlying59 rfl Tryd.sizeOf59 rfl rfl | exact ev_loadx rfl (gn rfl) rfl Tryd.underlying59 rfl Tryd.sizeOf59 (by assumption) rfl
    simp only [nm2, seval]
    apply VE.cons
    · first | exact ev_load rfl (gn rfl) rfl rfl Tryd.underlying59 rfl Tryd.sizeOf59 rfl rfl | exact ev_loadx rfl (gn rfl) rfl Tryd.underlying59 rfl Tryd.sizeOf59 (by assumption) rfl
    simp only [nm2, seval]
    apply VE.cons
    · exact ev_call rfl (gn rfl) rfl (en_of Tryd.func54 (by kernel_rfl) rfl) (fun w' hw' => mulF _ _ w' (ha.gw hw'))
    simp only [nm2, seval]
    apply VE.cons
    · first | exact ev_load rfl (gn rfl) rfl rfl Tryd.underlying59 rfl Tryd.sizeOf59 rfl rfl | exact ev_loadx rfl (gn rfl) rfl Tryd.underlying59 rfl Tryd.sizeOf59 (by assumption) rfl
    simp only [nm2, seval]
    apply VE.cons
    · exact ev_bin rfl (gn rfl) rfl rfl (fun w => eqF _ _ _ _ w)
    simp only [nm2, seval]
    apply VE.cons
    · exact ev_assign rfl (gn rfl)
    simp only [nm2, seval]
    exact VE.nil _
  · kernel_rfl
  change VOk _ _ _ _ _
  refine vret ?_
  refine post_ret (res1 Tryd.results36 (rv_tmp rfl)) ?_
  intro w' hg
  exact ⟨rfl, hg⟩
theorem lift_no {b : Nat} {x y : Nat} (w : World) (hon : ∀ w', Gw w w' → Calls Tryd.prog 36 #[FV b, PT x y] w' fun e w'' => e = .returned (.bool false) ∧ Gw w' w'') : Calls Tryd.prog 41 #[FV b, PT x y] w fun e w' => e = .returned (TF ⟨0, 0, 0⟩) ∧ Gw w w' := by
  go_enter Tryd.func41, Tryd.ntmps41
  refine ve_go ?_
  simp only [List.map_cons, List.map_nil]
  refine vseq ?_
  apply vrp
  · apply VE.cons
    · exact ev_box rfl rfl (gn rfl) rfl
    simp only [nm2, seval]
    apply VE.cons
    · exact ev_box rfl rfl (gn rfl) rfl
    simp only [nm2, seval]
    apply VE.cons
    · exact ev_alloc rfl rfl (gn rfl) Tryd.zeroValue67
    simp only [nm2, seval]
    exact VE.nil _
  · kernel_rfl
  change VOk _ _ _ _ _
  refine vseq ?_
  refine vseq ?_
  apply vrp
  · apply VE.cons
    · first | exact ev_load rfl (gn rfl) rfl rfl Tryd.underlying62 rfl Tryd.sizeOf62 rfl rfl | exact ev_loadx rfl (gn rfl) rfl Tryd.underlying62 rfl Tryd.sizeOf62 (by assumption) rfl
    simp only [nm2, seval]
    apply VE.cons
    · first | exact ev_load rfl (gn rfl) rfl rfl Tryd.underlying24 rfl Tryd.sizeOf24 rfl rfl | exact ev_loadx rfl (gn rfl) rfl Tryd.underlying24 rfl Tryd.sizeOf24 (by assumption) rfl
    simp only [nm2, seval]
    apply VE.cons
    · exact ev_call rfl (gn rfl) rfl (en_of Tryd.func36 (by kernel_rfl) rfl) (fun w' hw' => hon w' hw')
    simp only [nm2, seval]
    apply VE.cons
    · exact ev_not rfl (gn rfl) rfl
    simp only [nm2, seval]
    exact VE.nil _
  · kernel_rfl
  change VOk _ _ _ _ _
  refine vcond_t rfl ?_
  refine vseq ?_
  apply vrp
  · apply VE.cons
    · exact ev_build rfl (gn rfl) rfl (built67_0)
    simp only [nm2, seval]
    apply VE.cons
    · exact ev_store rfl (gn rfl) rfl rfl rfl Tryd.sizeOf67 rfl (by simp) rfl
    simp only [nm2, seval]
    exact VE.nil _
  · kernel_rfl
  change VOk _ _ _ _ _
  refine vret ?_
  refine post_ret (res1 Tryd.results41 (rv_cell rfl rfl Tryd.underlying67 rfl Tryd.sizeOf67 rfl rfl)) ?_
  intro w' hg
  exact ⟨rfl, hg⟩
theorem lift_yes {b : Nat} (x y : F) (w : World) (hon : ∀ w', Gw w w' → Calls Tryd.prog 36 #[FV b, PT x.val y.val] w' fun e w'' => e = .returned (.bool true) ∧ Gw w' w'') : Calls Tryd.prog 41 #[FV b, PT x.val y.val] w fun e w' => e = .returned (TF ⟨x, y, 1⟩) ∧ Gw w w' := by
  go_enter Tryd.func41, Tryd.ntmps41
  refine ve_go ?_
  simp only [List.map_cons, List.map_nil]
  refine vseq ?_
  apply vrp
  · apply VE.cons
    · exact ev_box rfl rfl (gn rfl) rfl
    simp only [nm2, seval]
    apply VE.cons
    · exact ev_box rfl rfl (gn rfl) rfl
    simp only [nm2, seval]
    apply VE.cons
    · exact ev_alloc rfl rfl (gn rfl) Tryd.zeroValue67
    simp only [nm2, seval]
    exact VE.nil _
  · kernel_rfl
  change VOk _ _ _ _ _
  refine vseq ?_
  refine vseq ?_
  apply vrp
  · apply VE.cons
    · first | exact ev_load rfl (gn rfl) rfl rfl Tryd.underlying62 rfl Tryd.sizeOf62 rfl rfl | exact ev_loadx rfl (gn rfl) rfl Tryd.underlying62 rfl Tryd.sizeOf62 (by assumption) rfl
    simp only [nm2, seval]
    apply VE.cons
    · first | exact ev_load rfl (gn rfl) rfl rfl Tryd.underlying24 rfl Tryd.sizeOf24 rfl rfl | exact ev_loadx rfl (gn rfl) rfl Tryd.underlying24 rfl Tryd.sizeOf24 (by assumption) rfl
    simp only [nm2, seval]
    apply VE.cons
    · exact ev_call rfl (gn rfl) rfl (en_of Tryd.func36 (by kernel_rfl) rfl) (fun w' hw' => hon w' hw')
    simp only [nm2, seval]
    apply VE.cons
    · exact ev_not rfl (gn rfl) rfl
    simp only [nm2, seval]
    exact VE.nil _
  · kernel_rfl
  change VOk _ _ _ _ _
  refine vcond_f rfl ?_
  refine vskip ?_
  change VOk _ _ _ _ _
  refine vseq ?_
  apply vrd (by kernel_rfl)
  · apply VE.cons
    · first | exact ev_field rfl (gn rfl) rfl Tryd.underlying24 rfl Tryd.sizeOf22 | exact ev_fieldx rfl (gn rfl) rfl Tryd.underlying24 rfl Tryd.sizeOf22
    simp only [nm2, seval]
    apply VE.cons
    · first | exact ev_load rfl (gn rfl) rfl rfl Tryd.underlying22 rfl Tryd.sizeOf22 rfl rfl | exact ev_loadx rfl (gn rfl) rfl Tryd.underlying22 rfl Tryd.sizeOf22 (by assumption) rfl
    simp only [nm2, seval]
    apply VE.cons
    · exact ev_call rfl (gn rfl) rfl (en_of Tryd.func40 (by kernel_rfl) rfl) (fun w' hw' => ofF x w')
    simp only [nm2, seval]
    apply VE.cons
    · first | exact ev_field rfl (gn rfl) rfl Tryd.underlying24 rfl Tryd.sizeOf22 | exact ev_fieldx rfl (gn rfl) rfl Tryd.underlying24 rfl Tryd.sizeOf22
    simp only [nm2, seval]
    apply VE.cons
    · first | exact ev_load rfl (gn rfl) rfl rfl Tryd.underlying22 rfl Tryd.sizeOf22 rfl rfl | exact ev_loadx rfl (gn rfl) rfl Tryd.underlying22 rfl Tryd.sizeOf22 (by assumption) rfl
    simp only [nm2, seval]
    apply VE.cons
    · exact ev_call rfl (gn rfl) rfl (en_of Tryd.func40 (by kernel_rfl) rfl) (fun w' hw' => ofF y w')
    simp only [nm2, seval]
    apply VE.cons
    · exact ev_build rfl (gn rfl) rfl built59_1
    simp only [nm2, seval]
    apply VE.cons
    · exact ev_build rfl (gn rfl) rfl (built67_1 _ _)
    simp only [nm2, seval]
    apply VE.cons
    · exact ev_store rfl (gn rfl) rfl rfl rfl Tryd.sizeOf67 rfl (by simp) rfl
    simp only [nm2, seval]
    exact VE.nil _
  · kernel_rfl
  change VOk _ _ _ _ _
  refine vret ?_
  refine post_ret (res1 Tryd.results41 (rv_cell rfl rfl Tryd.underlying67 rfl Tryd.sizeOf67 rfl rfl)) ?_
  intro w' hg
  exact ⟨rfl, hg⟩
theorem drop_inf {b : Nat} (x y : F) (w : World) (ha : At w b pp) : Calls Tryd.prog 45 #[FV b, TF ⟨x, y, 0⟩] w fun e w' => e = .returned (PT 0 0) ∧ Gw w w' := by
  go_enter Tryd.func45, Tryd.ntmps45
  refine ve_go ?_
  simp only [List.map_cons, List.map_nil]
  refine vseq ?_
  apply vrp
  · apply VE.cons
    · exact ev_box rfl rfl (gn rfl) rfl
    simp only [nm2, seval]
    apply VE.cons
    · exact ev_box rfl rfl (gn rfl) rfl
    simp only [nm2, seval]
    apply VE.cons
    · exact ev_alloc rfl rfl (gn rfl) Tryd.zeroValue24
    simp only [nm2, seval]
    exact VE.nil _
  · kernel_rfl
  change VOk _ _ _ _ _
  refine vseq ?_
  apply vrp
  · apply VE.cons
    · first | exact ev_field rfl (gn rfl) rfl Tryd.underlying62 rfl Tryd.sizeOf60 | exact ev_fieldx rfl (gn rfl) rfl Tryd.underlying62 rfl Tryd.sizeOf60
    simp only [nm2, seval]
    apply VE.cons
    · first | exact ev_load1 rfl (gn rfl) rfl rfl Tryd.underlying60 rfl rfl | exact ev_loadx1 rfl (gn rfl) rfl Tryd.underlying60 rfl (by first | assumption | exact hm 0 _ rfl | exact hm 1 _ rfl | exact hm 2 _ rfl | exact hm 3 _ rfl)
    simp only [nm2, seval]
    apply VE.cons
    · first | exact ev_field rfl (gn rfl) rfl Tryd.underlying67 rfl Tryd.sizeOf59 | exact ev_fieldx rfl (gn rfl) rfl Tryd.underlying67 rfl Tryd.sizeOf59
    simp only [nm2, seval]
    apply VE.cons
    · first | exact ev_load rfl (gn rfl) rfl rfl Tryd.underlying59 rfl Tryd.sizeOf59 rfl rfl | exact ev_loadx rfl (gn rfl) rfl Tryd.underlying59 rfl Tryd.sizeOf59 (by assumption) rfl
    simp only [nm2, seval]
    apply VE.cons
    · exact ev_call rfl (gn rfl) rfl (en_of Tryd.func58 (by kernel_rfl) rfl) (fun w' hw' => invF_no w' (ha.gw hw'))
    simp only [nm2, seval]
    apply VE.cons
    · exact ev_move rfl (gn rfl)
    simp only [nm2, seval]
    apply VE.cons
    · exact ev_extract rfl (gn rfl) rfl rfl
    simp only [nm2, seval]
    apply VE.cons
    · exact ev_extract rfl (gn rfl) rfl rfl
    simp only [nm2, seval]
    apply VE.cons
    · exact ev_alloc rfl rfl (gn rfl) Tryd.zeroValue59
    simp only [nm2, seval]
    apply VE.cons
    · exact ev_store rfl (gn rfl) rfl rfl rfl Tryd.sizeOf59 rfl (by simp) rfl
    simp only [nm2, seval]
    apply VE.cons
    · exact ev_assign rfl (gn rfl)
    simp only [nm2, seval]
    exact VE.nil _
  · kernel_rfl
  change VOk _ _ _ _ _
  refine vseq ?_
  refine vseq ?_
  apply vrp
  · apply VE.cons
    · exact ev_move rfl (gn rfl)
    simp only [nm2, seval]
    apply VE.cons
    · refine ev_pure' (gn rfl) (fun ρ w => by simp only [VS.act, SV.c, List.map_cons, List.map_nil]; go_simp; exact rfl) (fun _ _ => rfl)
    simp only [nm2, seval]
    exact VE.nil _
  · kernel_rfl
  change VOk _ _ _ _ _
  refine vcond_t rfl ?_
  refine vseq ?_
  apply vrp
  · apply VE.cons
    · exact ev_build rfl (gn rfl) rfl (built24_0)
    simp only [nm2, seval]
    apply VE.cons
    · exact ev_store rfl (gn rfl) rfl rfl rfl Tryd.sizeOf24 rfl (by simp) rfl
    simp only [nm2, seval]
    exact VE.nil _
  · kernel_rfl
  change VOk _ _ _ _ _
  refine vret ?_
  refine post_ret (res1 Tryd.results45 (rv_cell rfl rfl Tryd.underlying24 rfl Tryd.sizeOf24 rfl rfl)) ?_
  intro w' hg
  exact ⟨rfl, hg⟩
theorem drop_aff {b : Nat} (x y z i ii u v iii : F) (w : World) (ha : At w b pp) (hi : z * i = 1) (e1 : i * i = ii) (e2 : x * ii = u) (e3 : i * ii = iii) (e4 : y * iii = v) : Calls Tryd.prog 45 #[FV b, TF ⟨x, y, z⟩] w fun e w' => e = .returned (PT u.val v.val) ∧ Gw w w' := by
  go_enter Tryd.func45, Tryd.ntmps45
  refine ve_go ?_
  simp only [List.map_cons, List.map_nil]
  refine vseq ?_
  apply vrp
  · apply VE.cons
    · exact ev_box rfl rfl (gn rfl) rfl
    simp only [nm2, seval]
    apply VE.cons
    · exact ev_box rfl rfl (gn rfl) rfl
    simp only [nm2, seval]
    apply VE.cons
    · exact ev_alloc rfl rfl (gn rfl) Tryd.zeroValue24
    simp only [nm2, seval]
    exact VE.nil _
  · kernel_rfl
  change VOk _ _ _ _ _
  refine vseq ?_
  apply vrp
  · apply VE.cons
    · first | exact ev_field rfl (gn rfl) rfl Tryd.underlying62 rfl Tryd.sizeOf60 | exact ev_fieldx rfl (gn rfl) rfl Tryd.underlying62 rfl Tryd.sizeOf60
    simp only [nm2, seval]
    apply VE.cons
    · first | exact ev_load1 rfl (gn rfl) rfl rfl Tryd.underlying60 rfl rfl | exact ev_loadx1 rfl (gn rfl) rfl Tryd.underlying60 rfl (by first | assumption | exact hm 0 _ rfl | exact hm 1 _ rfl | exact hm 2 _ rfl | exact hm 3 _ rfl)
    simp only [nm2, seval]
    apply VE.cons
    · first | exact ev_field rfl (gn rfl) rfl Tryd.underlying67 rfl Tryd.sizeOf59 | exact ev_fieldx rfl (gn rfl) rfl Tryd.underlying67 rfl Tryd.sizeOf59
    simp only [nm2, seval]
    apply VE.cons
    · first | exact ev_load rfl (gn rfl) rfl rfl Tryd.underlying59 rfl Tryd.sizeOf59 rfl rfl | exact ev_loadx rfl (gn rfl) rfl Tryd.underlying59 rfl Tryd.sizeOf59 (by assumption) rfl
    simp only [nm2, seval]
    apply VE.cons
    · exact ev_call rfl (gn rfl) rfl (en_of Tryd.func58 (by kernel_rfl) rfl) (fun w' hw' => invF_ok hi w' (ha.gw hw'))
    simp only [nm2, seval]
    apply VE.cons
    · exact ev_move rfl (gn rfl)
    simp only [nm2, seval]
    apply VE.cons
    · exact ev_extract rfl (gn rfl) rfl rfl
    simp only [nm2, seval]
    apply VE.cons
    · exact ev_extract rfl (gn rfl) rfl rfl
    simp only [nm2, seval]
    apply VE.cons
    · exact ev_alloc rfl rfl (gn rfl) Tryd.zeroValue59
    simp only [nm2, seval]
    apply VE.cons
    · exact ev_store rfl (gn rfl) rfl rfl rfl Tryd.sizeOf59 rfl (by simp) rfl
    simp only [nm2, seval]
    apply VE.cons
    · exact ev_assign rfl (gn rfl)
    simp only [nm2, seval]
    exact VE.nil _
  · kernel_rfl
  change VOk _ _ _ _ _
  refine vseq ?_
  refine vseq ?_
  apply vrp
  · apply VE.cons
    · exact ev_move rfl (gn rfl)
    simp only [nm2, seval]
    apply VE.cons
    · refine ev_pure' (gn rfl) (fun ρ w => by simp only [VS.act, SV.c, List.map_cons, List.map_nil]; go_simp; exact rfl) (fun _ _ => rfl)
    simp only [nm2, seval]
    exact VE.nil _
  · kernel_rfl
  change VOk _ _ _ _ _
  refine vcond_f rfl ?_
  refine vskip ?_
  change VOk _ _ _ _ _
  refine vseq ?_
  apply vrp
  · apply VE.cons
    · first | exact ev_field rfl (gn rfl) rfl Tryd.underlying62 rfl Tryd.sizeOf60 | exact ev_fieldx rfl (gn rfl) rfl Tryd.underlying62 rfl Tryd.sizeOf60
    simp only [nm2, seval]
    apply VE.cons
    · first | exact ev_load1 rfl (gn rfl) rfl rfl Tryd.underlying60 rfl rfl | exact ev_loadx1 rfl (gn rfl) rfl Tryd.underlying60 rfl (by first | assumption | exact hm 0 _ rfl | exact hm 1 _ rfl | exact hm 2 _ rfl | exact hm 3 _ rfl)
    simp only [nm2, seval]
    apply VE.cons
    · first | exact ev_load rfl (gn rfl) rfl rfl Tryd.underlying59 rfl Tryd.sizeOf59 rfl rfl | exact ev_loadx rfl (gn rfl) rfl Tryd.underlying59 rfl Tryd.sizeOf59 (by assumption) rfl
    simp only [nm2, seval]
    apply VE.cons
    · first | exact ev_load rfl (gn rfl) rfl rfl Tryd.underlying59 rfl Tryd.sizeOf59 rfl rfl | exact ev_loadx rfl (gn rfl) rfl Tryd.underlying59 rfl Tryd.sizeOf59 (by assumption) rfl
    simp only [nm2, seval]
    apply VE.cons
    · exact ev_call rfl (gn rfl) rfl (en_of Tryd.func54 (by kernel_rfl) rfl) (fun w' hw' => mulE e1 w' (ha.gw hw'))
    simp only [nm2, seval]
    apply VE.cons
    · exact ev_alloc rfl rfl (gn rfl) Tryd.zeroValue59
    simp only [nm2, seval]
    apply VE.cons
    · exact ev_store rfl (gn rfl) rfl rfl rfl Tryd.sizeOf59 rfl (by simp) rfl
    simp only [nm2, seval]
    exact VE.nil _
  · kernel_rfl
  change VOk _ _ _ _ _
  refine vseq ?_
  apply vrd (by kernel_rfl)
  · apply VE.cons
    · first | exact ev_field rfl (gn rfl) rfl Tryd.underlying62 rfl Tryd.sizeOf60 | exact ev_fieldx rfl (gn rfl) rfl Tryd.underlying62 rfl Tryd.sizeOf60
    simp only [nm2, seval]
    apply VE.cons
    · first | exact ev_load1 rfl (gn rfl) rfl rfl Tryd.underlying60 rfl rfl | exact ev_loadx1 rfl (gn rfl) rfl Tryd.underlying60 rfl (by first | assumption | exact hm 0 _ rfl | exact hm 1 _ rfl | exact hm 2 _ rfl | exact hm 3 _ rfl)
    simp only [nm2, seval]
    apply VE.cons
    · first | exact ev_field rfl (gn rfl) rfl Tryd.underlying67 rfl Tryd.sizeOf59 | exact ev_fieldx rfl (gn rfl) rfl Tryd.underlying67 rfl Tryd.sizeOf59
    simp only [nm2, seval]
    apply VE.cons
    · first | exact ev_load rfl (gn rfl) rfl rfl Tryd.underlying59 rfl Tryd.sizeOf59 rfl rfl | exact ev_loadx rfl (gn rfl) rfl Tryd.underlying59 rfl Tryd.sizeOf59 (by assumption) rfl
    simp only [nm2, seval]
    apply VE.cons
    · first | exact ev_load rfl (gn rfl) rfl rfl Tryd.underlying59 rfl Tryd.sizeOf59 rfl rfl | exact ev_loadx rfl (gn rfl) rfl Tryd.underlying59 rfl Tryd.sizeOf59 (by assumption) rfl
    simp only [nm2, seval]
    apply VE.cons
    · exact ev_call rfl (gn rfl) rfl (en_of Tryd.func54 (by kernel_rfl) rfl) (fun w' hw' => mulE e2 w' (ha.gw hw'))
    simp only [nm2, seval]
    apply VE.cons
    · exact ev_call rfl (gn rfl) rfl (en_of Tryd.func34 (by kernel_rfl) rfl) (fun w' hw' => bytesF _ w')
    simp only [nm2, seval]
    apply VE.cons
    · first | exact ev_field rfl (gn rfl) rfl Tryd.underlying62 rfl Tryd.sizeOf60 | exact ev_fieldx rfl (gn rfl) rfl Tryd.underlying62 rfl Tryd.sizeOf60
    simp only [nm2, seval]
    apply VE.cons
    · first | exact ev_load1 rfl (gn rfl) rfl rfl Tryd.underlying60 rfl rfl | exact ev_loadx1 rfl (gn rfl) rfl Tryd.underlying60 rfl (by first | assumption | exact hm 0 _ rfl | exact hm 1 _ rfl | exact hm 2 _ rfl | exact hm 3 _ rfl)
    simp only [nm2, seval]
    apply VE.cons
    · first | exact ev_field rfl (gn rfl) rfl Tryd.underlying67 rfl Tryd.sizeOf59 | exact ev_fieldx rfl (gn rfl) rfl Tryd.underlying67 rfl Tryd.sizeOf59
    simp only [nm2, seval]
    apply VE.cons
    · first | exact ev_load rfl (gn rfl) rfl rfl Tryd.underlying59 rfl Tryd.sizeOf59 rfl rfl | exact ev_loadx rfl (gn rfl) rfl Tryd.underlying59 rfl Tryd.sizeOf59 (by assumption) rfl
    simp only [nm2, seval]
    apply VE.cons
    · first | exact ev_field rfl (gn rfl) rfl Tryd.underlying62 rfl Tryd.sizeOf60 | exact ev_fieldx rfl (gn rfl) rfl Tryd.underlying62 rfl Tryd.sizeOf60
    simp only [nm2, seval]
    apply VE.cons
    · first | exact ev_load1 rfl (gn rfl) rfl rfl Tryd.underlying60 rfl rfl | exact ev_loadx1 rfl (gn rfl) rfl Tryd.underlying60 rfl (by first | assumption | exact hm 0 _ rfl | exact hm 1 _ rfl | exact hm 2 _ rfl | exact hm 3 _ rfl)
    simp only [nm2, seval]
    apply VE.cons
    · first | exact ev_load rfl (gn rfl) rfl rfl Tryd.underlying59 rfl Tryd.sizeOf59 rfl rfl | exact ev_loadx rfl (gn rfl) rfl Tryd.underlying59 rfl Tryd.sizeOf59 (by assumption) rfl
    simp only [nm2, seval]
    apply VE.cons
    · first | exact ev_load rfl (gn rfl) rfl rfl Tryd.underlying59 rfl Tryd.sizeOf59 rfl rfl | exact ev_loadx rfl (gn rfl) rfl Tryd.underlying59 rfl Tryd.sizeOf59 (by assumption) rfl
    simp only [nm2, seval]
    apply VE.cons
    · exact ev_call rfl (gn rfl) rfl (en_of Tryd.func54 (by kernel_rfl) rfl) (fun w' hw' => mulE e3 w' (ha.gw hw'))
    simp only [nm2, seval]
    apply VE.cons
    · exact ev_call rfl (gn rfl) rfl (en_of Tryd.func54 (by kernel_rfl) rfl) (fun w' hw' => mulE e4 w' (ha.gw hw'))
    simp only [nm2, seval]
    apply VE.cons
    · exact ev_call rfl (gn rfl) rfl (en_of Tryd.func34 (by kernel_rfl) rfl) (fun w' hw' => bytesF _ w')
    simp only [nm2, seval]
    apply VE.cons
    · exact ev_build rfl (gn rfl) rfl (built24_2 _ _)
    simp only [nm2, seval]
    apply VE.cons
    · exact ev_store rfl (gn rfl) rfl rfl rfl Tryd.sizeOf24 rfl (by simp) rfl
    simp only [nm2, seval]
    exact VE.nil _
  · kernel_rfl
  change VOk _ _ _ _ _
  refine vret ?_
  refine post_ret (res1 Tryd.results45 (rv_cell rfl rfl Tryd.underlying24 rfl Tryd.sizeOf24 rfl rfl)) ?_
  intro w' hg
  exact ⟨rfl, hg⟩
theorem newField_ok (w : World) (hL : Laid w) : Calls Tryd.prog 35 #[] w fun e w' => ∃ g, w.heap.size ≤ g ∧ e = .returned (.agg #[.pointer (some ⟨g, 0, none⟩)]) ∧ w'.heap[g]? = some (.cells (modc pp).toArray 83 (0, 0)) ∧ Gw w w' := by
  go_enter Tryd.func35, Tryd.ntmps35
  refine ve_go ?_
  simp only [List.map_cons, List.map_nil]
  refine vseq ?_
  apply vrp
  · apply VE.cons
    · exact ev_alloc rfl rfl (gn rfl) Tryd.zeroValue62
    simp only [nm2, seval]
    exact VE.nil _
  · kernel_rfl
  change VOk _ _ _ _ _
  refine vseq ?_
  apply vrp
  · apply VE.cons
    · exact ev_loadx rfl (gn rfl) rfl Tryd.underlying59 rfl Tryd.sizeOf59 (hL.pp) rfl
    simp only [nm2, seval]
    apply VE.cons
    · exact ev_callnew rfl rfl (gn rfl) rfl (en_of Tryd.func51 (by kernel_rfl) rfl) (modc pp) 83 (fun w' _ => new_ok mdp w')
    simp only [nm2, seval]
    apply VE.cons
    · exact ev_move rfl (gn rfl)
    simp only [nm2, seval]
    apply VE.cons
    · exact ev_extract_p rfl (gn rfl) rfl
    simp only [nm2, seval]
    apply VE.cons
    · exact ev_extract_y rfl (gn rfl) rfl
    simp only [nm2, seval]
    apply VE.cons
    · exact ev_assign rfl (gn rfl)
    simp only [nm2, seval]
    apply VE.cons
    · exact ev_assign rfl (gn rfl)
    simp only [nm2, seval]
    exact VE.nil _
  · kernel_rfl
  change VOk _ _ _ _ _
  refine vseq ?_
  apply vrp
  · apply VE.cons
    · exact ev_move rfl (gn rfl)
    simp only [nm2, seval]
    apply VE.cons
    · exact ev_buildap rfl (gn rfl) rfl (fun g => built62 g)
    simp only [nm2, seval]
    apply VE.cons
    · exact ev_storeap rfl (gn rfl) rfl rfl rfl Tryd.sizeOf62 (by simp)
    simp only [nm2, seval]
    exact VE.nil _
  · kernel_rfl
  change VOk _ _ _ _ _
  refine vret ?_
  refine post_newf (id := 5) Tryd.results35 rfl rfl Tryd.underlying62 rfl Tryd.sizeOf62 rfl rfl (unV_map _) ?_
  intro g w' h1 h2 h3
  exact ⟨g, h1, rfl, h2, h3⟩
theorem base_ok (w : World) (hL : Laid w) : Calls Tryd.prog 10 #[] w fun e w' => e = .returned (PT TollEc.bx.val TollEc.bY.val) ∧ Gw w w' := by
  go_enter Tryd.func10, Tryd.ntmps10
  refine ve_go ?_
  simp only [List.map_cons, List.map_nil]
  refine vseq ?_
  apply vrp
  · apply VE.cons
    · exact ev_alloc rfl rfl (gn rfl) Tryd.zeroValue24
    simp only [nm2, seval]
    exact VE.nil _
  · kernel_rfl
  change VOk _ _ _ _ _
  refine vseq ?_
  apply vrd (by kernel_rfl)
  · apply VE.cons
    · exact ev_loadx rfl (gn rfl) rfl Tryd.underlying59 rfl Tryd.sizeOf59 (hL.bx) rfl
    simp only [nm2, seval]
    apply VE.cons
    · exact ev_call rfl (gn rfl) rfl (en_of Tryd.func34 (by kernel_rfl) rfl) (fun w' hw' => bytesF TollEc.bx w')
    simp only [nm2, seval]
    apply VE.cons
    · exact ev_loadx rfl (gn rfl) rfl Tryd.underlying59 rfl Tryd.sizeOf59 (hL.bY) rfl
    simp only [nm2, seval]
    apply VE.cons
    · exact ev_call rfl (gn rfl) rfl (en_of Tryd.func34 (by kernel_rfl) rfl) (fun w' hw' => bytesF TollEc.bY w')
    simp only [nm2, seval]
    apply VE.cons
    · exact ev_build rfl (gn rfl) rfl (built24_2 _ _)
    simp only [nm2, seval]
    apply VE.cons
    · exact ev_store rfl (gn rfl) rfl rfl rfl Tryd.sizeOf24 rfl (by simp) rfl
    simp only [nm2, seval]
    exact VE.nil _
  · kernel_rfl
  change VOk _ _ _ _ _
  refine vret ?_
  refine post_ret (res1 Tryd.results10 (rv_cell rfl rfl Tryd.underlying24 rfl Tryd.sizeOf24 rfl rfl)) ?_
  intro w' hg
  exact ⟨rfl, hg⟩
theorem order_ok (w : World) (hL : Laid w) : Calls Tryd.prog 15 #[] w fun e w' => e = .returned (B32 TollEc.nn) ∧ Gw w w' := by
  go_enter Tryd.func15, Tryd.ntmps15
  refine ve_go ?_
  simp only [List.map_cons, List.map_nil]
  refine vseq ?_
  apply vrp
  · apply VE.cons
    · exact ev_alloc rfl rfl (gn rfl) Tryd.zeroValue22
    simp only [nm2, seval]
    exact VE.nil _
  · kernel_rfl
  change VOk _ _ _ _ _
  refine vseq ?_
  apply vrp
  · apply VE.cons
    · exact ev_loadx rfl (gn rfl) rfl Tryd.underlying59 rfl Tryd.sizeOf59 (hL.nn) rfl
    simp only [nm2, seval]
    apply VE.cons
    · exact ev_call rfl (gn rfl) rfl (en_of Tryd.func34 (by kernel_rfl) rfl) (fun w' hw' => bytesN TollEc.nn w')
    simp only [nm2, seval]
    apply VE.cons
    · exact ev_store rfl (gn rfl) rfl rfl rfl Tryd.sizeOf22 rfl (by simp) rfl
    simp only [nm2, seval]
    exact VE.nil _
  · kernel_rfl
  change VOk _ _ _ _ _
  refine vret ?_
  refine post_ret (res1 Tryd.results15 (rv_cell rfl rfl Tryd.underlying22 rfl Tryd.sizeOf22 rfl rfl)) ?_
  intro w' hg
  exact ⟨rfl, hg⟩
end Go.Proofs.YtbnfanmolphliaaDoor
