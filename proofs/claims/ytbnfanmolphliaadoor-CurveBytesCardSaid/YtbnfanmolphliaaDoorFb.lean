import Derived.Test.YtbnfanmolphliaaDoorFa
import Derived.Test.YtbnfanmolphliaaDoorVp
namespace Go.Proofs.YtbnfanmolphliaaDoor
open Go.RowKit Go.Toll TollMont
open TollEc (F pp cb Jp Pt)
set_option maxHeartbeats 4000000
set_option maxRecDepth 100000
theorem twice_ok {b : Nat} (x : F) (w : World) (ha : At w b pp) : Calls Tryd.prog 57 #[FV b, NF x] w fun e w' => e = .returned (NF (x + x)) ∧ Gw w w' := by
  go_enter Tryd.func57, Tryd.ntmps57
  refine ve_go ?_
  simp only [List.map_cons, List.map_nil]
  refine vseq ?_
  apply vrp
  · apply VE.cons
    · exact ev_box rfl rfl (gn rfl) rfl
    simp only [nm2, seval]
    apply VE.cons
    · exact ev_box rfl rfl (gn rfl) rfl
    simp only [nm2, seval]
    apply VE.cons
    · exact ev_alloc rfl rfl (gn rfl) Tryd.zeroValue59
    simp only [nm2, seval]
    exact VE.nil _
  · kernel_rfl
  change VOk _ _ _ _ _
  refine vseq ?_
  apply vrp
  · apply VE.cons
    · first | exact ev_field rfl (gn rfl) rfl Tryd.underlying62 rfl Tryd.sizeOf60 | exact ev_fieldx rfl (gn rfl) rfl Tryd.underlying62 rfl Tryd.sizeOf60
    simp only [nm2, seval]
    apply VE.cons
    · first | exact ev_load1 rfl (gn rfl) rfl rfl Tryd.underlying60 rfl rfl | exact ev_loadx1 rfl (gn rfl) rfl Tryd.underlying60 rfl (by first | assumption | exact hm 0 _ rfl | exact hm 1 _ rfl | exact hm 2 _ rfl | exact hm 3 _ rfl)
    simp only [nm2, seval]
    apply VE.cons
    · first | exact ev_load rfl (gn rfl) rfl rfl Tryd.underlying59 rfl Tryd.sizeOf59 rfl rfl | exact ev_loadx rfl (gn rfl) rfl Tryd.underlying59 rfl Tryd.sizeOf59 (by assumption) rfl
    simp only [nm2, seval]
    apply VE.cons
    · first | exact ev_load rfl (gn rfl) rfl rfl Tryd.underlying59 rfl Tryd.sizeOf59 rfl rfl | exact ev_loadx rfl (gn rfl) rfl Tryd.underlying59 rfl Tryd.sizeOf59 (by assumption) rfl
    simp only [nm2, seval]
    apply VE.cons
    · exact ev_call rfl (gn rfl) rfl (en_of Tryd.func53 (by kernel_rfl) rfl) (fun w' hw' => addF _ _ w' (ha.gw hw'))
    simp only [nm2, seval]
    apply VE.cons
    · exact ev_store rfl (gn rfl) rfl rfl rfl Tryd.sizeOf59 rfl (by simp) rfl
    simp only [nm2, seval]
    exact VE.nil _
  · kernel_rfl
  change VOk _ _ _ _ _
  refine vret ?_
  refine post_ret (res1 Tryd.results57 (rv_cell rfl rfl Tryd.underlying59 rfl Tryd.sizeOf59 rfl rfl)) ?_
  intro w' hg
  exact ⟨rfl, hg⟩
theorem thrice_ok {b : Nat} (x : F) (w : World) (ha : At w b pp) : Calls Tryd.prog 56 #[FV b, NF x] w fun e w' => e = .returned (NF (x + x + x)) ∧ Gw w w' := by
  go_enter Tryd.func56, Tryd.ntmps56
  refine ve_go ?_
  simp only [List.map_cons, List.map_nil]
  refine vseq ?_
  apply vrp
  · apply VE.cons
    · exact ev_box rfl rfl (gn rfl) rfl
    simp only [nm2, seval]
    apply VE.cons
    · exact ev_box rfl rfl (gn rfl) rfl
    simp only [nm2, seval]
    apply VE.cons
    · exact ev_alloc rfl rfl (gn rfl) Tryd.zeroValue59
    simp only [nm2, seval]
    exact VE.nil _
  · kernel_rfl
  change VOk _ _ _ _ _
  refine vseq ?_
  apply vrd (by kernel_rfl)
  · apply VE.cons
    · first | exact ev_field rfl (gn rfl) rfl Tryd.underlying62 rfl Tryd.sizeOf60 | exact ev_fieldx rfl (gn rfl) rfl Tryd.underlying62 rfl Tryd.sizeOf60
    simp only [nm2, seval]
    apply VE.cons
    · first | exact ev_load1 rfl (gn rfl) rfl rfl Tryd.underlying60 rfl rfl | exact ev_loadx1 rfl (gn rfl) rfl Tryd.underlying60 rfl (by first | assumption | exact hm 0 _ rfl | exact hm 1 _ rfl | exact hm 2 _ rfl | exact hm 3 _ rfl)
    simp only [nm2, seval]
    apply VE.cons
    · first | exact ev_field rfl (gn rfl) rfl Tryd.underlying62 rfl Tryd.sizeOf60 | exact ev_fieldx rfl (gn rfl) rfl Tryd.underlying62 rfl Tryd.sizeOf60
    simp only [nm2, seval]
    apply VE.cons
    · first | exact ev_load1 rfl (gn rfl) rfl rfl Tryd.underlying60 rfl rfl | exact ev_loadx1 rfl (gn rfl) rfl Tryd.underlying60 rfl (by first | assumption | exact hm 0 _ rfl | exact hm 1 _ rfl | exact hm 2 _ rfl | exact hm 3 _ rfl)
    simp only [nm2, seval]
    apply VE.cons
    · first | exact ev_load rfl (gn rfl) rfl rfl Tryd.underlying59 rfl Tryd.sizeOf59 rfl rfl | exact ev_loadx rfl (gn rfl) rfl Tryd.underlying59 rfl Tryd.sizeOf59 (by assumption) rfl
    simp only [nm2, seval]
    apply VE.cons
    · first | exact ev_load rfl (gn rfl) rfl rfl Tryd.underlying59 rfl Tryd.sizeOf59 rfl rfl | exact ev_loadx rfl (gn rfl) rfl Tryd.underlying59 rfl Tryd.sizeOf59 (by assumption) rfl
    simp only [nm2, seval]
    apply VE.cons
    · exact ev_call rfl (gn rfl) rfl (en_of Tryd.func53 (by kernel_rfl) rfl) (fun w' hw' => addF _ _ w' (ha.gw hw'))
    simp only [nm2, seval]
    apply VE.cons
    · first | exact ev_load rfl (gn rfl) rfl rfl Tryd.underlying59 rfl Tryd.sizeOf59 rfl rfl | exact ev_loadx rfl (gn rfl) rfl Tryd.underlying59 rfl Tryd.sizeOf59 (by assumption) rfl
    simp only [nm2, seval]
    apply VE.cons
    · exact ev_call rfl (gn rfl) rfl (en_of Tryd.func53 (by kernel_rfl) rfl) (fun w' hw' => addF _ _ w' (ha.gw hw'))
    simp only [nm2, seval]
    apply VE.cons
    · exact ev_store rfl (gn rfl) rfl rfl rfl Tryd.sizeOf59 rfl (by simp) rfl
    simp only [nm2, seval]
    exact VE.nil _
  · kernel_rfl
  change VOk _ _ _ _ _
  refine vret ?_
  refine post_ret (res1 Tryd.results56 (rv_cell rfl rfl Tryd.underlying59 rfl Tryd.sizeOf59 rfl rfl)) ?_
  intro w' hg
  exact ⟨rfl, hg⟩
theorem double_z {b : Nat} (p : Jp) (w : World) (_ha : At w b pp) (hz : p.z = 0) : Calls Tryd.prog 42 #[FV b, TF p] w fun e w' => e = .returned (TF ⟨0, 0, 0⟩) ∧ Gw w w' := by
  go_enter Tryd.func42, Tryd.ntmps42
  refine ve_go ?_
  simp only [List.map_cons, List.map_nil]
  refine vseq ?_
  apply vrp
  · apply VE.cons
    · exact ev_box rfl rfl (gn rfl) rfl
    simp only [nm2, seval]
    apply VE.cons
    · exact ev_box rfl rfl (gn rfl) rfl
    simp only [nm2, seval]
    apply VE.cons
    · exact ev_alloc rfl rfl (gn rfl) Tryd.zeroValue67
    simp only [nm2, seval]
    exact VE.nil _
  · kernel_rfl
  change VOk _ _ _ _ _
  refine vseq ?_
  refine vseq ?_
  apply vrp
  · apply VE.cons
    · first | exact ev_field rfl (gn rfl) rfl Tryd.underlying67 rfl Tryd.sizeOf59 | exact ev_fieldx rfl (gn rfl) rfl Tryd.underlying67 rfl Tryd.sizeOf59
    simp only [nm2, seval]
    apply VE.cons
    · first | exact ev_load rfl (gn rfl) rfl rfl Tryd.underlying59 rfl Tryd.sizeOf59 rfl rfl | exact ev_loadx rfl (gn rfl) rfl Tryd.underlying59 rfl Tryd.sizeOf59 (by assumption) rfl
    simp only [nm2, seval]
    apply VE.cons
    · exact ev_build rfl (gn rfl) rfl (built59_0)
    simp only [nm2, seval]
    apply VE.cons
    · exact ev_bin rfl (gn rfl) rfl rfl (fun w => zeq_t hz _ _ w)
    simp only [nm2, seval]
    apply VE.cons
    · exact ev_move rfl (gn rfl)
    simp only [nm2, seval]
    apply VE.cons
    · first | exact Ev.skip (fun _ => rfl) | exact ev_field rfl (fun _ => rfl) rfl Tryd.underlying67 rfl Tryd.sizeOf59 | exact ev_fieldx rfl (fun _ => rfl) rfl Tryd.underlying67 rfl Tryd.sizeOf59
    simp only [nm2, seval]
    apply VE.cons
    · first | exact Ev.skip (fun _ => rfl) | exact ev_load rfl (fun _ => rfl) rfl rfl Tryd.underlying59 rfl Tryd.sizeOf59 rfl rfl | exact ev_loadx rfl (fun _ => rfl) rfl Tryd.underlying59 rfl Tryd.sizeOf59 (by assumption) rfl
    simp only [nm2, seval]
    apply VE.cons
    · first | exact Ev.skip (fun _ => rfl) | exact ev_build rfl (fun _ => rfl) rfl (built59_0)
    simp only [nm2, seval]
    apply VE.cons
    · first | exact Ev.skip (fun _ => rfl) | refine ev_pure' (fun _ => rfl) (fun ρ w => by simp only [VS.act, SV.c, List.map_cons, List.map_nil]; go_simp; exact rfl) (fun _ _ => rfl)
    simp only [nm2, seval]
    apply VE.cons
    · first | exact ev_pick_t rfl (gn rfl) rfl rfl | exact ev_pick_f rfl (gn rfl) rfl rfl
    simp only [nm2, seval]
    exact VE.nil _
  · kernel_rfl
  change VOk _ _ _ _ _
  refine vcond_t rfl ?_
  refine vseq ?_
  apply vrp
  · apply VE.cons
    · exact ev_build rfl (gn rfl) rfl (built67_0)
    simp only [nm2, seval]
    apply VE.cons
    · exact ev_store rfl (gn rfl) rfl rfl rfl Tryd.sizeOf67 rfl (by simp) rfl
    simp only [nm2, seval]
    exact VE.nil _
  · kernel_rfl
  change VOk _ _ _ _ _
  refine vret ?_
  refine post_ret (res1 Tryd.results42 (rv_cell rfl rfl Tryd.underlying67 rfl Tryd.sizeOf67 rfl rfl)) ?_
  intro w' hg
  exact ⟨rfl, hg⟩
theorem double_y {b : Nat} (p : Jp) (w : World) (_ha : At w b pp) (hz : p.z ≠ 0) (hy : p.y = 0) : Calls Tryd.prog 42 #[FV b, TF p] w fun e w' => e = .returned (TF ⟨0, 0, 0⟩) ∧ Gw w w' := by
  go_enter Tryd.func42, Tryd.ntmps42
  refine ve_go ?_
  simp only [List.map_cons, List.map_nil]
  refine vseq ?_
  apply vrp
  · apply VE.cons
    · exact ev_box rfl rfl (gn rfl) rfl
    simp only [nm2, seval]
    apply VE.cons
    · exact ev_box rfl rfl (gn rfl) rfl
    simp only [nm2, seval]
    apply VE.cons
    · exact ev_alloc rfl rfl (gn rfl) Tryd.zeroValue67
    simp only [nm2, seval]
    exact VE.nil _
  · kernel_rfl
  change VOk _ _ _ _ _
  refine vseq ?_
  refine vseq ?_
  apply vrp
  · apply VE.cons
    · first | exact ev_field rfl (gn rfl) rfl Tryd.underlying67 rfl Tryd.sizeOf59 | exact ev_fieldx rfl (gn rfl) rfl Tryd.underlying67 rfl Tryd.sizeOf59
    simp only [nm2, seval]
    apply VE.cons
    · first | exact ev_load rfl (gn rfl) rfl rfl Tryd.underlying59 rfl Tryd.sizeOf59 rfl rfl | exact ev_loadx rfl (gn rfl) rfl Tryd.underlying59 rfl Tryd.sizeOf59 (by assumption) rfl
    simp only [nm2, seval]
    apply VE.cons
    · exact ev_build rfl (gn rfl) rfl (built59_0)
    simp only [nm2, seval]
    apply VE.cons
    · exact ev_bin rfl (gn rfl) rfl rfl (fun w => zeq_f hz _ _ w)
    simp only [nm2, seval]
    apply VE.cons
    · exact ev_move rfl (gn rfl)
    simp only [nm2, seval]
    apply VE.cons
    · first | exact Ev.skip (fun _ => rfl) | exact ev_field rfl (fun _ => rfl) rfl Tryd.underlying67 rfl Tryd.sizeOf59 | exact ev_fieldx rfl (fun _ => rfl) rfl Tryd.underlying67 rfl Tryd.sizeOf59
    simp only [nm2, seval]
    apply VE.cons
    · first | exact Ev.skip (fun _ => rfl) | exact ev_load rfl (fun _ => rfl) rfl rfl Tryd.underlying59 rfl Tryd.sizeOf59 rfl rfl | exact ev_loadx rfl (fun _ => rfl) rfl Tryd.underlying59 rfl Tryd.sizeOf59 (by assumption) rfl
    simp only [nm2, seval]
    apply VE.cons
    · first | exact Ev.skip (fun _ => rfl) | exact ev_build rfl (fun _ => rfl) rfl (built59_0)
    simp only [nm2, seval]
    apply VE.cons
    · first | exact Ev.skip (fun _ => rfl) | exact ev_bin rfl (fun _ => rfl) rfl rfl (fun w => zeq_t hy _ _ w)
    simp only [nm2, seval]
    apply VE.cons
    · first | exact ev_pick_t rfl (gn rfl) rfl rfl | exact ev_pick_f rfl (gn rfl) rfl rfl
    simp only [nm2, seval]
    exact VE.nil _
  · kernel_rfl
  change VOk _ _ _ _ _
  refine vcond_t rfl ?_
  refine vseq ?_
  apply vrp
  · apply VE.cons
    · exact ev_build rfl (gn rfl) rfl (built67_0)
    simp only [nm2, seval]
    apply VE.cons
    · exact ev_store rfl (gn rfl) rfl rfl rfl Tryd.sizeOf67 rfl (by simp) rfl
    simp only [nm2, seval]
    exact VE.nil _
  · kernel_rfl
  change VOk _ _ _ _ _
  refine vret ?_
  refine post_ret (res1 Tryd.results42 (rv_cell rfl rfl Tryd.underlying67 rfl Tryd.sizeOf67 rfl rfl)) ?_
  intro w' hg
  exact ⟨rfl, hg⟩
theorem mulE {b : Nat} {x y z : F} (h : x * y = z) (w : World) (ha : At w b pp) : Calls Tryd.prog 54 #[ptr b, NF x, NF y] w fun e w' => e = .returned (NF z) ∧ Gw w w' := h ▸ mulF x y w ha
theorem addE {b : Nat} {x y z : F} (h : x + y = z) (w : World) (ha : At w b pp) : Calls Tryd.prog 53 #[ptr b, NF x, NF y] w fun e w' => e = .returned (NF z) ∧ Gw w w' := h ▸ addF x y w ha
theorem subE {b : Nat} {x y z : F} (h : x - y = z) (w : World) (ha : At w b pp) : Calls Tryd.prog 55 #[ptr b, NF x, NF y] w fun e w' => e = .returned (NF z) ∧ Gw w w' := h ▸ subF x y w ha
theorem twiceE {b : Nat} {x z : F} (h : x + x = z) (w : World) (ha : At w b pp) : Calls Tryd.prog 57 #[FV b, NF x] w fun e w' => e = .returned (NF z) ∧ Gw w w' := h ▸ twice_ok x w ha
theorem thriceE {b : Nat} {x z : F} (h : x + x + x = z) (w : World) (ha : At w b pp) : Calls Tryd.prog 56 #[FV b, NF x] w fun e w' => e = .returned (NF z) ∧ Gw w w' := h ▸ thrice_ok x w ha
theorem double_n {b : Nat} (p : Jp) (v29 v36 v42 v51 v57 v58 v59 v63 v64 v71 v74 v75 v83 v84 v85 v86 v97 v98 v100 v106 v109 : F) (w : World) (ha : At w b pp) (hz : p.z ≠ 0) (hy : p.y ≠ 0) (e29 : p.z * p.z = v29) (e36 : p.y * p.y = v36) (e42 : p.x * v36 = v42) (e51 : p.x - v29 = v51) (e57 : p.x + v29 = v57) (e58 : v51 * v57 = v58) (e59 : v58 + v58 + v58 = v59) (e63 : v42 + v42 = v63) (e64 : v63 + v63 = v64) (e71 : v59 * v59 = v71) (e74 : v64 + v64 = v74) (e75 : v71 - v74 = v75) (e83 : v36 * v36 = v83) (e84 : v83 + v83 = v84) (e85 : v84 + v84 = v85) (e86 : v85 + v85 = v86) (e97 : v64 - v75 = v97) (e98 : v59 * v97 = v98) (e100 : v98 - v86 = v100) (e106 : p.y + p.y = v106) (e109 : v106 * p.z = v109) : Calls Tryd.prog 42 #[FV b, TF p] w fun e w' => e = .returned (TF ⟨v75, v100, v109⟩) ∧ Gw w w' := by
  go_enter Tryd.func42, Tryd.ntmps42
  refine ve_go ?_
  simp only [List.map_cons, List.map_nil]
  refine vseq ?_
  apply vrp
  · apply VE.cons
    · exact ev_box rfl rfl (gn rfl) rfl
    simp only [nm2, seval]
    apply VE.cons
    · exact ev_box rfl rfl (gn rfl) rfl
    simp only [nm2, seval]
    apply VE.cons
    · exact ev_alloc rfl rfl (gn rfl) Tryd.zeroValue67
    simp only [nm2, seval]
    exact VE.nil _
  · kernel_rfl
  change VOk _ _ _ _ _
  refine vseq ?_
  refine vseq ?_
  apply vrp
  · apply VE.cons
    · first | exact ev_field rfl (gn rfl) rfl Tryd.underlying67 rfl Tryd.sizeOf59 | exact ev_fieldx rfl (gn rfl) rfl Tryd.underlying67 rfl Tryd.sizeOf59
    simp only [nm2, seval]
    apply VE.cons
    · first | exact ev_load rfl (gn rfl) rfl rfl Tryd.underlying59 rfl Tryd.sizeOf59 rfl rfl | exact ev_loadx rfl (gn rfl) rfl Tryd.underlying59 rfl Tryd.sizeOf59 (by assumption) rfl
    simp only [nm2, seval]
    apply VE.cons
    · exact ev_build rfl (gn rfl) rfl (built59_0)
    simp only [nm2, seval]
    apply VE.cons
    · exact ev_bin rfl (gn rfl) rfl rfl (fun w => zeq_f hz _ _ w)
    simp only [nm2, seval]
    apply VE.cons
    · exact ev_move rfl (gn rfl)
    simp only [nm2, seval]
    apply VE.cons
    · first | exact Ev.skip (fun _ => rfl) | exact ev_field rfl (fun _ => rfl) rfl Tryd.underlying67 rfl Tryd.sizeOf59 | exact ev_fieldx rfl (fun _ => rfl) rfl Tryd.underlying67 rfl Tryd.sizeOf59
    simp only [nm2, seval]
    apply VE.cons
    · first | exact Ev.skip (fun _ => rfl) | exact ev_load rfl (fun _ => rfl) rfl rfl Tryd.underlying59 rfl Tryd.sizeOf59 rfl rfl | exact ev_loadx rfl (fun _ => rfl) rfl Tryd.underlying59 rfl Tryd.sizeOf59 (by assumption) rfl
    simp only [nm2, seval]
    apply VE.cons
    · first | exact Ev.skip (fun _ => rfl) | exact ev_build rfl (fun _ => rfl) rfl (built59_0)
    simp only [nm2, seval]
    apply VE.cons
    · first | exact Ev.skip (fun _ => rfl) | exact ev_bin rfl (fun _ => rfl) rfl rfl (fun w => zeq_f hy _ _ w)
    simp only [nm2, seval]
    apply VE.cons
    · first | exact ev_pick_t rfl (gn rfl) rfl rfl | exact ev_pick_f rfl (gn rfl) rfl rfl
    simp only [nm2, seval]
    exact VE.nil _
  · kernel_rfl
  change VOk _ _ _ _ _
  refine vcond_f rfl ?_
  refine vskip ?_
  change VOk _ _ _ _ _
  refine vseq ?_
  apply vrd (by kernel_rfl)
  · apply VE.cons
    · first | exact ev_field rfl (gn rfl) rfl Tryd.underlying62 rfl Tryd.sizeOf60 | exact ev_fieldx rfl (gn rfl) rfl Tryd.underlying62 rfl Tryd.sizeOf60
    simp only [nm2, seval]
    apply VE.cons
    · first | exact ev_load1 rfl (gn rfl) rfl rfl Tryd.underlying60 rfl rfl | exact ev_loadx1 rfl (gn rfl) rfl Tryd.underlying60 rfl (by first | assumption | exact hm 0 _ rfl | exact hm 1 _ rfl | exact hm 2 _ rfl | exact hm 3 _ rfl)
    simp only [nm2, seval]
    apply VE.cons
    · first | exact ev_field rfl (gn rfl) rfl Tryd.underlying67 rfl Tryd.sizeOf59 | exact ev_fieldx rfl (gn rfl) rfl Tryd.underlying67 rfl Tryd.sizeOf59
    simp only [nm2, seval]
    apply VE.cons
    · first | exact ev_load rfl (gn rfl) rfl rfl Tryd.underlying59 rfl Tryd.sizeOf59 rfl rfl | exact ev_loadx rfl (gn rfl) rfl Tryd.underlying59 rfl Tryd.sizeOf59 (by assumption) rfl
    simp only [nm2, seval]
    apply VE.cons
    · first | exact ev_field rfl (gn rfl) rfl Tryd.underlying67 rfl Tryd.sizeOf59 | exact ev_fieldx rfl (gn rfl) rfl Tryd.underlying67 rfl Tryd.sizeOf59
    simp only [nm2, seval]
    apply VE.cons
    · first | exact ev_load rfl (gn rfl) rfl rfl Tryd.underlying59 rfl Tryd.sizeOf59 rfl rfl | exact ev_loadx rfl (gn rfl) rfl Tryd.underlying59 rfl Tryd.sizeOf59 (by assumption) rfl
    simp only [nm2, seval]
    apply VE.cons
    · exact ev_call rfl (gn rfl) rfl (en_of Tryd.func54 (by kernel_rfl) rfl) (fun w' hw' => mulE e29 w' (ha.gw hw'))
    simp only [nm2, seval]
    apply VE.cons
    · first | exact ev_field rfl (gn rfl) rfl Tryd.underlying62 rfl Tryd.sizeOf60 | exact ev_fieldx rfl (gn rfl) rfl Tryd.underlying62 rfl Tryd.sizeOf60
    simp only [nm2, seval]
    apply VE.cons
    · first | exact ev_load1 rfl (gn rfl) rfl rfl Tryd.underlying60 rfl rfl | exact ev_loadx1 rfl (gn rfl) rfl Tryd.underlying60 rfl (by first | assumption | exact hm 0 _ rfl | exact hm 1 _ rfl | exact hm 2 _ rfl | exact hm 3 _ rfl)
    simp only [nm2, seval]
    apply VE.cons
    · first | exact ev_field rfl (gn rfl) rfl Tryd.underlying67 rfl Tryd.sizeOf59 | exact ev_fieldx rfl (gn rfl) rfl Tryd.underlying67 rfl Tryd.sizeOf59
    simp only [nm2, seval]
    apply VE.cons
    · first | exact ev_load rfl (gn rfl) rfl rfl Tryd.underlying59 rfl Tryd.sizeOf59 rfl rfl | exact ev_loadx rfl (gn rfl) rfl Tryd.underlying59 rfl Tryd.sizeOf59 (by assumption) rfl
    simp only [nm2, seval]
    apply VE.cons
    · first | exact ev_field rfl (gn rfl) rfl Tryd.underlying67 rfl Tryd.sizeOf59 | exact ev_fieldx rfl (gn rfl) rfl Tryd.underlying67 rfl Tryd.sizeOf59
    simp only [nm2, seval]
    apply VE.cons
    · first | exact ev_load rfl (gn rfl) rfl rfl Tryd.underlying59 rfl Tryd.sizeOf59 rfl rfl | exact ev_loadx rfl (gn rfl) rfl Tryd.underlying59 rfl Tryd.sizeOf59 (by assumption) rfl
    simp only [nm2, seval]
    apply VE.cons
    · exact ev_call rfl (gn rfl) rfl (en_of Tryd.func54 (by kernel_rfl) rfl) (fun w' hw' => mulE e36 w' (ha.gw hw'))
    simp only [nm2, seval]
    apply VE.cons
    · exact ev_alloc rfl rfl (gn rfl) Tryd.zeroValue59
    simp only [nm2, seval]
    apply VE.cons
    · exact ev_alloc rfl rfl (gn rfl) Tryd.zeroValue59
    simp only [nm2, seval]
    apply VE.cons
    · exact ev_store rfl (gn rfl) rfl rfl rfl Tryd.sizeOf59 rfl (by simp) rfl
    simp only [nm2, seval]
    apply VE.cons
    · exact ev_store rfl (gn rfl) rfl rfl rfl Tryd.sizeOf59 rfl (by simp) rfl
    simp only [nm2, seval]
    exact VE.nil _
  · kernel_rfl
  change VOk _ _ _ _ _
  refine vseq ?_
  apply vrp
  · apply VE.cons
    · first | exact ev_field rfl (gn rfl) rfl Tryd.underlying62 rfl Tryd.sizeOf60 | exact ev_fieldx rfl (gn rfl) rfl Tryd.underlying62 rfl Tryd.sizeOf60
    simp only [nm2, seval]
    apply VE.cons
    · first | exact ev_load1 rfl (gn rfl) rfl rfl Tryd.underlying60 rfl rfl | exact ev_loadx1 rfl (gn rfl) rfl Tryd.underlying60 rfl (by first | assumption | exact hm 0 _ rfl | exact hm 1 _ rfl | exact hm 2 _ rfl | exact hm 3 _ rfl)
    simp only [nm2, seval]
    apply VE.cons
    · first | exact ev_field rfl (gn rfl) rfl Tryd.underlying67 rfl Tryd.sizeOf59 | exact ev_fieldx rfl (gn rfl) rfl Tryd.underlying67 rfl Tryd.sizeOf59
    simp only [nm2, seval]
    apply VE.cons
    · first | exact ev_load rfl (gn rfl) rfl rfl Tryd.underlying59 rfl Tryd.sizeOf59 rfl rfl | exact ev_loadx rfl (gn rfl) rfl Tryd.underlying59 rfl Tryd.sizeOf59 (by assumption) rfl
    simp only [nm2, seval]
    apply VE.cons
    · first | exact ev_load rfl (gn rfl) rfl rfl Tryd.underlying59 rfl Tryd.sizeOf59 rfl rfl | exact ev_loadx rfl (gn rfl) rfl Tryd.underlying59 rfl Tryd.sizeOf59 (by assumption) rfl
    simp only [nm2, seval]
    apply VE.cons
    · exact ev_call rfl (gn rfl) rfl (en_of Tryd.func54 (by kernel_rfl) rfl) (fun w' hw' => mulE e42 w' (ha.gw hw'))
    simp only [nm2, seval]
    apply VE.cons
    · exact ev_alloc rfl rfl (gn rfl) Tryd.zeroValue59
    simp only [nm2, seval]
    apply VE.cons
    · exact ev_store rfl (gn rfl) rfl rfl rfl Tryd.sizeOf59 rfl (by simp) rfl
    simp only [nm2, seval]
    exact VE.nil _
  · kernel_rfl
  change VOk _ _ _ _ _
  refine vseq ?_
  apply vrd (by kernel_rfl)
  · apply VE.cons
    · first | exact ev_load rfl (gn rfl) rfl rfl Tryd.underlying62 rfl Tryd.sizeOf62 rfl rfl | exact ev_loadx rfl (gn rfl) rfl Tryd.underlying62 rfl Tryd.sizeOf62 (by assumption) rfl
    simp only [nm2, seval]
    apply VE.cons
    · first | exact ev_field rfl (gn rfl) rfl Tryd.underlying62 rfl Tryd.sizeOf60 | exact ev_fieldx rfl (gn rfl) rfl Tryd.underlying62 rfl Tryd.sizeOf60
    simp only [nm2, seval]
    apply VE.cons
    · first | exact ev_load1 rfl (gn rfl) rfl rfl Tryd.underlying60 rfl rfl | exact ev_loadx1 rfl (gn rfl) rfl Tryd.underlying60 rfl (by first | assumption | exact hm 0 _ rfl | exact hm 1 _ rfl | exact hm 2 _ rfl | exact hm 3 _ rfl)
    simp only [nm2, seval]
    apply VE.cons
    · first | exact ev_field rfl (gn rfl) rfl Tryd.underlying62 rfl Tryd.sizeOf60 | exact ev_fieldx rfl (gn rfl) rfl Tryd.underlying62 rfl Tryd.sizeOf60
    simp only [nm2, seval]
    apply VE.cons
    · first | exact ev_load1 rfl (gn rfl) rfl rfl Tryd.underlying60 rfl rfl | exact ev_loadx1 rfl (gn rfl) rfl Tryd.underlying60 rfl (by first | assumption | exact hm 0 _ rfl | exact hm 1 _ rfl | exact hm 2 _ rfl | exact hm 3 _ rfl)
    simp only [nm2, seval]
    apply VE.cons
    · first | exact ev_field rfl (gn rfl) rfl Tryd.underlying67 rfl Tryd.sizeOf59 | exact ev_fieldx rfl (gn rfl) rfl Tryd.underlying67 rfl Tryd.sizeOf59
    simp only [nm2, seval]
    apply VE.cons
    · first | exact ev_load rfl (gn rfl) rfl rfl Tryd.underlying59 rfl Tryd.sizeOf59 rfl rfl | exact ev_loadx rfl (gn rfl) rfl Tryd.underlying59 rfl Tryd.sizeOf59 (by assumption) rfl
    simp only [nm2, seval]
    apply VE.cons
    · first | exact ev_load rfl (gn rfl) rfl rfl Tryd.underlying59 rfl Tryd.sizeOf59 rfl rfl | exact ev_loadx rfl (gn rfl) rfl Tryd.underlying59 rfl Tryd.sizeOf59 (by assumption) rfl
    simp only [nm2, seval]
    apply VE.cons
    · exact ev_call rfl (gn rfl) rfl (en_of Tryd.func55 (by kernel_rfl) rfl) (fun w' hw' => subE e51 w' (ha.gw hw'))
    simp only [nm2, seval]
    apply VE.cons
    · first | exact ev_field rfl (gn rfl) rfl Tryd.underlying62 rfl Tryd.sizeOf60 | exact ev_fieldx rfl (gn rfl) rfl Tryd.underlying62 rfl Tryd.sizeOf60
    simp only [nm2, seval]
    apply VE.cons
    · first | exact ev_load1 rfl (gn rfl) rfl rfl Tryd.underlying60 rfl rfl | exact ev_loadx1 rfl (gn rfl) rfl Tryd.underlying60 rfl (by first | assumption | exact hm 0 _ rfl | exact hm 1 _ rfl | exact hm 2 _ rfl | exact hm 3 _ rfl)
    simp only [nm2, seval]
    apply VE.cons
    · first | exact ev_field rfl (gn rfl) rfl Tryd.underlying67 rfl Tryd.sizeOf59 | exact ev_fieldx rfl (gn rfl) rfl Tryd.underlying67 rfl Tryd.sizeOf59
    simp only [nm2, seval]
    apply VE.cons
    · first | exact ev_load rfl (gn rfl) rfl rfl Tryd.underlying59 rfl Tryd.sizeOf59 rfl rfl | exact ev_loadx rfl (gn rfl) rfl Tryd.underlying59 rfl Tryd.sizeOf59 (by assumption) rfl
    simp only [nm2, seval]
    apply VE.cons
    · first | exact ev_load rfl (gn rfl) rfl rfl Tryd.underlying59 rfl Tryd.sizeOf59 rfl rfl | exact ev_loadx rfl (gn rfl) rfl Tryd.underlying59 rfl Tryd.sizeOf59 (by assumption) rfl
    simp only [nm2, seval]
    apply VE.cons
    · exact ev_call rfl (gn rfl) rfl (en_of Tryd.func53 (by kernel_rfl) rfl) (fun w' hw' => addE e57 w' (ha.gw hw'))
    simp only [nm2, seval]
    apply VE.cons
    · exact ev_call rfl (gn rfl) rfl (en_of Tryd.func54 (by kernel_rfl) rfl) (fun w' hw' => mulE e58 w' (ha.gw hw'))
    simp only [nm2, seval]
    apply VE.cons
    · exact ev_call rfl (gn rfl) rfl (en_of Tryd.func56 (by kernel_rfl) rfl) (fun w' hw' => thriceE e59 w' (ha.gw hw'))
    simp only [nm2, seval]
    apply VE.cons
    · exact ev_alloc rfl rfl (gn rfl) Tryd.zeroValue59
    simp only [nm2, seval]
    apply VE.cons
    · exact ev_store rfl (gn rfl) rfl rfl rfl Tryd.sizeOf59 rfl (by simp) rfl
    simp only [nm2, seval]
    exact VE.nil _
  · kernel_rfl
  change VOk _ _ _ _ _
  refine vseq ?_
  apply vrd (by kernel_rfl)
  · apply VE.cons
    · first | exact ev_load rfl (gn rfl) rfl rfl Tryd.underlying62 rfl Tryd.sizeOf62 rfl rfl | exact ev_loadx rfl (gn rfl) rfl Tryd.underlying62 rfl Tryd.sizeOf62 (by assumption) rfl
    simp only [nm2, seval]
    apply VE.cons
    · first | exact ev_load rfl (gn rfl) rfl rfl Tryd.underlying62 rfl Tryd.sizeOf62 rfl rfl | exact ev_loadx rfl (gn rfl) rfl Tryd.underlying62 rfl Tryd.sizeOf62 (by assumption) rfl
    simp only [nm2, seval]
    apply VE.cons
    · first | exact ev_load rfl (gn rfl) rfl rfl Tryd.underlying59 rfl Tryd.sizeOf59 rfl rfl | exact ev_loadx rfl (gn rfl) rfl Tryd.underlying59 rfl Tryd.sizeOf59 (by assumption) rfl
    simp only [nm2, seval]
    apply VE.cons
    · exact ev_call rfl (gn rfl) rfl (en_of Tryd.func57 (by kernel_rfl) rfl) (fun w' hw' => twiceE e63 w' (ha.gw hw'))
    simp only [nm2, seval]
    apply VE.cons
    · exact ev_call rfl (gn rfl) rfl (en_of Tryd.func57 (by kernel_rfl) rfl) (fun w' hw' => twiceE e64 w' (ha.gw hw'))
    simp only [nm2, seval]
    apply VE.cons
    · exact ev_alloc rfl rfl (gn rfl) Tryd.zeroValue59
    simp only [nm2, seval]
    apply VE.cons
    · exact ev_store rfl (gn rfl) rfl rfl rfl Tryd.sizeOf59 rfl (by simp) rfl
    simp only [nm2, seval]
    exact VE.nil _
  · kernel_rfl
  change VOk _ _ _ _ _
  refine vseq ?_
  apply vrd (by kernel_rfl)
  · apply VE.cons
    · first | exact ev_field rfl (gn rfl) rfl Tryd.underlying62 rfl Tryd.sizeOf60 | exact ev_fieldx rfl (gn rfl) rfl Tryd.underlying62 rfl Tryd.sizeOf60
    simp only [nm2, seval]
    apply VE.cons
    · first | exact ev_load1 rfl (gn rfl) rfl rfl Tryd.underlying60 rfl rfl | exact ev_loadx1 rfl (gn rfl) rfl Tryd.underlying60 rfl (by first | assumption | exact hm 0 _ rfl | exact hm 1 _ rfl | exact hm 2 _ rfl | exact hm 3 _ rfl)
    simp only [nm2, seval]
    apply VE.cons
    · first | exact ev_field rfl (gn rfl) rfl Tryd.underlying62 rfl Tryd.sizeOf60 | exact ev_fieldx rfl (gn rfl) rfl Tryd.underlying62 rfl Tryd.sizeOf60
    simp only [nm2, seval]
    apply VE.cons
    · first | exact ev_load1 rfl (gn rfl) rfl rfl Tryd.underlying60 rfl rfl | exact ev_loadx1 rfl (gn rfl) rfl Tryd.underlying60 rfl (by first | assumption | exact hm 0 _ rfl | exact hm 1 _ rfl | exact hm 2 _ rfl | exact hm 3 _ rfl)
    simp only [nm2, seval]
    apply VE.cons
    · first | exact ev_load rfl (gn rfl) rfl rfl Tryd.underlying59 rfl Tryd.sizeOf59 rfl rfl | exact ev_loadx rfl (gn rfl) rfl Tryd.underlying59 rfl Tryd.sizeOf59 (by assumption) rfl
    simp only [nm2, seval]
    apply VE.cons
    · first | exact ev_load rfl (gn rfl) rfl rfl Tryd.underlying59 rfl Tryd.sizeOf59 rfl rfl | exact ev_loadx rfl (gn rfl) rfl Tryd.underlying59 rfl Tryd.sizeOf59 (by assumption) rfl
    simp only [nm2, seval]
    apply VE.cons
    · exact ev_call rfl (gn rfl) rfl (en_of Tryd.func54 (by kernel_rfl) rfl) (fun w' hw' => mulE e71 w' (ha.gw hw'))
    simp only [nm2, seval]
    apply VE.cons
    · first | exact ev_load rfl (gn rfl) rfl rfl Tryd.underlying62 rfl Tryd.sizeOf62 rfl rfl | exact ev_loadx rfl (gn rfl) rfl Tryd.underlying62 rfl Tryd.sizeOf62 (by assumption) rfl
    simp only [nm2, seval]
    apply VE.cons
    · first | exact ev_load rfl (gn rfl) rfl rfl Tryd.underlying59 rfl Tryd.sizeOf59 rfl rfl | exact ev_loadx rfl (gn rfl) rfl Tryd.underlying59 rfl Tryd.sizeOf59 (by assumption) rfl
    simp only [nm2, seval]
    apply VE.cons
    · exact ev_call rfl (gn rfl) rfl (en_of Tryd.func57 (by kernel_rfl) rfl) (fun w' hw' => twiceE e74 w' (ha.gw hw'))
    simp only [nm2, seval]
    apply VE.cons
    · exact ev_call rfl (gn rfl) rfl (en_of Tryd.func55 (by kernel_rfl) rfl) (fun w' hw' => subE e75 w' (ha.gw hw'))
    simp only [nm2, seval]
    apply VE.cons
    · exact ev_alloc rfl rfl (gn rfl) Tryd.zeroValue59
    simp only [nm2, seval]
    apply VE.cons
    · exact ev_store rfl (gn rfl) rfl rfl rfl Tryd.sizeOf59 rfl (by simp) rfl
    simp only [nm2, seval]
    exact VE.nil _
  · kernel_rfl
  change VOk _ _ _ _ _
  refine vseq ?_
  apply vrd (by kernel_rfl)
  · apply VE.cons
    · first | exact ev_load rfl (gn rfl) rfl rfl Tryd.underlying62 rfl Tryd.sizeOf62 rfl rfl | exact ev_loadx rfl (gn rfl) rfl Tryd.underlying62 rfl Tryd.sizeOf62 (by assumption) rfl
    simp only [nm2, seval]
    apply VE.cons
    · first | exact ev_load rfl (gn rfl) rfl rfl Tryd.underlying62 rfl Tryd.sizeOf62 rfl rfl | exact ev_loadx rfl (gn rfl) rfl Tryd.underlying62 rfl Tryd.sizeOf62 (by assumption) rfl
    simp only [nm2, seval]
    apply VE.cons
    · first | exact ev_load rfl (gn rfl) rfl rfl Tryd.underlying62 rfl Tryd.sizeOf62 rfl rfl | exact ev_loadx rfl (gn rfl) rfl Tryd.underlying62 rfl Tryd.sizeOf62 (by assumption) rfl
    simp only [nm2, seval]
    apply VE.cons
    · first | exact ev_field rfl (gn rfl) rfl Tryd.underlying62 rfl Tryd.sizeOf60 | exact ev_fieldx rfl (gn rfl) rfl Tryd.underlying62 rfl Tryd.sizeOf60
    simp only [nm2, seval]
    apply VE.cons
    · first | exact ev_load1 rfl (gn rfl) rfl rfl Tryd.underlying60 rfl rfl | exact ev_loadx1 rfl (gn rfl) rfl Tryd.underlying60 rfl (by first | assumption | exact hm 0 _ rfl | exact hm 1 _ rfl | exact hm 2 _ rfl | exact hm 3 _ rfl)
    simp only [nm2, seval]
    apply VE.cons
    · first | exact ev_load rfl (gn rfl) rfl rfl Tryd.underlying59 rfl Tryd.sizeOf59 rfl rfl | exact ev_loadx rfl (gn rfl) rfl Tryd.underlying59 rfl Tryd.sizeOf59 (by assumption) rfl
    simp only [nm2, seval]
    apply VE.cons
    · first | exact ev_load rfl (gn rfl) rfl rfl Tryd.underlying59 rfl Tryd.sizeOf59 rfl rfl | exact ev_loadx rfl (gn rfl) rfl Tryd.underlying59 rfl Tryd.sizeOf59 (by assumption) rfl
    simp only [nm2, seval]
    apply VE.cons
    · exact ev_call rfl (gn rfl) rfl (en_of Tryd.func54 (by kernel_rfl) rfl) (fun w' hw' => mulE e83 w' (ha.gw hw'))
    simp only [nm2, seval]
    apply VE.cons
    · exact ev_call rfl (gn rfl) rfl (en_of Tryd.func57 (by kernel_rfl) rfl) (fun w' hw' => twiceE e84 w' (ha.gw hw'))
    simp only [nm2, seval]
    apply VE.cons
    · exact ev_call rfl (gn rfl) rfl (en_of Tryd.func57 (by kernel_rfl) rfl) (fun w' hw' => twiceE e85 w' (ha.gw hw'))
    simp only [nm2, seval]
    apply VE.cons
    · exact ev_call rfl (gn rfl) rfl (en_of Tryd.func57 (by kernel_rfl) rfl) (fun w' hw' => twiceE e86 w' (ha.gw hw'))
    simp only [nm2, seval]
    apply VE.cons
    · exact ev_alloc rfl rfl (gn rfl) Tryd.zeroValue59
    simp only [nm2, seval]
    apply VE.cons
    · exact ev_store rfl (gn rfl) rfl rfl rfl Tryd.sizeOf59 rfl (by simp) rfl
    simp only [nm2, seval]
    exact VE.nil _
  · kernel_rfl
  change VOk _ _ _ _ _
  refine vseq ?_
  apply vrd (by kernel_rfl)
  · apply VE.cons
    · first | exact ev_load rfl (gn rfl) rfl rfl Tryd.underlying59 rfl Tryd.sizeOf59 rfl rfl | exact ev_loadx rfl (gn rfl) rfl Tryd.underlying59 rfl Tryd.sizeOf59 (by assumption) rfl
    simp only [nm2, seval]
    apply VE.cons
    · first | exact ev_field rfl (gn rfl) rfl Tryd.underlying62 rfl Tryd.sizeOf60 | exact ev_fieldx rfl (gn rfl) rfl Tryd.underlying62 rfl Tryd.sizeOf60
    simp only [nm2, seval]
    apply VE.cons
    · first | exact ev_load1 rfl (gn rfl) rfl rfl Tryd.underlying60 rfl rfl | exact ev_loadx1 rfl (gn rfl) rfl Tryd.underlying60 rfl (by first | assumption | exact hm 0 _ rfl | exact hm 1 _ rfl | exact hm 2 _ rfl | exact hm 3 _ rfl)
    simp only [nm2, seval]
    apply VE.cons
    · first | exact ev_field rfl (gn rfl) rfl Tryd.underlying62 rfl Tryd.sizeOf60 | exact ev_fieldx rfl (gn rfl) rfl Tryd.underlying62 rfl Tryd.sizeOf60
    simp only [nm2, seval]
    apply VE.cons
    · first | exact ev_load1 rfl (gn rfl) rfl rfl Tryd.underlying60 rfl rfl | exact ev_loadx1 rfl (gn rfl) rfl Tryd.underlying60 rfl (by first | assumption | exact hm 0 _ rfl | exact hm 1 _ rfl | exact hm 2 _ rfl | exact hm 3 _ rfl)
    simp only [nm2, seval]
    apply VE.cons
    · first | exact ev_load rfl (gn rfl) rfl rfl Tryd.underlying59 rfl Tryd.sizeOf59 rfl rfl | exact ev_loadx rfl (gn rfl) rfl Tryd.underlying59 rfl Tryd.sizeOf59 (by assumption) rfl
    simp only [nm2, seval]
    apply VE.cons
    · first | exact ev_field rfl (gn rfl) rfl Tryd.underlying62 rfl Tryd.sizeOf60 | exact ev_fieldx rfl (gn rfl) rfl Tryd.underlying62 rfl Tryd.sizeOf60
    simp only [nm2, seval]
    apply VE.cons
    · first | exact ev_load1 rfl (gn rfl) rfl rfl Tryd.underlying60 rfl rfl | exact ev_loadx1 rfl (gn rfl) rfl Tryd.underlying60 rfl (by first | assumption | exact hm 0 _ rfl | exact hm 1 _ rfl | exact hm 2 _ rfl | exact hm 3 _ rfl)
    simp only [nm2, seval]
    apply VE.cons
    · first | exact ev_load rfl (gn rfl) rfl rfl Tryd.underlying59 rfl Tryd.sizeOf59 rfl rfl | exact ev_loadx rfl (gn rfl) rfl Tryd.underlying59 rfl Tryd.sizeOf59 (by assumption) rfl
    simp only [nm2, seval]
    apply VE.cons
    · first | exact ev_load rfl (gn rfl) rfl rfl Tryd.underlying59 rfl Tryd.sizeOf59 rfl rfl | exact ev_loadx rfl (gn rfl) rfl Tryd.underlying59 rfl Tryd.sizeOf59 (by assumption) rfl
    simp only [nm2, seval]
    apply VE.cons
    · exact ev_call rfl (gn rfl) rfl (en_of Tryd.func55 (by kernel_rfl) rfl) (fun w' hw' => subE e97 w' (ha.gw hw'))
    simp only [nm2, seval]
    apply VE.cons
    · exact ev_call rfl (gn rfl) rfl (en_of Tryd.func54 (by kernel_rfl) rfl) (fun w' hw' => mulE e98 w' (ha.gw hw'))
    simp only [nm2, seval]
    apply VE.cons
    · first | exact ev_load rfl (gn rfl) rfl rfl Tryd.underlying59 rfl Tryd.sizeOf59 rfl rfl | exact ev_loadx rfl (gn rfl) rfl Tryd.underlying59 rfl Tryd.sizeOf59 (by assumption) rfl
    simp only [nm2, seval]
    apply VE.cons
    · exact ev_call rfl (gn rfl) rfl (en_of Tryd.func55 (by kernel_rfl) rfl) (fun w' hw' => subE e100 w' (ha.gw hw'))
    simp only [nm2, seval]
    apply VE.cons
    · first | exact ev_field rfl (gn rfl) rfl Tryd.underlying62 rfl Tryd.sizeOf60 | exact ev_fieldx rfl (gn rfl) rfl Tryd.underlying62 rfl Tryd.sizeOf60
    simp only [nm2, seval]
    apply VE.cons
    · first | exact ev_load1 rfl (gn rfl) rfl rfl Tryd.underlying60 rfl rfl | exact ev_loadx1 rfl (gn rfl) rfl Tryd.underlying60 rfl (by first | assumption | exact hm 0 _ rfl | exact hm 1 _ rfl | exact hm 2 _ rfl | exact hm 3 _ rfl)
    simp only [nm2, seval]
    apply VE.cons
    · first | exact ev_load rfl (gn rfl) rfl rfl Tryd.underlying62 rfl Tryd.sizeOf62 rfl rfl | exact ev_loadx rfl (gn rfl) rfl Tryd.underlying62 rfl Tryd.sizeOf62 (by assumption) rfl
    simp only [nm2, seval]
    apply VE.cons
    · first | exact ev_field rfl (gn rfl) rfl Tryd.underlying67 rfl Tryd.sizeOf59 | exact ev_fieldx rfl (gn rfl) rfl Tryd.underlying67 rfl Tryd.sizeOf59
    simp only [nm2, seval]
    apply VE.cons
    · first | exact ev_load rfl (gn rfl) rfl rfl Tryd.underlying59 rfl Tryd.sizeOf59 rfl rfl | exact ev_loadx rfl (gn rfl) rfl Tryd.underlying59 rfl Tryd.sizeOf59 (by assumption) rfl
    simp only [nm2, seval]
    apply VE.cons
    · exact ev_call rfl (gn rfl) rfl (en_of Tryd.func57 (by kernel_rfl) rfl) (fun w' hw' => twiceE e106 w' (ha.gw hw'))
    simp only [nm2, seval]
    apply VE.cons
    · first | exact ev_field rfl (gn rfl) rfl Tryd.underlying67 rfl Tryd.sizeOf59 | exact ev_fieldx rfl (gn rfl) rfl Tryd.underlying67 rfl Tryd.sizeOf59
    simp only [nm2, seval]
    apply VE.cons
    · first | exact ev_load rfl (gn rfl) rfl rfl Tryd.underlying59 rfl Tryd.sizeOf59 rfl rfl | exact ev_loadx rfl (gn rfl) rfl Tryd.underlying59 rfl Tryd.sizeOf59 (by assumption) rfl
    simp only [nm2, seval]
    apply VE.cons
    · exact ev_call rfl (gn rfl) rfl (en_of Tryd.func54 (by kernel_rfl) rfl) (fun w' hw' => mulE e109 w' (ha.gw hw'))
    simp only [nm2, seval]
    apply VE.cons
    · exact ev_build rfl (gn rfl) rfl (built67_3 _ _ _)
    simp only [nm2, seval]
    apply VE.cons
    · exact ev_store rfl (gn rfl) rfl rfl rfl Tryd.sizeOf67 rfl (by simp) rfl
    simp only [nm2, seval]
    exact VE.nil _
  · kernel_rfl
  change VOk _ _ _ _ _
  refine vret ?_
  refine post_ret (res1 Tryd.results42 (rv_cell rfl rfl Tryd.underlying67 rfl Tryd.sizeOf67 rfl rfl)) ?_
  intro w' hg
  exact ⟨rfl, hg⟩
end Go.Proofs.YtbnfanmolphliaaDoor
