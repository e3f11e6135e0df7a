import Derived.Test.YtbnfanmolphliaaDoorFi
import Derived.Test.YtbnfanmolphliaaDoorVx
/-! Bytes of points: the curve's Write, Read, Public and Shared, by contract. -/
namespace Go.Proofs.YtbnfanmolphliaaDoor
open Go.RowKit Go.Vx TollMont
open Go.Toll (Gw)
open TollEc (F pp cb Jp Pt smul add base nn neg)
set_option maxHeartbeats 4000000
set_option maxRecDepth 100000
theorem nmx : type_of% Go.Vx.nm ∧ type_of% nNF ∧ type_of% nTF ∧ type_of% nB32 ∧ type_of% nPT ∧ type_of% nFV ∧ type_of% nN ∧ type_of% nPV := ⟨Go.Vx.nm, nNF, nTF, nB32, nPT, nFV, nN, nPV⟩
def l32 (n : Nat) : List Value := [.int .u8 (byt n 0 : Nat), .int .u8 (byt n 1 : Nat), .int .u8 (byt n 2 : Nat), .int .u8 (byt n 3 : Nat), .int .u8 (byt n 4 : Nat), .int .u8 (byt n 5 : Nat), .int .u8 (byt n 6 : Nat), .int .u8 (byt n 7 : Nat), .int .u8 (byt n 8 : Nat), .int .u8 (byt n 9 : Nat), .int .u8 (byt n 10 : Nat), .int .u8 (byt n 11 : Nat), .int .u8 (byt n 12 : Nat), .int .u8 (byt n 13 : Nat), .int .u8 (byt n 14 : Nat), .int .u8 (byt n 15 : Nat), .int .u8 (byt n 16 : Nat), .int .u8 (byt n 17 : Nat), .int .u8 (byt n 18 : Nat), .int .u8 (byt n 19 : Nat), .int .u8 (byt n 20 : Nat), .int .u8 (byt n 21 : Nat), .int .u8 (byt n 22 : Nat), .int .u8 (byt n 23 : Nat), .int .u8 (byt n 24 : Nat), .int .u8 (byt n 25 : Nat), .int .u8 (byt n 26 : Nat), .int .u8 (byt n 27 : Nat), .int .u8 (byt n 28 : Nat), .int .u8 (byt n 29 : Nat), .int .u8 (byt n 30 : Nat), .int .u8 (byt n 31 : Nat)]
def wb (x y : Nat) : List Value := .int .u8 4 :: (l32 x ++ l32 y)
theorem Laid.bw {w w' : World} (h : Laid w) (hb : Bw w w') : Laid w' := ⟨fun j v hj => hb.cell (h.bx j v hj), fun j v hj => hb.cell (h.bY j v hj), fun j v hj => hb.cell (h.nn j v hj), fun j v hj => hb.cell (h.pp j v hj), fun j v hj => hb.cell (h.cb j v hj)⟩
theorem i5 : ElInfo Tryd.prog 5 1 1 := by unfold ElInfo; kernel_rfl
theorem unVx_map : ∀ l : List Value, unV (l.map SV.v) = some l
  | [] => rfl
  | x :: l => by simp only [List.map_cons, unV, unVx_map l]
theorem at_ownx {w0 w : World} {ρ : Nat → Nm} {S : Nat → Nat → Prop} {rd : List Nat} {m : Mem} {id n : Nat} (hR : RelOn w0.heap.size ρ S w (restr rd m)) (hid : id ∈ rd) (hm : m id = some (.cells ((modc n).map .v) 83)) : At w (ρ id).g n :=
  relon_cells hR hid hm 0 (modc n) (by rw [List.drop_zero]; show unV (((modc n).map SV.v).take (modc n).length) = _; rw [List.take_of_length_le (by simp)]; exact unVx_map _)
theorem write_on {x y : Nat} (hx : x < R) (hy : y < R) (w : World) (hL : Laid w) (h : onB x y = true) : Calls Tryd.prog 29 #[PT x y] w fun e w' => ∃ v, e = .returned v ∧ RetRow w w' v (65) 1 5 (wb x y) ∧ Bw w w' := by
  go_enter Tryd.func29, Tryd.ntmps29
  refine ve_go ?_
  simp only [List.map_cons, List.map_nil]
  refine vseq ?_
  apply vrp
  · apply VE.cons
    · exact ev_box rfl rfl (gn rfl) rfl
    simp only [nmx, seval]
    apply VE.cons
    · exact ev_assign rfl (gn rfl)
    simp only [nmx, seval]
    exact VE.nil _
  · kernel_rfl
  change VOk _ _ _ _ _
  refine vseq ?_
  refine vseq ?_
  apply vrd (by kernel_rfl)
  · apply VE.cons
    · exact ev_callnewf rfl rfl (gn rfl) rfl (en_of Tryd.func35 (by kernel_rfl) rfl) (modc pp) 83 (fun w' hw' => newField_ok w' (hL.bw hw'))
    simp only [nmx, seval]
    apply VE.cons
    · first | exact ev_load rfl (gn rfl) rfl rfl Tryd.underlying24 rfl Tryd.sizeOf24 rfl rfl | exact ev_loadx rfl (gn rfl) rfl Tryd.underlying24 rfl Tryd.sizeOf24 (by assumption) rfl | exact ev_loada rfl (gn rfl) rfl rfl Tryd.underlying24 rfl Tryd.sizeOf24 rfl
    simp only [nmx, seval]
    apply VE.cons
    · exact ev_callp (v := .bool true) [3] rfl (gn rfl) rfl (en_of Tryd.func36 (by kernel_rfl) rfl) (fun ρ S w' hb hR => (h ▸ on_ok hx hy w' (at_ownx hR (by simp) rfl) (hL.bw hb)).mono fun _ _ h => ⟨h.1, h.2.b⟩)
    simp only [nmx, seval]
    apply VE.cons
    · exact ev_not rfl (gn rfl) rfl
    simp only [nmx, seval]
    exact VE.nil _
  · kernel_rfl
  change VOk _ _ _ _ _
  refine vcond_f rfl ?_
  refine vskip ?_
  change VOk _ _ _ _ _
  refine vseq ?_
  apply vrd (by kernel_rfl)
  · apply VE.cons
    · exact ev_buildslice rfl rfl (gn rfl) rfl (e := 5) (l := [.int .u8 4]) rfl (by decide) (fun _ => by kernel_rfl)
    simp only [nmx, seval]
    apply VE.cons
    · first | exact ev_field rfl (gn rfl) rfl Tryd.underlying24 rfl Tryd.sizeOf22 | exact ev_fieldx rfl (gn rfl) rfl Tryd.underlying24 rfl Tryd.sizeOf22
    simp only [nmx, seval]
    apply VE.cons
    · exact ev_slicea rfl (gn rfl) rfl Tryd.underlying22 Tryd.sizeOf5
    simp only [nmx, seval]
    apply VE.cons
    · exact ev_append rfl rfl (gn rfl) rfl rfl rfl (rdg_cells (l := l32 x) rfl rfl rfl (by decide)) Tryd.underlying48 i5 (by decide) rfl rfl (by decide) (by decide) rfl
    simp only [nmx, seval]
    apply VE.cons
    · first | exact ev_field rfl (gn rfl) rfl Tryd.underlying24 rfl Tryd.sizeOf22 | exact ev_fieldx rfl (gn rfl) rfl Tryd.underlying24 rfl Tryd.sizeOf22
    simp only [nmx, seval]
    apply VE.cons
    · exact ev_slicea rfl (gn rfl) rfl Tryd.underlying22 Tryd.sizeOf5
    simp only [nmx, seval]
    apply VE.cons
    · exact ev_append rfl rfl (gn rfl) rfl rfl rfl (rdg_cells (l := l32 y) rfl rfl rfl (by decide)) Tryd.underlying48 i5 (by decide) rfl rfl (by decide) (by decide) rfl
    simp only [nmx, seval]
    apply VE.cons
    · exact ev_assign rfl (gn rfl)
    simp only [nmx, seval]
    exact VE.nil _
  · kernel_rfl
  change VOk _ _ _ _ _
  refine vret ?_
  refine post_ret (res1 Tryd.results29 (rv_tmp rfl)) ?_
  intro ρ w' hr
  exact ⟨_, rfl, ret_row hr rfl, hr.1⟩
theorem write_off {x y : Nat} (hx : x < R) (hy : y < R) (w : World) (hL : Laid w) (h : onB x y = false) : Calls Tryd.prog 29 #[PT x y] w fun e w' => ∃ v, e = .returned v ∧ RetRow w w' v (0) 1 5 ([]) ∧ Bw w w' := by
  go_enter Tryd.func29, Tryd.ntmps29
  refine ve_go ?_
  simp only [List.map_cons, List.map_nil]
  refine vseq ?_
  apply vrp
  · apply VE.cons
    · exact ev_box rfl rfl (gn rfl) rfl
    simp only [nmx, seval]
    apply VE.cons
    · exact ev_assign rfl (gn rfl)
    simp only [nmx, seval]
    exact VE.nil _
  · kernel_rfl
  change VOk _ _ _ _ _
  refine vseq ?_
  refine vseq ?_
  apply vrd (by kernel_rfl)
  · apply VE.cons
    · exact ev_callnewf rfl rfl (gn rfl) rfl (en_of Tryd.func35 (by kernel_rfl) rfl) (modc pp) 83 (fun w' hw' => newField_ok w' (hL.bw hw'))
    simp only [nmx, seval]
    apply VE.cons
    · first | exact ev_load rfl (gn rfl) rfl rfl Tryd.underlying24 rfl Tryd.sizeOf24 rfl rfl | exact ev_loadx rfl (gn rfl) rfl Tryd.underlying24 rfl Tryd.sizeOf24 (by assumption) rfl | exact ev_loada rfl (gn rfl) rfl rfl Tryd.underlying24 rfl Tryd.sizeOf24 rfl
    simp only [nmx, seval]
    apply VE.cons
    · exact ev_callp (v := .bool false) [3] rfl (gn rfl) rfl (en_of Tryd.func36 (by kernel_rfl) rfl) (fun ρ S w' hb hR => (h ▸ on_ok hx hy w' (at_ownx hR (by simp) rfl) (hL.bw hb)).mono fun _ _ h => ⟨h.1, h.2.b⟩)
    simp only [nmx, seval]
    apply VE.cons
    · exact ev_not rfl (gn rfl) rfl
    simp only [nmx, seval]
    exact VE.nil _
  · kernel_rfl
  change VOk _ _ _ _ _
  refine vcond_t rfl ?_
  refine vseq ?_
  apply vrp
  · apply VE.cons
    · exact ev_assign rfl (gn rfl)
    simp only [nmx, seval]
    exact VE.nil _
  · kernel_rfl
  change VOk _ _ _ _ _
  refine vret ?_
  refine post_ret (res1 Tryd.results29 (rv_tmp rfl)) ?_
  intro ρ w' hr
  exact ⟨_, rfl, ret_nil _ _ _ _, hr.1⟩
theorem read_len {v : Value} {n : Nat} {l : List Value} {S : Nat → Prop} (w : World) (_hL : Laid w) (hv : SlAt w v n 1 l S) (hn : n ≠ 65) : Calls Tryd.prog 30 #[v] w fun e w' => e = .returned (.tuple #[.agg #[.int .u8 0, .int .u8 0, .int .u8 0, .int .u8 0, .int .u8 0, .int .u8 0, .int .u8 0, .int .u8 0, .int .u8 0, .int .u8 0, .int .u8 0, .int .u8 0, .int .u8 0, .int .u8 0, .int .u8 0, .int .u8 0, .int .u8 0, .int .u8 0, .int .u8 0, .int .u8 0, .int .u8 0, .int .u8 0, .int .u8 0, .int .u8 0, .int .u8 0, .int .u8 0, .int .u8 0, .int .u8 0, .int .u8 0, .int .u8 0, .int .u8 0, .int .u8 0, .int .u8 0, .int .u8 0, .int .u8 0, .int .u8 0, .int .u8 0, .int .u8 0, .int .u8 0, .int .u8 0, .int .u8 0, .int .u8 0, .int .u8 0, .int .u8 0, .int .u8 0, .int .u8 0, .int .u8 0, .int .u8 0, .int .u8 0, .int .u8 0, .int .u8 0, .int .u8 0, .int .u8 0, .int .u8 0, .int .u8 0, .int .u8 0, .int .u8 0, .int .u8 0, .int .u8 0, .int .u8 0, .int .u8 0, .int .u8 0, .int .u8 0, .int .u8 0], .int .i64 15]) ∧ Bw w w' := by
  go_enter Tryd.func30, Tryd.ntmps30
  refine ve_go ?_
  simp only [List.map_cons, List.map_nil]
  refine vseq ?_
  apply vrp
  · apply VE.cons
    · exact ev_alloc rfl rfl (gn rfl) Tryd.zeroValue24
    simp only [nmx, seval]
    apply VE.cons
    · exact ev_assign rfl (gn rfl)
    simp only [nmx, seval]
    exact VE.nil _
  · kernel_rfl
  change VOk _ _ _ _ _
  refine vseq ?_
  refine vseq ?_
  apply vrp
  · apply VE.cons
    · exact ev_move rfl (gn rfl)
    simp only [nmx, seval]
    apply VE.cons
    · exact ev_len rfl (gn rfl) rfl Tryd.underlying48 (rdg_arg hv)
    simp only [nmx, seval]
    apply VE.cons
    · exact ev_neq (p := true) rfl (gn rfl) rfl rfl (decide_eq_true (by omega))
    simp only [nmx, seval]
    apply VE.cons
    · exact ev_move rfl (gn rfl)
    simp only [nmx, seval]
    apply VE.cons
    · first | exact Ev.skip (fun _ => rfl) | exact ev_move rfl (fun _ => rfl)
    simp only [nmx, seval]
    apply VE.cons
    · first | exact Ev.skip (fun _ => rfl) | exact ev_index rfl (fun _ => rfl) rfl rfl Tryd.underlying48 Tryd.sizeOf5 (by decide) (by decide) | exact ev_indexx rfl (fun _ => rfl) rfl rfl Tryd.underlying48 Tryd.sizeOf5 (by decide) (by decide)
    simp only [nmx, seval]
    apply VE.cons
    · first | exact Ev.skip (fun _ => rfl) | exact ev_load1 rfl (fun _ => rfl) rfl rfl Tryd.underlying5 rfl rfl | exact ev_loadx1 rfl (fun _ => rfl) rfl Tryd.underlying5 rfl (by assumption)
    simp only [nmx, seval]
    apply VE.cons
    · first | exact Ev.skip (fun _ => rfl) | refine ev_pure' (fun _ => rfl) (fun ρ w => by simp only [VS.act, SV.c, List.map_cons, List.map_nil]; go_simp; exact rfl) (fun _ _ => rfl)
    simp only [nmx, seval]
    apply VE.cons
    · first | exact ev_pick_t rfl (gn rfl) rfl rfl | exact ev_pick_f rfl (gn rfl) rfl rfl
    simp only [nmx, seval]
    exact VE.nil _
  · kernel_rfl
  change VOk _ _ _ _ _
  refine vcond_t rfl ?_
  refine vseq ?_
  apply vrp
  · apply VE.cons
    · exact ev_build rfl (gn rfl) rfl (built24_0)
    simp only [nmx, seval]
    apply VE.cons
    · exact ev_store rfl (gn rfl) rfl rfl rfl Tryd.sizeOf24 rfl (by simp) rfl
    simp only [nmx, seval]
    apply VE.cons
    · exact ev_assign rfl (gn rfl)
    simp only [nmx, seval]
    exact VE.nil _
  · kernel_rfl
  change VOk _ _ _ _ _
  refine vret ?_
  refine post_ret (res2 Tryd.results30 (rv_cell rfl rfl Tryd.underlying24 rfl Tryd.sizeOf24 rfl rfl) (rv_tmp rfl)) ?_
  intro ρ w' hr
  exact ⟨rfl, hr.1⟩
theorem read_tag {v : Value} {b : Nat} {l : List Value} {S : Nat → Prop} (w : World) (_hL : Laid w) (hv : SlAt w v 65 1 (.int .u8 (b : Nat) :: l) S) (hb : b ≠ 4) : Calls Tryd.prog 30 #[v] w fun e w' => e = .returned (.tuple #[.agg #[.int .u8 0, .int .u8 0, .int .u8 0, .int .u8 0, .int .u8 0, .int .u8 0, .int .u8 0, .int .u8 0, .int .u8 0, .int .u8 0, .int .u8 0, .int .u8 0, .int .u8 0, .int .u8 0, .int .u8 0, .int .u8 0, .int .u8 0, .int .u8 0, .int .u8 0, .int .u8 0, .int .u8 0, .int .u8 0, .int .u8 0, .int .u8 0, .int .u8 0, .int .u8 0, .int .u8 0, .int .u8 0, .int .u8 0, .int .u8 0, .int .u8 0, .int .u8 0, .int .u8 0, .int .u8 0, .int .u8 0, .int .u8 0, .int .u8 0, .int .u8 0, .int .u8 0, .int .u8 0, .int .u8 0, .int .u8 0, .int .u8 0, .int .u8 0, .int .u8 0, .int .u8 0, .int .u8 0, .int .u8 0, .int .u8 0, .int .u8 0, .int .u8 0, .int .u8 0, .int .u8 0, .int .u8 0, .int .u8 0, .int .u8 0, .int .u8 0, .int .u8 0, .int .u8 0, .int .u8 0, .int .u8 0, .int .u8 0, .int .u8 0, .int .u8 0], .int .i64 15]) ∧ Bw w w' := by
  go_enter Tryd.func30, Tryd.ntmps30
  refine ve_go ?_
  simp only [List.map_cons, List.map_nil]
  refine vseq ?_
  apply vrp
  · apply VE.cons
    · exact ev_alloc rfl rfl (gn rfl) Tryd.zeroValue24
    simp only [nmx, seval]
    apply VE.cons
    · exact ev_assign rfl (gn rfl)
    simp only [nmx, seval]
    exact VE.nil _
  · kernel_rfl
  change VOk _ _ _ _ _
  refine vseq ?_
  refine vseq ?_
  apply vrp
  · apply VE.cons
    · exact ev_move rfl (gn rfl)
    simp only [nmx, seval]
    apply VE.cons
    · exact ev_len rfl (gn rfl) rfl Tryd.underlying48 (rdg_arg hv)
    simp only [nmx, seval]
    apply VE.cons
    · exact ev_neq (p := false) rfl (gn rfl) rfl rfl (by decide)
    simp only [nmx, seval]
    apply VE.cons
    · exact ev_move rfl (gn rfl)
    simp only [nmx, seval]
    apply VE.cons
    · first | exact Ev.skip (fun _ => rfl) | exact ev_move rfl (fun _ => rfl)
    simp only [nmx, seval]
    apply VE.cons
    · first | exact Ev.skip (fun _ => rfl) | exact ev_idx rfl (fun _ => rfl) rfl rfl Tryd.underlying48 Tryd.sizeOf5 (rdg_arg hv) (by decide) (by decide)
    simp only [nmx, seval]
    apply VE.cons
    · first | exact Ev.skip (fun _ => rfl) | exact ev_loadi rfl (fun _ => rfl) rfl Tryd.underlying5 rfl (rdg_arg hv) rfl
    simp only [nmx, seval]
    apply VE.cons
    · first | exact Ev.skip (fun _ => rfl) | exact ev_neq (p := true) rfl (fun _ => rfl) rfl rfl (decide_eq_true (by omega))
    simp only [nmx, seval]
    apply VE.cons
    · first | exact ev_pick_t rfl (gn rfl) rfl rfl | exact ev_pick_f rfl (gn rfl) rfl rfl
    simp only [nmx, seval]
    exact VE.nil _
  · kernel_rfl
  change VOk _ _ _ _ _
  refine vcond_t rfl ?_
  refine vseq ?_
  apply vrp
  · apply VE.cons
    · exact ev_build rfl (gn rfl) rfl (built24_0)
    simp only [nmx, seval]
    apply VE.cons
    · exact ev_store rfl (gn rfl) rfl rfl rfl Tryd.sizeOf24 rfl (by simp) rfl
    simp only [nmx, seval]
    apply VE.cons
    · exact ev_assign rfl (gn rfl)
    simp only [nmx, seval]
    exact VE.nil _
  · kernel_rfl
  change VOk _ _ _ _ _
  refine vret ?_
  refine post_ret (res2 Tryd.results30 (rv_cell rfl rfl Tryd.underlying24 rfl Tryd.sizeOf24 rfl rfl) (rv_tmp rfl)) ?_
  intro ρ w' hr
  exact ⟨rfl, hr.1⟩
theorem read_on {v : Value} {S : Nat → Prop} {x y : Nat} (hx : x < R) (hy : y < R) (w : World) (hL : Laid w) (hv : SlAt w v 65 1 (wb x y) S) (h : onB x y = true) : Calls Tryd.prog 30 #[v] w fun e w' => e = .returned (.tuple #[PT x y, .int .i64 0]) ∧ Bw w w' := by
  go_enter Tryd.func30, Tryd.ntmps30
  refine ve_go ?_
  simp only [List.map_cons, List.map_nil]
  refine vseq ?_
  apply vrp
  · apply VE.cons
    · exact ev_alloc rfl rfl (gn rfl) Tryd.zeroValue24
    simp only [nmx, seval]
    apply VE.cons
    · exact ev_assign rfl (gn rfl)
    simp only [nmx, seval]
    exact VE.nil _
  · kernel_rfl
  change VOk _ _ _ _ _
  refine vseq ?_
  refine vseq ?_
  apply vrp
  · apply VE.cons
    · exact ev_move rfl (gn rfl)
    simp only [nmx, seval]
    apply VE.cons
    · exact ev_len rfl (gn rfl) rfl Tryd.underlying48 (rdg_arg hv)
    simp only [nmx, seval]
    apply VE.cons
    · exact ev_neq (p := false) rfl (gn rfl) rfl rfl (by decide)
    simp only [nmx, seval]
    apply VE.cons
    · exact ev_move rfl (gn rfl)
    simp only [nmx, seval]
    apply VE.cons
    · first | exact Ev.skip (fun _ => rfl) | exact ev_move rfl (fun _ => rfl)
    simp only [nmx, seval]
    apply VE.cons
    · first | exact Ev.skip (fun _ => rfl) | exact ev_idx rfl (fun _ => rfl) rfl rfl Tryd.underlying48 Tryd.sizeOf5 (rdg_arg hv) (by decide) (by decide)
    simp only [nmx, seval]
    apply VE.cons
    · first | exact Ev.skip (fun _ => rfl) | exact ev_loadi rfl (fun _ => rfl) rfl Tryd.underlying5 rfl (rdg_arg hv) rfl
    simp only [nmx, seval]
    apply VE.cons
    · first | exact Ev.skip (fun _ => rfl) | exact ev_neq (p := false) rfl (fun _ => rfl) rfl rfl (by decide)
    simp only [nmx, seval]
    apply VE.cons
    · first | exact ev_pick_t rfl (gn rfl) rfl rfl | exact ev_pick_f rfl (gn rfl) rfl rfl
    simp only [nmx, seval]
    exact VE.nil _
  · kernel_rfl
  change VOk _ _ _ _ _
  refine vcond_f rfl ?_
  refine vskip ?_
  change VOk _ _ _ _ _
  refine vseq ?_
  apply vrd (by kernel_rfl)
  · apply VE.cons
    · exact ev_move rfl (gn rfl)
    simp only [nmx, seval]
    apply VE.cons
    · exact ev_cut (a := 1) (b := 33) rfl (gn rfl) rfl Tryd.underlying48 Tryd.sizeOf5 (rdg_arg hv) rfl rfl (by decide) (by decide)
    simp only [nmx, seval]
    apply VE.cons
    · exact ev_arrs rfl (gn rfl) rfl Tryd.underlying22 (rdg_cut (lo := 1) (hi := 33) (rdg_arg hv) (by decide) (by decide)) (by decide)
    simp only [nmx, seval]
    apply VE.cons
    · exact ev_loadarr (vs := l32 x) rfl (gn rfl) rfl Tryd.underlying22 rfl Tryd.sizeOf22 (rdg_cut (lo := 1) (hi := 33) (rdg_arg hv) (by decide) (by decide)) rfl rfl (by decide)
    simp only [nmx, seval]
    apply VE.cons
    · exact ev_move rfl (gn rfl)
    simp only [nmx, seval]
    apply VE.cons
    · exact ev_cut (a := 33) (b := 65) rfl (gn rfl) rfl Tryd.underlying48 Tryd.sizeOf5 (rdg_arg hv) rfl rfl (by decide) (by decide)
    simp only [nmx, seval]
    apply VE.cons
    · exact ev_arrs rfl (gn rfl) rfl Tryd.underlying22 (rdg_cut (lo := 33) (hi := 65) (rdg_arg hv) (by decide) (by decide)) (by decide)
    simp only [nmx, seval]
    apply VE.cons
    · exact ev_loadarr (vs := l32 y) rfl (gn rfl) rfl Tryd.underlying22 rfl Tryd.sizeOf22 (rdg_cut (lo := 33) (hi := 65) (rdg_arg hv) (by decide) (by decide)) rfl rfl (by decide)
    simp only [nmx, seval]
    apply VE.cons
    · exact ev_build rfl (gn rfl) rfl (built24_2 x y)
    simp only [nmx, seval]
    apply VE.cons
    · exact ev_alloc rfl rfl (gn rfl) Tryd.zeroValue24
    simp only [nmx, seval]
    apply VE.cons
    · exact ev_store rfl (gn rfl) rfl rfl rfl Tryd.sizeOf24 rfl (by simp) rfl
    simp only [nmx, seval]
    exact VE.nil _
  · kernel_rfl
  change VOk _ _ _ _ _
  refine vseq ?_
  refine vseq ?_
  apply vrd (by kernel_rfl)
  · apply VE.cons
    · exact ev_callnewf rfl rfl (gn rfl) rfl (en_of Tryd.func35 (by kernel_rfl) rfl) (modc pp) 83 (fun w' hw' => newField_ok w' (hL.bw hw'))
    simp only [nmx, seval]
    apply VE.cons
    · first | exact ev_load rfl (gn rfl) rfl rfl Tryd.underlying24 rfl Tryd.sizeOf24 rfl rfl | exact ev_loadx rfl (gn rfl) rfl Tryd.underlying24 rfl Tryd.sizeOf24 (by assumption) rfl | exact ev_loada rfl (gn rfl) rfl rfl Tryd.underlying24 rfl Tryd.sizeOf24 rfl
    simp only [nmx, seval]
    apply VE.cons
    · exact ev_callp (v := .bool true) [24] rfl (gn rfl) rfl (en_of Tryd.func36 (by kernel_rfl) rfl) (fun ρ S w' hb hR => (h ▸ on_ok hx hy w' (at_ownx hR (by simp) rfl) (hL.bw hb)).mono fun _ _ h => ⟨h.1, h.2.b⟩)
    simp only [nmx, seval]
    apply VE.cons
    · exact ev_not rfl (gn rfl) rfl
    simp only [nmx, seval]
    exact VE.nil _
  · kernel_rfl
  change VOk _ _ _ _ _
  refine vcond_f rfl ?_
  refine vskip ?_
  change VOk _ _ _ _ _
  refine vseq ?_
  apply vrp
  · apply VE.cons
    · first | exact ev_load rfl (gn rfl) rfl rfl Tryd.underlying24 rfl Tryd.sizeOf24 rfl rfl | exact ev_loadx rfl (gn rfl) rfl Tryd.underlying24 rfl Tryd.sizeOf24 (by assumption) rfl | exact ev_loada rfl (gn rfl) rfl rfl Tryd.underlying24 rfl Tryd.sizeOf24 rfl
    simp only [nmx, seval]
    apply VE.cons
    · exact ev_store rfl (gn rfl) rfl rfl rfl Tryd.sizeOf24 rfl (by simp) rfl
    simp only [nmx, seval]
    apply VE.cons
    · exact ev_assign rfl (gn rfl)
    simp only [nmx, seval]
    exact VE.nil _
  · kernel_rfl
  change VOk _ _ _ _ _
  refine vret ?_
  refine post_ret (res2 Tryd.results30 (rv_cell rfl rfl Tryd.underlying24 rfl Tryd.sizeOf24 rfl rfl) (rv_tmp rfl)) ?_
  intro ρ w' hr
  exact ⟨rfl, hr.1⟩
theorem read_off {v : Value} {S : Nat → Prop} {x y : Nat} (hx : x < R) (hy : y < R) (w : World) (hL : Laid w) (hv : SlAt w v 65 1 (wb x y) S) (h : onB x y = false) : Calls Tryd.prog 30 #[v] w fun e w' => e = .returned (.tuple #[.agg #[.int .u8 0, .int .u8 0, .int .u8 0, .int .u8 0, .int .u8 0, .int .u8 0, .int .u8 0, .int .u8 0, .int .u8 0, .int .u8 0, .int .u8 0, .int .u8 0, .int .u8 0, .int .u8 0, .int .u8 0, .int .u8 0, .int .u8 0, .int .u8 0, .int .u8 0, .int .u8 0, .int .u8 0, .int .u8 0, .int .u8 0, .int .u8 0, .int .u8 0, .int .u8 0, .int .u8 0, .int .u8 0, .int .u8 0, .int .u8 0, .int .u8 0, .int .u8 0, .int .u8 0, .int .u8 0, .int .u8 0, .int .u8 0, .int .u8 0, .int .u8 0, .int .u8 0, .int .u8 0, .int .u8 0, .int .u8 0, .int .u8 0, .int .u8 0, .int .u8 0, .int .u8 0, .int .u8 0, .int .u8 0, .int .u8 0, .int .u8 0, .int .u8 0, .int .u8 0, .int .u8 0, .int .u8 0, .int .u8 0, .int .u8 0, .int .u8 0, .int .u8 0, .int .u8 0, .int .u8 0, .int .u8 0, .int .u8 0, .int .u8 0, .int .u8 0], .int .i64 15]) ∧ Bw w w' := by
  go_enter Tryd.func30, Tryd.ntmps30
  refine ve_go ?_
  simp only [List.map_cons, List.map_nil]
  refine vseq ?_
  apply vrp
  · apply VE.cons
    · exact ev_alloc rfl rfl (gn rfl) Tryd.zeroValue24
    simp only [nmx, seval]
    apply VE.cons
    · exact ev_assign rfl (gn rfl)
    simp only [nmx, seval]
    exact VE.nil _
  · kernel_rfl
  change VOk _ _ _ _ _
  refine vseq ?_
  refine vseq ?_
  apply vrp
  · apply VE.cons
    · exact ev_move rfl (gn rfl)
    simp only [nmx, seval]
    apply VE.cons
    · exact ev_len rfl (gn rfl) rfl Tryd.underlying48 (rdg_arg hv)
    simp only [nmx, seval]
    apply VE.cons
    · exact ev_neq (p := false) rfl (gn rfl) rfl rfl (by decide)
    simp only [nmx, seval]
    apply VE.cons
    · exact ev_move rfl (gn rfl)
    simp only [nmx, seval]
    apply VE.cons
    · first | exact Ev.skip (fun _ => rfl) | exact ev_move rfl (fun _ => rfl)
    simp only [nmx, seval]
    apply VE.cons
    · first | exact Ev.skip (fun _ => rfl) | exact ev_idx rfl (fun _ => rfl) rfl rfl Tryd.underlying48 Tryd.sizeOf5 (rdg_arg hv) (by decide) (by decide)
    simp only [nmx, seval]
    apply VE.cons
    · first | exact Ev.skip (fun _ => rfl) | exact ev_loadi rfl (fun _ => rfl) rfl Tryd.underlying5 rfl (rdg_arg hv) rfl
    simp only [nmx, seval]
    apply VE.cons
    · first | exact Ev.skip (fun _ => rfl) | exact ev_neq (p := false) rfl (fun _ => rfl) rfl rfl (by decide)
    simp only [nmx, seval]
    apply VE.cons
    · first | exact ev_pick_t rfl (gn rfl) rfl rfl | exact ev_pick_f rfl (gn rfl) rfl rfl
    simp only [nmx, seval]
    exact VE.nil _
  · kernel_rfl
  change VOk _ _ _ _ _
  refine vcond_f rfl ?_
  refine vskip ?_
  change VOk _ _ _ _ _
  refine vseq ?_
  apply vrd (by kernel_rfl)
  · apply VE.cons
    · exact ev_move rfl (gn rfl)
    simp only [nmx, seval]
    apply VE.cons
    · exact ev_cut (a := 1) (b := 33) rfl (gn rfl) rfl Tryd.underlying48 Tryd.sizeOf5 (rdg_arg hv) rfl rfl (by decide) (by decide)
    simp only [nmx, seval]
    apply VE.cons
    · exact ev_arrs rfl (gn rfl) rfl Tryd.underlying22 (rdg_cut (lo := 1) (hi := 33) (rdg_arg hv) (by decide) (by decide)) (by decide)
    simp only [nmx, seval]
    apply VE.cons
    · exact ev_loadarr (vs := l32 x) rfl (gn rfl) rfl Tryd.underlying22 rfl Tryd.sizeOf22 (rdg_cut (lo := 1) (hi := 33) (rdg_arg hv) (by decide) (by decide)) rfl rfl (by decide)
    simp only [nmx, seval]
    apply VE.cons
    · exact ev_move rfl (gn rfl)
    simp only [nmx, seval]
    apply VE.cons
    · exact ev_cut (a := 33) (b := 65) rfl (gn rfl) rfl Tryd.underlying48 Tryd.sizeOf5 (rdg_arg hv) rfl rfl (by decide) (by decide)
    simp only [nmx, seval]
    apply VE.cons
    · exact ev_arrs rfl (gn rfl) rfl Tryd.underlying22 (rdg_cut (lo := 33) (hi := 65) (rdg_arg hv) (by decide) (by decide)) (by decide)
    simp only [nmx, seval]
    apply VE.cons
    · exact ev_loadarr (vs := l32 y) rfl (gn rfl) rfl Tryd.underlying22 rfl Tryd.sizeOf22 (rdg_cut (lo := 33) (hi := 65) (rdg_arg hv) (by decide) (by decide)) rfl rfl (by decide)
    simp only [nmx, seval]
    apply VE.cons
    · exact ev_build rfl (gn rfl) rfl (built24_2 x y)
    simp only [nmx, seval]
    apply VE.cons
    · exact ev_alloc rfl rfl (gn rfl) Tryd.zeroValue24
    simp only [nmx, seval]
    apply VE.cons
    · exact ev_store rfl (gn rfl) rfl rfl rfl Tryd.sizeOf24 rfl (by simp) rfl
    simp only [nmx, seval]
    exact VE.nil _
  · kernel_rfl
  change VOk _ _ _ _ _
  refine vseq ?_
  refine vseq ?_
  apply vrd (by kernel_rfl)
  · apply VE.cons
    · exact ev_callnewf rfl rfl (gn rfl) rfl (en_of Tryd.func35 (by kernel_rfl) rfl) (modc pp) 83 (fun w' hw' => newField_ok w' (hL.bw hw'))
    simp only [nmx, seval]
    apply VE.cons
    · first | exact ev_load rfl (gn rfl) rfl rfl Tryd.underlying24 rfl Tryd.sizeOf24 rfl rfl | exact ev_loadx rfl (gn rfl) rfl Tryd.underlying24 rfl Tryd.sizeOf24 (by assumption) rfl | exact ev_loada rfl (gn rfl) rfl rfl Tryd.underlying24 rfl Tryd.sizeOf24 rfl
    simp only [nmx, seval]
    apply VE.cons
    · exact ev_callp (v := .bool false) [24] rfl (gn rfl) rfl (en_of Tryd.func36 (by kernel_rfl) rfl) (fun ρ S w' hb hR => (h ▸ on_ok hx hy w' (at_ownx hR (by simp) rfl) (hL.bw hb)).mono fun _ _ h => ⟨h.1, h.2.b⟩)
    simp only [nmx, seval]
    apply VE.cons
    · exact ev_not rfl (gn rfl) rfl
    simp only [nmx, seval]
    exact VE.nil _
  · kernel_rfl
  change VOk _ _ _ _ _
  refine vcond_t rfl ?_
  refine vseq ?_
  apply vrp
  · apply VE.cons
    · exact ev_build rfl (gn rfl) rfl (built24_0)
    simp only [nmx, seval]
    apply VE.cons
    · exact ev_store rfl (gn rfl) rfl rfl rfl Tryd.sizeOf24 rfl (by simp) rfl
    simp only [nmx, seval]
    apply VE.cons
    · exact ev_assign rfl (gn rfl)
    simp only [nmx, seval]
    exact VE.nil _
  · kernel_rfl
  change VOk _ _ _ _ _
  refine vret ?_
  refine post_ret (res2 Tryd.results30 (rv_cell rfl rfl Tryd.underlying24 rfl Tryd.sizeOf24 rfl rfl) (rv_tmp rfl)) ?_
  intro ρ w' hr
  exact ⟨rfl, hr.1⟩
theorem ne_b32 {x y : Nat} (hx : x < R) (hy : y < R) (p q : Operand) (w : World) : (do eqGuard .neq 22 p q (B32 x) (B32 y); binOp .neq 22 (B32 x) (B32 y) : Sem Value).run Tryd.prog w = .ok (.bool (decide (x ≠ y))) w := by
  unfold B32
  go_simp
  rw [eqB2 _ hx hy]
  by_cases h : x = y <;> simp [h, Result.andThen]
theorem neb_z {n : Nat} (hn : n < R) (h : n = 0) (p q : Operand) (w : World) : (do eqGuard .neq 22 p q (B32 n) (.agg #[.int .u8 0, .int .u8 0, .int .u8 0, .int .u8 0, .int .u8 0, .int .u8 0, .int .u8 0, .int .u8 0, .int .u8 0, .int .u8 0, .int .u8 0, .int .u8 0, .int .u8 0, .int .u8 0, .int .u8 0, .int .u8 0, .int .u8 0, .int .u8 0, .int .u8 0, .int .u8 0, .int .u8 0, .int .u8 0, .int .u8 0, .int .u8 0, .int .u8 0, .int .u8 0, .int .u8 0, .int .u8 0, .int .u8 0, .int .u8 0, .int .u8 0, .int .u8 0]); binOp .neq 22 (B32 n) (.agg #[.int .u8 0, .int .u8 0, .int .u8 0, .int .u8 0, .int .u8 0, .int .u8 0, .int .u8 0, .int .u8 0, .int .u8 0, .int .u8 0, .int .u8 0, .int .u8 0, .int .u8 0, .int .u8 0, .int .u8 0, .int .u8 0, .int .u8 0, .int .u8 0, .int .u8 0, .int .u8 0, .int .u8 0, .int .u8 0, .int .u8 0, .int .u8 0, .int .u8 0, .int .u8 0, .int .u8 0, .int .u8 0, .int .u8 0, .int .u8 0, .int .u8 0, .int .u8 0]) : Sem Value).run Tryd.prog w = .ok (.bool false) w := by
  have := ne_b32 hn (by decide : 0 < R) p q w; rw [decide_eq_false (by omega)] at this; exact this
theorem neb_nz {n : Nat} (hn : n < R) (h : n ≠ 0) (p q : Operand) (w : World) : (do eqGuard .neq 22 p q (B32 n) (.agg #[.int .u8 0, .int .u8 0, .int .u8 0, .int .u8 0, .int .u8 0, .int .u8 0, .int .u8 0, .int .u8 0, .int .u8 0, .int .u8 0, .int .u8 0, .int .u8 0, .int .u8 0, .int .u8 0, .int .u8 0, .int .u8 0, .int .u8 0, .int .u8 0, .int .u8 0, .int .u8 0, .int .u8 0, .int .u8 0, .int .u8 0, .int .u8 0, .int .u8 0, .int .u8 0, .int .u8 0, .int .u8 0, .int .u8 0, .int .u8 0, .int .u8 0, .int .u8 0]); binOp .neq 22 (B32 n) (.agg #[.int .u8 0, .int .u8 0, .int .u8 0, .int .u8 0, .int .u8 0, .int .u8 0, .int .u8 0, .int .u8 0, .int .u8 0, .int .u8 0, .int .u8 0, .int .u8 0, .int .u8 0, .int .u8 0, .int .u8 0, .int .u8 0, .int .u8 0, .int .u8 0, .int .u8 0, .int .u8 0, .int .u8 0, .int .u8 0, .int .u8 0, .int .u8 0, .int .u8 0, .int .u8 0, .int .u8 0, .int .u8 0, .int .u8 0, .int .u8 0, .int .u8 0, .int .u8 0]) : Sem Value).run Tryd.prog w = .ok (.bool true) w := by
  have := ne_b32 hn (by decide : 0 < R) p q w; rw [decide_eq_true (by omega)] at this; exact this
theorem neb_self {n : Nat} (hn : n < R) (p q : Operand) (w : World) : (do eqGuard .neq 22 p q (B32 n) (B32 n); binOp .neq 22 (B32 n) (B32 n) : Sem Value).run Tryd.prog w = .ok (.bool false) w := by
  have := ne_b32 hn hn p q w; rw [decide_eq_false (by omega)] at this; exact this
def sec (a : Nat) : Bool := decide (a ≠ 0 ∧ a < nn)
theorem sec_z {a : Nat} (ha : a < R) (w : World) (_hL : Laid w) (h : a = 0) : Calls Tryd.prog 50 #[B32 a] w fun e w' => e = .returned (.bool false) ∧ Bw w w' := by
  go_enter Tryd.func50, Tryd.ntmps50
  refine ve_go ?_
  simp only [List.map_cons, List.map_nil]
  refine vseq ?_
  apply vrp
  · apply VE.cons
    · exact ev_box rfl rfl (gn rfl) rfl
    simp only [nmx, seval]
    apply VE.cons
    · exact ev_assign rfl (gn rfl)
    simp only [nmx, seval]
    exact VE.nil _
  · kernel_rfl
  change VOk _ _ _ _ _
  refine vseq ?_
  apply vrd (by kernel_rfl)
  · apply VE.cons
    · first | exact ev_load rfl (gn rfl) rfl rfl Tryd.underlying22 rfl Tryd.sizeOf22 rfl rfl | exact ev_loadx rfl (gn rfl) rfl Tryd.underlying22 rfl Tryd.sizeOf22 (by assumption) rfl | exact ev_loada rfl (gn rfl) rfl rfl Tryd.underlying22 rfl Tryd.sizeOf22 rfl
    simp only [nmx, seval]
    apply VE.cons
    · refine ev_pure' (gn rfl) (fun ρ w => by simp only [VS.act, SV.c, List.map_cons, List.map_nil]; go_simp; exact rfl) (fun _ _ => rfl)
    simp only [nmx, seval]
    apply VE.cons
    · exact ev_bin (c := .bool false) rfl (gn rfl) rfl rfl (fun w => neb_z ha h _ _ w)
    simp only [nmx, seval]
    apply VE.cons
    · exact ev_move rfl (gn rfl)
    simp only [nmx, seval]
    apply VE.cons
    · first | exact Ev.skip (fun _ => rfl) | exact ev_load rfl (fun _ => rfl) rfl rfl Tryd.underlying22 rfl Tryd.sizeOf22 rfl rfl | exact ev_loadx rfl (fun _ => rfl) rfl Tryd.underlying22 rfl Tryd.sizeOf22 (by assumption) rfl | exact ev_loada rfl (fun _ => rfl) rfl rfl Tryd.underlying22 rfl Tryd.sizeOf22 rfl
    simp only [nmx, seval]
    apply VE.cons
    · first | exact Ev.skip (fun _ => rfl) | refine ev_pure' (fun _ => rfl) (fun ρ w => by simp only [VS.act, SV.c, List.map_cons, List.map_nil]; go_simp; exact rfl) (fun _ _ => rfl)
    simp only [nmx, seval]
    apply VE.cons
    · first | exact Ev.skip (fun _ => rfl) | exact ev_load rfl (fun _ => rfl) rfl rfl Tryd.underlying59 rfl Tryd.sizeOf59 rfl rfl | exact ev_loadx rfl (fun _ => rfl) rfl Tryd.underlying59 rfl Tryd.sizeOf59 (by assumption) rfl | exact ev_loada rfl (fun _ => rfl) rfl rfl Tryd.underlying59 rfl Tryd.sizeOf59 rfl
    simp only [nmx, seval]
    apply VE.cons
    · first | exact Ev.skip (fun _ => rfl) | refine ev_pure' (fun _ => rfl) (fun ρ w => by simp only [VS.act, SV.c, List.map_cons, List.map_nil]; go_simp; exact rfl) (fun _ _ => rfl)
    simp only [nmx, seval]
    apply VE.cons
    · first | exact ev_pick_t rfl (gn rfl) rfl rfl | exact ev_pick_f rfl (gn rfl) rfl rfl
    simp only [nmx, seval]
    apply VE.cons
    · exact ev_assign rfl (gn rfl)
    simp only [nmx, seval]
    exact VE.nil _
  · kernel_rfl
  change VOk _ _ _ _ _
  refine vret ?_
  refine post_ret (res1 Tryd.results50 (rv_tmp rfl)) ?_
  intro ρ w' hr
  exact ⟨rfl, hr.1⟩
theorem sec_n {a : Nat} (ha : a < R) (w : World) (hL : Laid w) (h : a ≠ 0) : Calls Tryd.prog 50 #[B32 a] w fun e w' => e = .returned (.bool (decide (a < nn))) ∧ Bw w w' := by
  go_enter Tryd.func50, Tryd.ntmps50
  refine ve_go ?_
  simp only [List.map_cons, List.map_nil]
  refine vseq ?_
  apply vrp
  · apply VE.cons
    · exact ev_box rfl rfl (gn rfl) rfl
    simp only [nmx, seval]
    apply VE.cons
    · exact ev_assign rfl (gn rfl)
    simp only [nmx, seval]
    exact VE.nil _
  · kernel_rfl
  change VOk _ _ _ _ _
  refine vseq ?_
  apply vrd (by kernel_rfl)
  · apply VE.cons
    · first | exact ev_load rfl (gn rfl) rfl rfl Tryd.underlying22 rfl Tryd.sizeOf22 rfl rfl | exact ev_loadx rfl (gn rfl) rfl Tryd.underlying22 rfl Tryd.sizeOf22 (by assumption) rfl | exact ev_loada rfl (gn rfl) rfl rfl Tryd.underlying22 rfl Tryd.sizeOf22 rfl
    simp only [nmx, seval]
    apply VE.cons
    · refine ev_pure' (gn rfl) (fun ρ w => by simp only [VS.act, SV.c, List.map_cons, List.map_nil]; go_simp; exact rfl) (fun _ _ => rfl)
    simp only [nmx, seval]
    apply VE.cons
    · exact ev_bin (c := .bool true) rfl (gn rfl) rfl rfl (fun w => neb_nz ha h _ _ w)
    simp only [nmx, seval]
    apply VE.cons
    · exact ev_move rfl (gn rfl)
    simp only [nmx, seval]
    apply VE.cons
    · first | exact Ev.skip (fun _ => rfl) | exact ev_load rfl (fun _ => rfl) rfl rfl Tryd.underlying22 rfl Tryd.sizeOf22 rfl rfl | exact ev_loadx rfl (fun _ => rfl) rfl Tryd.underlying22 rfl Tryd.sizeOf22 (by assumption) rfl | exact ev_loada rfl (fun _ => rfl) rfl rfl Tryd.underlying22 rfl Tryd.sizeOf22 rfl
    simp only [nmx, seval]
    apply VE.cons
    · first | exact Ev.skip (fun _ => rfl) | exact ev_call rfl (fun _ => rfl) rfl (en_of Tryd.func40 (by kernel_rfl) rfl) (fun w' hw' => ofN a ha w')
    simp only [nmx, seval]
    apply VE.cons
    · first | exact Ev.skip (fun _ => rfl) | exact ev_loadx rfl (fun _ => rfl) rfl Tryd.underlying59 rfl Tryd.sizeOf59 (hL.nn) rfl
    simp only [nmx, seval]
    apply VE.cons
    · first | exact Ev.skip (fun _ => rfl) | exact ev_call rfl (fun _ => rfl) rfl (en_of Tryd.func52 (by kernel_rfl) rfl) (fun w' hw' => less_ok a nn ha (by decide) w')
    simp only [nmx, seval]
    apply VE.cons
    · first | exact ev_pick_t rfl (gn rfl) rfl rfl | exact ev_pick_f rfl (gn rfl) rfl rfl
    simp only [nmx, seval]
    apply VE.cons
    · exact ev_assign rfl (gn rfl)
    simp only [nmx, seval]
    exact VE.nil _
  · kernel_rfl
  change VOk _ _ _ _ _
  refine vret ?_
  refine post_ret (res1 Tryd.results50 (rv_tmp rfl)) ?_
  intro ρ w' hr
  exact ⟨rfl, hr.1⟩
theorem sec_ok {a : Nat} (ha : a < R) (w : World) (hL : Laid w) : Calls Tryd.prog 50 #[B32 a] w fun e w' => e = .returned (.bool (sec a)) ∧ Bw w w' := by
  by_cases h : a = 0
  · have e : sec a = false := decide_eq_false (fun c => c.1 h)
    rw [e]; exact sec_z ha w hL h
  · have e : sec a = decide (a < nn) := by unfold sec; simp [h]
    rw [e]; exact sec_n ha w hL h
theorem fsec_z {a : Nat} (ha : a < R) (w : World) (h : a = 0) : Calls Tryd.prog 32 #[B32 a] w fun e w' => e = .returned (.bool false) ∧ Bw w w' := by
  go_enter Tryd.func32, Tryd.ntmps32
  refine ve_go ?_
  simp only [List.map_cons, List.map_nil]
  refine vseq ?_
  apply vrp
  · apply VE.cons
    · exact ev_box rfl rfl (gn rfl) rfl
    simp only [nmx, seval]
    apply VE.cons
    · exact ev_assign rfl (gn rfl)
    simp only [nmx, seval]
    exact VE.nil _
  · kernel_rfl
  change VOk _ _ _ _ _
  refine vseq ?_
  apply vrp
  · apply VE.cons
    · first | exact ev_load rfl (gn rfl) rfl rfl Tryd.underlying22 rfl Tryd.sizeOf22 rfl rfl | exact ev_loadx rfl (gn rfl) rfl Tryd.underlying22 rfl Tryd.sizeOf22 (by assumption) rfl | exact ev_loada rfl (gn rfl) rfl rfl Tryd.underlying22 rfl Tryd.sizeOf22 rfl
    simp only [nmx, seval]
    apply VE.cons
    · refine ev_pure' (gn rfl) (fun ρ w => by simp only [VS.act, SV.c, List.map_cons, List.map_nil]; go_simp; exact rfl) (fun _ _ => rfl)
    simp only [nmx, seval]
    apply VE.cons
    · exact ev_bin (c := .bool false) rfl (gn rfl) rfl rfl (fun w => neb_z ha h _ _ w)
    simp only [nmx, seval]
    apply VE.cons
    · exact ev_move rfl (gn rfl)
    simp only [nmx, seval]
    apply VE.cons
    · first | exact Ev.skip (fun _ => rfl) | exact ev_load rfl (fun _ => rfl) rfl rfl Tryd.underlying22 rfl Tryd.sizeOf22 rfl rfl | exact ev_loadx rfl (fun _ => rfl) rfl Tryd.underlying22 rfl Tryd.sizeOf22 (by assumption) rfl | exact ev_loada rfl (fun _ => rfl) rfl rfl Tryd.underlying22 rfl Tryd.sizeOf22 rfl
    simp only [nmx, seval]
    apply VE.cons
    · first | exact Ev.skip (fun _ => rfl) | refine ev_pure' (fun _ => rfl) (fun ρ w => by simp only [VS.act, SV.c, List.map_cons, List.map_nil]; go_simp; exact rfl) (fun _ _ => rfl)
    simp only [nmx, seval]
    apply VE.cons
    · first | exact Ev.skip (fun _ => rfl) | refine ev_pure' (fun _ => rfl) (fun ρ w => by simp only [VS.act, SV.c, List.map_cons, List.map_nil]; go_simp; exact rfl) (fun _ _ => rfl)
    simp only [nmx, seval]
    apply VE.cons
    · first | exact Ev.skip (fun _ => rfl) | refine ev_pure' (fun _ => rfl) (fun ρ w => by simp only [VS.act, SV.c, List.map_cons, List.map_nil]; go_simp; exact rfl) (fun _ _ => rfl)
    simp only [nmx, seval]
    apply VE.cons
    · first | exact ev_pick_t rfl (gn rfl) rfl rfl | exact ev_pick_f rfl (gn rfl) rfl rfl
    simp only [nmx, seval]
    apply VE.cons
    · exact ev_assign rfl (gn rfl)
    simp only [nmx, seval]
    exact VE.nil _
  · kernel_rfl
  change VOk _ _ _ _ _
  refine vret ?_
  refine post_ret (res1 Tryd.results32 (rv_tmp rfl)) ?_
  intro ρ w' hr
  exact ⟨rfl, hr.1⟩
theorem fsec_n {a : Nat} (ha : a < R) (w : World) (h : a ≠ 0) : Calls Tryd.prog 32 #[B32 a] w fun e w' => e = .returned (.bool (decide (a < nn))) ∧ Bw w w' := by
  go_enter Tryd.func32, Tryd.ntmps32
  refine ve_go ?_
  simp only [List.map_cons, List.map_nil]
  refine vseq ?_
  apply vrp
  · apply VE.cons
    · exact ev_box rfl rfl (gn rfl) rfl
    simp only [nmx, seval]
    apply VE.cons
    · exact ev_assign rfl (gn rfl)
    simp only [nmx, seval]
    exact VE.nil _
  · kernel_rfl
  change VOk _ _ _ _ _
  refine vseq ?_
  apply vrp
  · apply VE.cons
    · first | exact ev_load rfl (gn rfl) rfl rfl Tryd.underlying22 rfl Tryd.sizeOf22 rfl rfl | exact ev_loadx rfl (gn rfl) rfl Tryd.underlying22 rfl Tryd.sizeOf22 (by assumption) rfl | exact ev_loada rfl (gn rfl) rfl rfl Tryd.underlying22 rfl Tryd.sizeOf22 rfl
    simp only [nmx, seval]
    apply VE.cons
    · refine ev_pure' (gn rfl) (fun ρ w => by simp only [VS.act, SV.c, List.map_cons, List.map_nil]; go_simp; exact rfl) (fun _ _ => rfl)
    simp only [nmx, seval]
    apply VE.cons
    · exact ev_bin (c := .bool true) rfl (gn rfl) rfl rfl (fun w => neb_nz ha h _ _ w)
    simp only [nmx, seval]
    apply VE.cons
    · exact ev_move rfl (gn rfl)
    simp only [nmx, seval]
    apply VE.cons
    · first | exact Ev.skip (fun _ => rfl) | exact ev_load rfl (fun _ => rfl) rfl rfl Tryd.underlying22 rfl Tryd.sizeOf22 rfl rfl | exact ev_loadx rfl (fun _ => rfl) rfl Tryd.underlying22 rfl Tryd.sizeOf22 (by assumption) rfl | exact ev_loada rfl (fun _ => rfl) rfl rfl Tryd.underlying22 rfl Tryd.sizeOf22 rfl
    simp only [nmx, seval]
    apply VE.cons
    · first | exact Ev.skip (fun _ => rfl) | exact ev_call rfl (fun _ => rfl) rfl (en_of Tryd.func19 (by kernel_rfl) rfl) (fun w' hw' => rofN a ha w')
    simp only [nmx, seval]
    apply VE.cons
    · first | exact Ev.skip (fun _ => rfl) | exact ev_call rfl (fun _ => rfl) rfl (en_of Tryd.func16 (by kernel_rfl) rfl) (fun w' hw' => c_N w')
    simp only [nmx, seval]
    apply VE.cons
    · first | exact Ev.skip (fun _ => rfl) | exact ev_call rfl (fun _ => rfl) rfl (en_of Tryd.func37 (by kernel_rfl) rfl) (fun w' hw' => rless_ok a nn ha (by decide) w')
    simp only [nmx, seval]
    apply VE.cons
    · first | exact ev_pick_t rfl (gn rfl) rfl rfl | exact ev_pick_f rfl (gn rfl) rfl rfl
    simp only [nmx, seval]
    apply VE.cons
    · exact ev_assign rfl (gn rfl)
    simp only [nmx, seval]
    exact VE.nil _
  · kernel_rfl
  change VOk _ _ _ _ _
  refine vret ?_
  refine post_ret (res1 Tryd.results32 (rv_tmp rfl)) ?_
  intro ρ w' hr
  exact ⟨rfl, hr.1⟩
theorem fsec_ok {a : Nat} (ha : a < R) (w : World) : Calls Tryd.prog 32 #[B32 a] w fun e w' => e = .returned (.bool (sec a)) ∧ Bw w w' := by
  by_cases h : a = 0
  · have e : sec a = false := decide_eq_false (fun c => c.1 h)
    rw [e]; exact fsec_z ha w h
  · have e : sec a = decide (a < nn) := by unfold sec; simp [h]
    rw [e]; exact fsec_n ha w h
def wl : Pt → List Value
  | .inf => []
  | .aff x y => wb x.val y.val
theorem write_pt {p : Pt} (hp : p.on) (w : World) (hL : Laid w) : Calls Tryd.prog 29 #[PV p] w fun e w' => ∃ v, e = .returned v ∧ RetRow w w' v ((wl p).length) 1 5 (wl p) ∧ Bw w w' := by
  cases p with
  | inf => exact write_off (x := 0) (y := 0) (by decide) (by decide) w hL (by decide +kernel)
  | aff x y => exact write_on (val_lt x) (val_lt y) w hL ((dif_pos ⟨x.isLt, y.isLt⟩).trans (onF_iff.2 hp))
theorem wl_len (p : Pt) : (wl p).length = (wl p).length * 1 := (Nat.mul_one _).symm
theorem read_inf {v : Value} {S : Nat → Prop} (w : World) (hL : Laid w) (hv : SlAt w v (wl .inf).length 1 (wl .inf) S) : Calls Tryd.prog 30 #[v] w fun e w' => e = .returned (.tuple #[.agg #[.int .u8 0, .int .u8 0, .int .u8 0, .int .u8 0, .int .u8 0, .int .u8 0, .int .u8 0, .int .u8 0, .int .u8 0, .int .u8 0, .int .u8 0, .int .u8 0, .int .u8 0, .int .u8 0, .int .u8 0, .int .u8 0, .int .u8 0, .int .u8 0, .int .u8 0, .int .u8 0, .int .u8 0, .int .u8 0, .int .u8 0, .int .u8 0, .int .u8 0, .int .u8 0, .int .u8 0, .int .u8 0, .int .u8 0, .int .u8 0, .int .u8 0, .int .u8 0, .int .u8 0, .int .u8 0, .int .u8 0, .int .u8 0, .int .u8 0, .int .u8 0, .int .u8 0, .int .u8 0, .int .u8 0, .int .u8 0, .int .u8 0, .int .u8 0, .int .u8 0, .int .u8 0, .int .u8 0, .int .u8 0, .int .u8 0, .int .u8 0, .int .u8 0, .int .u8 0, .int .u8 0, .int .u8 0, .int .u8 0, .int .u8 0, .int .u8 0, .int .u8 0, .int .u8 0, .int .u8 0, .int .u8 0, .int .u8 0, .int .u8 0, .int .u8 0], .int .i64 15]) ∧ Bw w w' := read_len w hL hv (by decide)
theorem read_pt {p : Pt} (hp : p.on) (hi : p ≠ .inf) {v : Value} {S : Nat → Prop} (w : World) (hL : Laid w) (hv : SlAt w v (wl p).length 1 (wl p) S) : Calls Tryd.prog 30 #[v] w fun e w' => e = .returned (.tuple #[PV p, .int .i64 0]) ∧ Bw w w' := by
  cases p with
  | inf => exact absurd rfl hi
  | aff x y => exact read_on (val_lt x) (val_lt y) w hL hv ((dif_pos ⟨x.isLt, y.isLt⟩).trans (onF_iff.2 hp))
theorem public_f {a : Nat} (ha : a < R) (w : World) (hL : Laid w) (h : sec a = false) : Calls Tryd.prog 31 #[B32 a] w fun e w' => ∃ v, e = .returned (.tuple #[v, .int .i64 1]) ∧ RetRow w w' v (0) 1 5 ([]) ∧ Bw w w' := by
  go_enter Tryd.func31, Tryd.ntmps31
  refine ve_go ?_
  simp only [List.map_cons, List.map_nil]
  refine vseq ?_
  apply vrp
  · apply VE.cons
    · exact ev_box rfl rfl (gn rfl) rfl
    simp only [nmx, seval]
    apply VE.cons
    · exact ev_assign rfl (gn rfl)
    simp only [nmx, seval]
    apply VE.cons
    · exact ev_assign rfl (gn rfl)
    simp only [nmx, seval]
    exact VE.nil _
  · kernel_rfl
  change VOk _ _ _ _ _
  refine vseq ?_
  refine vseq ?_
  apply vrp
  · apply VE.cons
    · first | exact ev_load rfl (gn rfl) rfl rfl Tryd.underlying22 rfl Tryd.sizeOf22 rfl rfl | exact ev_loadx rfl (gn rfl) rfl Tryd.underlying22 rfl Tryd.sizeOf22 (by assumption) rfl | exact ev_loada rfl (gn rfl) rfl rfl Tryd.underlying22 rfl Tryd.sizeOf22 rfl
    simp only [nmx, seval]
    apply VE.cons
    · exact ev_callb (v := .bool false) rfl (gn rfl) rfl (en_of Tryd.func50 (by kernel_rfl) rfl) (fun w' hb => h ▸ sec_ok ha w' (hL.bw hb))
    simp only [nmx, seval]
    apply VE.cons
    · exact ev_not rfl (gn rfl) rfl
    simp only [nmx, seval]
    exact VE.nil _
  · kernel_rfl
  change VOk _ _ _ _ _
  refine vcond_t rfl ?_
  refine vseq ?_
  apply vrp
  · apply VE.cons
    · exact ev_assign rfl (gn rfl)
    simp only [nmx, seval]
    apply VE.cons
    · exact ev_assign rfl (gn rfl)
    simp only [nmx, seval]
    exact VE.nil _
  · kernel_rfl
  change VOk _ _ _ _ _
  refine vret ?_
  refine post_ret (res2 Tryd.results31 (rv_tmp rfl) (rv_tmp rfl)) ?_
  intro ρ w' hr
  exact ⟨_, rfl, ret_nil _ _ _ _, hr.1⟩
theorem public_t {a : Nat} (ha : a < R) {q : Pt} (w : World) (hL : Laid w) (h : sec a = true) (hq : smul a base = q) (oq : q.on) : Calls Tryd.prog 31 #[B32 a] w fun e w' => ∃ v, e = .returned (.tuple #[v, .int .i64 0]) ∧ RetRow w w' v ((wl q).length) 1 5 (wl q) ∧ Bw w w' := by
  go_enter Tryd.func31, Tryd.ntmps31
  refine ve_go ?_
  simp only [List.map_cons, List.map_nil]
  refine vseq ?_
  apply vrp
  · apply VE.cons
    · exact ev_box rfl rfl (gn rfl) rfl
    simp only [nmx, seval]
    apply VE.cons
    · exact ev_assign rfl (gn rfl)
    simp only [nmx, seval]
    apply VE.cons
    · exact ev_assign rfl (gn rfl)
    simp only [nmx, seval]
    exact VE.nil _
  · kernel_rfl
  change VOk _ _ _ _ _
  refine vseq ?_
  refine vseq ?_
  apply vrp
  · apply VE.cons
    · first | exact ev_load rfl (gn rfl) rfl rfl Tryd.underlying22 rfl Tryd.sizeOf22 rfl rfl | exact ev_loadx rfl (gn rfl) rfl Tryd.underlying22 rfl Tryd.sizeOf22 (by assumption) rfl | exact ev_loada rfl (gn rfl) rfl rfl Tryd.underlying22 rfl Tryd.sizeOf22 rfl
    simp only [nmx, seval]
    apply VE.cons
    · exact ev_callb (v := .bool true) rfl (gn rfl) rfl (en_of Tryd.func50 (by kernel_rfl) rfl) (fun w' hb => h ▸ sec_ok ha w' (hL.bw hb))
    simp only [nmx, seval]
    apply VE.cons
    · exact ev_not rfl (gn rfl) rfl
    simp only [nmx, seval]
    exact VE.nil _
  · kernel_rfl
  change VOk _ _ _ _ _
  refine vcond_f rfl ?_
  refine vskip ?_
  change VOk _ _ _ _ _
  refine vseq ?_
  apply vrd (by kernel_rfl)
  · apply VE.cons
    · first | exact ev_load rfl (gn rfl) rfl rfl Tryd.underlying22 rfl Tryd.sizeOf22 rfl rfl | exact ev_loadx rfl (gn rfl) rfl Tryd.underlying22 rfl Tryd.sizeOf22 (by assumption) rfl | exact ev_loada rfl (gn rfl) rfl rfl Tryd.underlying22 rfl Tryd.sizeOf22 rfl
    simp only [nmx, seval]
    apply VE.cons
    · exact ev_call rfl (gn rfl) rfl (en_of Tryd.func10 (by kernel_rfl) rfl) (fun w' hw' => baseP w' (hL.bw hw'))
    simp only [nmx, seval]
    apply VE.cons
    · exact ev_call rfl (gn rfl) rfl (en_of Tryd.func22 (by kernel_rfl) rfl) (fun w' hw' => TimesE ha hq TollEc.base_on w' (hL.bw hw'))
    simp only [nmx, seval]
    apply VE.cons
    · exact ev_callrow [] rfl rfl (gn rfl) rfl (en_of Tryd.func29 (by kernel_rfl) rfl) (wl_len q) (fun ρ S w' hb _ => write_pt oq w' (hL.bw hb))
    simp only [nmx, seval]
    apply VE.cons
    · exact ev_assign rfl (gn rfl)
    simp only [nmx, seval]
    apply VE.cons
    · exact ev_assign rfl (gn rfl)
    simp only [nmx, seval]
    exact VE.nil _
  · kernel_rfl
  change VOk _ _ _ _ _
  refine vret ?_
  refine post_ret (res2 Tryd.results31 (rv_tmp rfl) (rv_tmp rfl)) ?_
  intro ρ w' hr
  exact ⟨_, rfl, ret_row hr rfl, hr.1⟩
theorem shared_f {a : Nat} (ha : a < R) {v : Value} (w : World) (hL : Laid w) (h : sec a = false) : Calls Tryd.prog 33 #[B32 a, v] w fun e w' => e = .returned (.tuple #[.agg #[.int .u8 0, .int .u8 0, .int .u8 0, .int .u8 0, .int .u8 0, .int .u8 0, .int .u8 0, .int .u8 0, .int .u8 0, .int .u8 0, .int .u8 0, .int .u8 0, .int .u8 0, .int .u8 0, .int .u8 0, .int .u8 0, .int .u8 0, .int .u8 0, .int .u8 0, .int .u8 0, .int .u8 0, .int .u8 0, .int .u8 0, .int .u8 0, .int .u8 0, .int .u8 0, .int .u8 0, .int .u8 0, .int .u8 0, .int .u8 0, .int .u8 0, .int .u8 0], .int .i64 1]) ∧ Bw w w' := by
  go_enter Tryd.func33, Tryd.ntmps33
  refine ve_go ?_
  simp only [List.map_cons, List.map_nil]
  refine vseq ?_
  apply vrp
  · apply VE.cons
    · exact ev_box rfl rfl (gn rfl) rfl
    simp only [nmx, seval]
    apply VE.cons
    · exact ev_alloc rfl rfl (gn rfl) Tryd.zeroValue22
    simp only [nmx, seval]
    apply VE.cons
    · exact ev_assign rfl (gn rfl)
    simp only [nmx, seval]
    exact VE.nil _
  · kernel_rfl
  change VOk _ _ _ _ _
  refine vseq ?_
  refine vseq ?_
  apply vrp
  · apply VE.cons
    · first | exact ev_load rfl (gn rfl) rfl rfl Tryd.underlying22 rfl Tryd.sizeOf22 rfl rfl | exact ev_loadx rfl (gn rfl) rfl Tryd.underlying22 rfl Tryd.sizeOf22 (by assumption) rfl | exact ev_loada rfl (gn rfl) rfl rfl Tryd.underlying22 rfl Tryd.sizeOf22 rfl
    simp only [nmx, seval]
    apply VE.cons
    · exact ev_callb (v := .bool false) rfl (gn rfl) rfl (en_of Tryd.func50 (by kernel_rfl) rfl) (fun w' hb => h ▸ sec_ok ha w' (hL.bw hb))
    simp only [nmx, seval]
    apply VE.cons
    · exact ev_not rfl (gn rfl) rfl
    simp only [nmx, seval]
    exact VE.nil _
  · kernel_rfl
  change VOk _ _ _ _ _
  refine vcond_t rfl ?_
  refine vseq ?_
  apply vrp
  · apply VE.cons
    · refine ev_pure' (gn rfl) (fun ρ w => by simp only [VS.act, SV.c, List.map_cons, List.map_nil]; go_simp; exact rfl) (fun _ _ => rfl)
    simp only [nmx, seval]
    apply VE.cons
    · exact ev_store rfl (gn rfl) rfl rfl rfl Tryd.sizeOf22 rfl (by simp) rfl
    simp only [nmx, seval]
    apply VE.cons
    · exact ev_assign rfl (gn rfl)
    simp only [nmx, seval]
    exact VE.nil _
  · kernel_rfl
  change VOk _ _ _ _ _
  refine vret ?_
  refine post_ret (res2 Tryd.results33 (rv_cell rfl rfl Tryd.underlying22 rfl Tryd.sizeOf22 rfl rfl) (rv_tmp rfl)) ?_
  intro ρ w' hr
  exact ⟨rfl, hr.1⟩
theorem shared_e {a : Nat} (ha : a < R) {v : Value} (w : World) (hL : Laid w) (h : sec a = true) (hr0 : ∀ w', Bw w w' → Calls Tryd.prog 30 #[v] w' fun e w'' => e = .returned (.tuple #[.agg #[.int .u8 0, .int .u8 0, .int .u8 0, .int .u8 0, .int .u8 0, .int .u8 0, .int .u8 0, .int .u8 0, .int .u8 0, .int .u8 0, .int .u8 0, .int .u8 0, .int .u8 0, .int .u8 0, .int .u8 0, .int .u8 0, .int .u8 0, .int .u8 0, .int .u8 0, .int .u8 0, .int .u8 0, .int .u8 0, .int .u8 0, .int .u8 0, .int .u8 0, .int .u8 0, .int .u8 0, .int .u8 0, .int .u8 0, .int .u8 0, .int .u8 0, .int .u8 0, .int .u8 0, .int .u8 0, .int .u8 0, .int .u8 0, .int .u8 0, .int .u8 0, .int .u8 0, .int .u8 0, .int .u8 0, .int .u8 0, .int .u8 0, .int .u8 0, .int .u8 0, .int .u8 0, .int .u8 0, .int .u8 0, .int .u8 0, .int .u8 0, .int .u8 0, .int .u8 0, .int .u8 0, .int .u8 0, .int .u8 0, .int .u8 0, .int .u8 0, .int .u8 0, .int .u8 0, .int .u8 0, .int .u8 0, .int .u8 0, .int .u8 0, .int .u8 0], .int .i64 15]) ∧ Bw w' w'') : Calls Tryd.prog 33 #[B32 a, v] w fun e w' => e = .returned (.tuple #[.agg #[.int .u8 0, .int .u8 0, .int .u8 0, .int .u8 0, .int .u8 0, .int .u8 0, .int .u8 0, .int .u8 0, .int .u8 0, .int .u8 0, .int .u8 0, .int .u8 0, .int .u8 0, .int .u8 0, .int .u8 0, .int .u8 0, .int .u8 0, .int .u8 0, .int .u8 0, .int .u8 0, .int .u8 0, .int .u8 0, .int .u8 0, .int .u8 0, .int .u8 0, .int .u8 0, .int .u8 0, .int .u8 0, .int .u8 0, .int .u8 0, .int .u8 0, .int .u8 0], .int .i64 15]) ∧ Bw w w' := by
  go_enter Tryd.func33, Tryd.ntmps33
  refine ve_go ?_
  simp only [List.map_cons, List.map_nil]
  refine vseq ?_
  apply vrp
  · apply VE.cons
    · exact ev_box rfl rfl (gn rfl) rfl
    simp only [nmx, seval]
    apply VE.cons
    · exact ev_alloc rfl rfl (gn rfl) Tryd.zeroValue22
    simp only [nmx, seval]
    apply VE.cons
    · exact ev_assign rfl (gn rfl)
    simp only [nmx, seval]
    exact VE.nil _
  · kernel_rfl
  change VOk _ _ _ _ _
  refine vseq ?_
  refine vseq ?_
  apply vrp
  · apply VE.cons
    · first | exact ev_load rfl (gn rfl) rfl rfl Tryd.underlying22 rfl Tryd.sizeOf22 rfl rfl | exact ev_loadx rfl (gn rfl) rfl Tryd.underlying22 rfl Tryd.sizeOf22 (by assumption) rfl | exact ev_loada rfl (gn rfl) rfl rfl Tryd.underlying22 rfl Tryd.sizeOf22 rfl
    simp only [nmx, seval]
    apply VE.cons
    · exact ev_callb (v := .bool true) rfl (gn rfl) rfl (en_of Tryd.func50 (by kernel_rfl) rfl) (fun w' hb => h ▸ sec_ok ha w' (hL.bw hb))
    simp only [nmx, seval]
    apply VE.cons
    · exact ev_not rfl (gn rfl) rfl
    simp only [nmx, seval]
    exact VE.nil _
  · kernel_rfl
  change VOk _ _ _ _ _
  refine vcond_f rfl ?_
  refine vskip ?_
  change VOk _ _ _ _ _
  refine vseq ?_
  apply vrp
  · apply VE.cons
    · exact ev_move rfl (gn rfl)
    simp only [nmx, seval]
    apply VE.cons
    · exact ev_callb (v := .tuple #[.agg #[.int .u8 0, .int .u8 0, .int .u8 0, .int .u8 0, .int .u8 0, .int .u8 0, .int .u8 0, .int .u8 0, .int .u8 0, .int .u8 0, .int .u8 0, .int .u8 0, .int .u8 0, .int .u8 0, .int .u8 0, .int .u8 0, .int .u8 0, .int .u8 0, .int .u8 0, .int .u8 0, .int .u8 0, .int .u8 0, .int .u8 0, .int .u8 0, .int .u8 0, .int .u8 0, .int .u8 0, .int .u8 0, .int .u8 0, .int .u8 0, .int .u8 0, .int .u8 0, .int .u8 0, .int .u8 0, .int .u8 0, .int .u8 0, .int .u8 0, .int .u8 0, .int .u8 0, .int .u8 0, .int .u8 0, .int .u8 0, .int .u8 0, .int .u8 0, .int .u8 0, .int .u8 0, .int .u8 0, .int .u8 0, .int .u8 0, .int .u8 0, .int .u8 0, .int .u8 0, .int .u8 0, .int .u8 0, .int .u8 0, .int .u8 0, .int .u8 0, .int .u8 0, .int .u8 0, .int .u8 0, .int .u8 0, .int .u8 0, .int .u8 0, .int .u8 0], .int .i64 15]) rfl (gn rfl) rfl (en_of Tryd.func30 (by kernel_rfl) rfl) (fun w' hb => hr0 w' hb)
    simp only [nmx, seval]
    apply VE.cons
    · exact ev_move rfl (gn rfl)
    simp only [nmx, seval]
    apply VE.cons
    · first | exact ev_extract rfl (gn rfl) rfl rfl | exact ev_extractt rfl (gn rfl) rfl rfl
    simp only [nmx, seval]
    apply VE.cons
    · first | exact ev_extract rfl (gn rfl) rfl rfl | exact ev_extractt rfl (gn rfl) rfl rfl
    simp only [nmx, seval]
    apply VE.cons
    · exact ev_alloc rfl rfl (gn rfl) Tryd.zeroValue24
    simp only [nmx, seval]
    apply VE.cons
    · exact ev_store rfl (gn rfl) rfl rfl rfl Tryd.sizeOf24 rfl (by simp) rfl
    simp only [nmx, seval]
    apply VE.cons
    · exact ev_assign rfl (gn rfl)
    simp only [nmx, seval]
    exact VE.nil _
  · kernel_rfl
  change VOk _ _ _ _ _
  refine vseq ?_
  refine vseq ?_
  apply vrp
  · apply VE.cons
    · exact ev_move rfl (gn rfl)
    simp only [nmx, seval]
    apply VE.cons
    · exact ev_neq (p := true) rfl (gn rfl) rfl rfl (by decide)
    simp only [nmx, seval]
    exact VE.nil _
  · kernel_rfl
  change VOk _ _ _ _ _
  refine vcond_t rfl ?_
  refine vseq ?_
  apply vrp
  · apply VE.cons
    · refine ev_pure' (gn rfl) (fun ρ w => by simp only [VS.act, SV.c, List.map_cons, List.map_nil]; go_simp; exact rfl) (fun _ _ => rfl)
    simp only [nmx, seval]
    apply VE.cons
    · exact ev_move rfl (gn rfl)
    simp only [nmx, seval]
    apply VE.cons
    · exact ev_store rfl (gn rfl) rfl rfl rfl Tryd.sizeOf22 rfl (by simp) rfl
    simp only [nmx, seval]
    apply VE.cons
    · exact ev_assign rfl (gn rfl)
    simp only [nmx, seval]
    exact VE.nil _
  · kernel_rfl
  change VOk _ _ _ _ _
  refine vret ?_
  refine post_ret (res2 Tryd.results33 (rv_cell rfl rfl Tryd.underlying22 rfl Tryd.sizeOf22 rfl rfl) (rv_tmp rfl)) ?_
  intro ρ w' hr
  exact ⟨rfl, hr.1⟩
theorem shared_t {a : Nat} (ha : a < R) {q s : Pt} {v : Value} (w : World) (hL : Laid w) (h : sec a = true) (oq : q.on) (hs : smul a q = s) (hr0 : ∀ w', Bw w w' → Calls Tryd.prog 30 #[v] w' fun e w'' => e = .returned (.tuple #[PV q, .int .i64 0]) ∧ Bw w' w'') : Calls Tryd.prog 33 #[B32 a, v] w fun e w' => e = .returned (.tuple #[B32 (xv s), .int .i64 0]) ∧ Bw w w' := by
  go_enter Tryd.func33, Tryd.ntmps33
  refine ve_go ?_
  simp only [List.map_cons, List.map_nil]
  refine vseq ?_
  apply vrp
  · apply VE.cons
    · exact ev_box rfl rfl (gn rfl) rfl
    simp only [nmx, seval]
    apply VE.cons
    · exact ev_alloc rfl rfl (gn rfl) Tryd.zeroValue22
    simp only [nmx, seval]
    apply VE.cons
    · exact ev_assign rfl (gn rfl)
    simp only [nmx, seval]
    exact VE.nil _
  · kernel_rfl
  change VOk _ _ _ _ _
  refine vseq ?_
  refine vseq ?_
  apply vrp
  · apply VE.cons
    · first | exact ev_load rfl (gn rfl) rfl rfl Tryd.underlying22 rfl Tryd.sizeOf22 rfl rfl | exact ev_loadx rfl (gn rfl) rfl Tryd.underlying22 rfl Tryd.sizeOf22 (by assumption) rfl | exact ev_loada rfl (gn rfl) rfl rfl Tryd.underlying22 rfl Tryd.sizeOf22 rfl
    simp only [nmx, seval]
    apply VE.cons
    · exact ev_callb (v := .bool true) rfl (gn rfl) rfl (en_of Tryd.func50 (by kernel_rfl) rfl) (fun w' hb => h ▸ sec_ok ha w' (hL.bw hb))
    simp only [nmx, seval]
    apply VE.cons
    · exact ev_not rfl (gn rfl) rfl
    simp only [nmx, seval]
    exact VE.nil _
  · kernel_rfl
  change VOk _ _ _ _ _
  refine vcond_f rfl ?_
  refine vskip ?_
  change VOk _ _ _ _ _
  refine vseq ?_
  apply vrp
  · apply VE.cons
    · exact ev_move rfl (gn rfl)
    simp only [nmx, seval]
    apply VE.cons
    · exact ev_callb (v := .tuple #[PV q, .int .i64 0]) rfl (gn rfl) rfl (en_of Tryd.func30 (by kernel_rfl) rfl) (fun w' hb => hr0 w' hb)
    simp only [nmx, seval]
    apply VE.cons
    · exact ev_move rfl (gn rfl)
    simp only [nmx, seval]
    apply VE.cons
    · first | exact ev_extract rfl (gn rfl) rfl rfl | exact ev_extractt rfl (gn rfl) rfl rfl
    simp only [nmx, seval]
    apply VE.cons
    · first | exact ev_extract rfl (gn rfl) rfl rfl | exact ev_extractt rfl (gn rfl) rfl rfl
    simp only [nmx, seval]
    apply VE.cons
    · exact ev_alloc rfl rfl (gn rfl) Tryd.zeroValue24
    simp only [nmx, seval]
    apply VE.cons
    · exact ev_store rfl (gn rfl) rfl rfl rfl Tryd.sizeOf24 rfl (by simp) rfl
    simp only [nmx, seval]
    apply VE.cons
    · exact ev_assign rfl (gn rfl)
    simp only [nmx, seval]
    exact VE.nil _
  · kernel_rfl
  change VOk _ _ _ _ _
  refine vseq ?_
  refine vseq ?_
  apply vrp
  · apply VE.cons
    · exact ev_move rfl (gn rfl)
    simp only [nmx, seval]
    apply VE.cons
    · exact ev_neq (p := false) rfl (gn rfl) rfl rfl (by decide)
    simp only [nmx, seval]
    exact VE.nil _
  · kernel_rfl
  change VOk _ _ _ _ _
  refine vcond_f rfl ?_
  refine vskip ?_
  change VOk _ _ _ _ _
  refine vseq ?_
  apply vrp
  · apply VE.cons
    · first | exact ev_load rfl (gn rfl) rfl rfl Tryd.underlying22 rfl Tryd.sizeOf22 rfl rfl | exact ev_loadx rfl (gn rfl) rfl Tryd.underlying22 rfl Tryd.sizeOf22 (by assumption) rfl | exact ev_loada rfl (gn rfl) rfl rfl Tryd.underlying22 rfl Tryd.sizeOf22 rfl
    simp only [nmx, seval]
    apply VE.cons
    · first | exact ev_load rfl (gn rfl) rfl rfl Tryd.underlying24 rfl Tryd.sizeOf24 rfl rfl | exact ev_loadx rfl (gn rfl) rfl Tryd.underlying24 rfl Tryd.sizeOf24 (by assumption) rfl | exact ev_loada rfl (gn rfl) rfl rfl Tryd.underlying24 rfl Tryd.sizeOf24 rfl
    simp only [nmx, seval]
    apply VE.cons
    · exact ev_call rfl (gn rfl) rfl (en_of Tryd.func22 (by kernel_rfl) rfl) (fun w' hw' => TimesE ha hs oq w' (hL.bw hw'))
    simp only [nmx, seval]
    apply VE.cons
    · exact ev_fieldv rfl (gn rfl) rfl Tryd.underlying24 rfl Tryd.underlying22 rfl Tryd.sizeOf22 (vs := l32 (xv s)) rfl
    simp only [nmx, seval]
    apply VE.cons
    · exact ev_store rfl (gn rfl) rfl rfl rfl Tryd.sizeOf22 rfl (by simp) rfl
    simp only [nmx, seval]
    apply VE.cons
    · exact ev_assign rfl (gn rfl)
    simp only [nmx, seval]
    exact VE.nil _
  · kernel_rfl
  change VOk _ _ _ _ _
  refine vret ?_
  refine post_ret (res2 Tryd.results33 (rv_cell rfl rfl Tryd.underlying22 rfl Tryd.sizeOf22 rfl rfl) (rv_tmp rfl)) ?_
  intro ρ w' hr
  exact ⟨rfl, hr.1⟩
end Go.Proofs.YtbnfanmolphliaaDoor
