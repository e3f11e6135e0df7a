import Derived.Test.YtbnfanmolphliaaDoorFj
import Derived.Test.YtbnfanmolphliaaDoorVp
namespace Go.Proofs.YtbnfanmolphliaaDoor
open Go.RowKit Go.Toll TollMont
open TollEc (F pp cb Jp Pt jdouble jadd smul add base nn neg)
set_option maxHeartbeats 4000000
set_option maxRecDepth 100000
theorem toP_inf : toP 0 0 = .inf := toP_PV (p := .inf) True.intro
theorem AddR0 {p : Pt} (hp : p.on) (w : World) (hL : Laid w) : Calls Tryd.prog 24 #[PV p, .agg #[.int .u8 0, .int .u8 0, .int .u8 0, .int .u8 0, .int .u8 0, .int .u8 0, .int .u8 0, .int .u8 0, .int .u8 0, .int .u8 0, .int .u8 0, .int .u8 0, .int .u8 0, .int .u8 0, .int .u8 0, .int .u8 0, .int .u8 0, .int .u8 0, .int .u8 0, .int .u8 0, .int .u8 0, .int .u8 0, .int .u8 0, .int .u8 0, .int .u8 0, .int .u8 0, .int .u8 0, .int .u8 0, .int .u8 0, .int .u8 0, .int .u8 0, .int .u8 0, .int .u8 0, .int .u8 0, .int .u8 0, .int .u8 0, .int .u8 0, .int .u8 0, .int .u8 0, .int .u8 0, .int .u8 0, .int .u8 0, .int .u8 0, .int .u8 0, .int .u8 0, .int .u8 0, .int .u8 0, .int .u8 0, .int .u8 0, .int .u8 0, .int .u8 0, .int .u8 0, .int .u8 0, .int .u8 0, .int .u8 0, .int .u8 0, .int .u8 0, .int .u8 0, .int .u8 0, .int .u8 0, .int .u8 0, .int .u8 0, .int .u8 0, .int .u8 0]] w fun e w' => e = .returned (PV p) ∧ Gw w w' :=
  AddX (x' := 0) (y' := 0) (xv_lt p) (yv_lt p) (by decide) (by decide) (by rw [toP_PV hp, toP_inf]; exact TollEc.add_inf p) w hL
theorem AddL0 {p : Pt} (hp : p.on) (w : World) (hL : Laid w) : Calls Tryd.prog 24 #[.agg #[.int .u8 0, .int .u8 0, .int .u8 0, .int .u8 0, .int .u8 0, .int .u8 0, .int .u8 0, .int .u8 0, .int .u8 0, .int .u8 0, .int .u8 0, .int .u8 0, .int .u8 0, .int .u8 0, .int .u8 0, .int .u8 0, .int .u8 0, .int .u8 0, .int .u8 0, .int .u8 0, .int .u8 0, .int .u8 0, .int .u8 0, .int .u8 0, .int .u8 0, .int .u8 0, .int .u8 0, .int .u8 0, .int .u8 0, .int .u8 0, .int .u8 0, .int .u8 0, .int .u8 0, .int .u8 0, .int .u8 0, .int .u8 0, .int .u8 0, .int .u8 0, .int .u8 0, .int .u8 0, .int .u8 0, .int .u8 0, .int .u8 0, .int .u8 0, .int .u8 0, .int .u8 0, .int .u8 0, .int .u8 0, .int .u8 0, .int .u8 0, .int .u8 0, .int .u8 0, .int .u8 0, .int .u8 0, .int .u8 0, .int .u8 0, .int .u8 0, .int .u8 0, .int .u8 0, .int .u8 0, .int .u8 0, .int .u8 0, .int .u8 0, .int .u8 0], PV p] w fun e w' => e = .returned (PV p) ∧ Gw w w' :=
  AddX (x := 0) (y := 0) (by decide) (by decide) (xv_lt p) (yv_lt p) (by rw [toP_PV hp, toP_inf]; exact TollEc.inf_add p) w hL
theorem Times0 {n : Nat} (hn : n < R) (w : World) (hL : Laid w) : Calls Tryd.prog 22 #[B32 n, .agg #[.int .u8 0, .int .u8 0, .int .u8 0, .int .u8 0, .int .u8 0, .int .u8 0, .int .u8 0, .int .u8 0, .int .u8 0, .int .u8 0, .int .u8 0, .int .u8 0, .int .u8 0, .int .u8 0, .int .u8 0, .int .u8 0, .int .u8 0, .int .u8 0, .int .u8 0, .int .u8 0, .int .u8 0, .int .u8 0, .int .u8 0, .int .u8 0, .int .u8 0, .int .u8 0, .int .u8 0, .int .u8 0, .int .u8 0, .int .u8 0, .int .u8 0, .int .u8 0, .int .u8 0, .int .u8 0, .int .u8 0, .int .u8 0, .int .u8 0, .int .u8 0, .int .u8 0, .int .u8 0, .int .u8 0, .int .u8 0, .int .u8 0, .int .u8 0, .int .u8 0, .int .u8 0, .int .u8 0, .int .u8 0, .int .u8 0, .int .u8 0, .int .u8 0, .int .u8 0, .int .u8 0, .int .u8 0, .int .u8 0, .int .u8 0, .int .u8 0, .int .u8 0, .int .u8 0, .int .u8 0, .int .u8 0, .int .u8 0, .int .u8 0, .int .u8 0]] w fun e w' => e = .returned (PV .inf) ∧ Gw w w' :=
  TimesX (x := 0) (y := 0) hn (by decide) (by decide) (by rw [toP_inf]; exact TollEc.smul_inf n) w hL
theorem AddBad {x y : Nat} (hx : x < R) (hy : y < R) (hb : toP x y = .inf) {p : Pt} (hp : p.on) (w : World) (hL : Laid w) : Calls Tryd.prog 24 #[PT x y, PV p] w fun e w' => e = .returned (PV p) ∧ Gw w w' :=
  AddX hx hy (xv_lt p) (yv_lt p) (by rw [toP_PV hp, hb]; exact TollEc.inf_add p) w hL
theorem TimesBad {n x y : Nat} (hn : n < R) (hx : x < R) (hy : y < R) (hb : toP x y = .inf) (w : World) (hL : Laid w) : Calls Tryd.prog 22 #[B32 n, PT x y] w fun e w' => e = .returned (PV .inf) ∧ Gw w w' :=
  TimesX hn hx hy (by rw [hb]; exact TollEc.smul_inf n) w hL
theorem toP_bad {x y : Nat} (h : onB x y = false) : toP x y = .inf := by
  unfold onB at h; unfold toP
  split
  · rename_i hl; rw [dif_pos hl] at h; rw [h]; rfl
  · rfl
theorem group_on {a b c : Nat} {p q r pq s qr : Pt} (ha : a < R) (hb : b < R) (hc : c < R) (w : World) (hL : Laid w) (op : p.on) (oq : q.on) (or : r.on) (hp : smul a base = p) (hq : smul b base = q) (hr : smul c base = r) (h1 : add p q = pq) (h2 : add pq r = s) (h3 : add q r = qr) (h4 : add p qr = s) (h5 : add q p = pq) (oq2 : pq.on) (oq3 : qr.on) (hon : (decide (a = 0 ∧ b = 0) || onB a b) = true) : Calls Tryd.prog 6 #[B32 a, B32 b, B32 c] w fun e w' => e = .returned (.bool true) ∧ Gw w w' := by
  go_enter Tryd.func6, Tryd.ntmps6
  refine ve_go ?_
  simp only [List.map_cons, List.map_nil]
  refine vseq ?_
  apply vrp
  · apply VE.cons
    · exact ev_box rfl rfl (gn rfl) rfl
    simp only [nm3, seval]
    apply VE.cons
    · exact ev_box rfl rfl (gn rfl) rfl
    simp only [nm3, seval]
    apply VE.cons
    · exact ev_box rfl rfl (gn rfl) rfl
    simp only [nm3, seval]
    apply VE.cons
    · exact ev_assign rfl (gn rfl)
    simp only [nm3, seval]
    exact VE.nil _
  · kernel_rfl
  change VOk _ _ _ _ _
  refine vseq ?_
  apply vrd (by kernel_rfl)
  · apply VE.cons
    · first | exact ev_load rfl (gn rfl) rfl rfl Tryd.underlying22 rfl Tryd.sizeOf22 rfl rfl | exact ev_loadx rfl (gn rfl) rfl Tryd.underlying22 rfl Tryd.sizeOf22 (by assumption) rfl
    simp only [nm3, seval]
    apply VE.cons
    · exact ev_call rfl (gn rfl) rfl (en_of Tryd.func20 (by kernel_rfl) rfl) (fun w' hw' => ofP ha hp w' (hL.gw hw'))
    simp only [nm3, seval]
    apply VE.cons
    · first | exact ev_load rfl (gn rfl) rfl rfl Tryd.underlying22 rfl Tryd.sizeOf22 rfl rfl | exact ev_loadx rfl (gn rfl) rfl Tryd.underlying22 rfl Tryd.sizeOf22 (by assumption) rfl
    simp only [nm3, seval]
    apply VE.cons
    · exact ev_call rfl (gn rfl) rfl (en_of Tryd.func20 (by kernel_rfl) rfl) (fun w' hw' => ofP hb hq w' (hL.gw hw'))
    simp only [nm3, seval]
    apply VE.cons
    · first | exact ev_load rfl (gn rfl) rfl rfl Tryd.underlying22 rfl Tryd.sizeOf22 rfl rfl | exact ev_loadx rfl (gn rfl) rfl Tryd.underlying22 rfl Tryd.sizeOf22 (by assumption) rfl
    simp only [nm3, seval]
    apply VE.cons
    · exact ev_call rfl (gn rfl) rfl (en_of Tryd.func20 (by kernel_rfl) rfl) (fun w' hw' => ofP hc hr w' (hL.gw hw'))
    simp only [nm3, seval]
    apply VE.cons
    · exact ev_alloc rfl rfl (gn rfl) Tryd.zeroValue24
    simp only [nm3, seval]
    apply VE.cons
    · exact ev_alloc rfl rfl (gn rfl) Tryd.zeroValue24
    simp only [nm3, seval]
    apply VE.cons
    · exact ev_alloc rfl rfl (gn rfl) Tryd.zeroValue24
    simp only [nm3, seval]
    apply VE.cons
    · exact ev_store rfl (gn rfl) rfl rfl rfl Tryd.sizeOf24 rfl (by simp) rfl
    simp only [nm3, seval]
    apply VE.cons
    · exact ev_store rfl (gn rfl) rfl rfl rfl Tryd.sizeOf24 rfl (by simp) rfl
    simp only [nm3, seval]
    apply VE.cons
    · exact ev_store rfl (gn rfl) rfl rfl rfl Tryd.sizeOf24 rfl (by simp) rfl
    simp only [nm3, seval]
    exact VE.nil _
  · kernel_rfl
  change VOk _ _ _ _ _
  refine vseq ?_
  apply vrp
  · apply VE.cons
    · first | exact ev_load rfl (gn rfl) rfl rfl Tryd.underlying22 rfl Tryd.sizeOf22 rfl rfl | exact ev_loadx rfl (gn rfl) rfl Tryd.underlying22 rfl Tryd.sizeOf22 (by assumption) rfl
    simp only [nm3, seval]
    apply VE.cons
    · first | exact ev_load rfl (gn rfl) rfl rfl Tryd.underlying22 rfl Tryd.sizeOf22 rfl rfl | exact ev_loadx rfl (gn rfl) rfl Tryd.underlying22 rfl Tryd.sizeOf22 (by assumption) rfl
    simp only [nm3, seval]
    apply VE.cons
    · exact ev_build rfl (gn rfl) rfl (built24_2 _ _)
    simp only [nm3, seval]
    apply VE.cons
    · exact ev_alloc rfl rfl (gn rfl) Tryd.zeroValue24
    simp only [nm3, seval]
    apply VE.cons
    · exact ev_store rfl (gn rfl) rfl rfl rfl Tryd.sizeOf24 rfl (by simp) rfl
    simp only [nm3, seval]
    exact VE.nil _
  · kernel_rfl
  change VOk _ _ _ _ _
  refine vseq ?_
  refine vseq ?_
  apply vrp
  · apply VE.cons
    · first | exact ev_load rfl (gn rfl) rfl rfl Tryd.underlying24 rfl Tryd.sizeOf24 rfl rfl | exact ev_loadx rfl (gn rfl) rfl Tryd.underlying24 rfl Tryd.sizeOf24 (by assumption) rfl
    simp only [nm3, seval]
    apply VE.cons
    · exact ev_call (v := .bool true) rfl (gn rfl) rfl (en_of Tryd.func17 (by kernel_rfl) rfl) (fun w' hw' => by have := OnP ha hb w' (hL.gw hw'); rw [hon] at this; exact this)
    simp only [nm3, seval]
    exact VE.nil _
  · kernel_rfl
  change VOk _ _ _ _ _
  refine vcond_t rfl ?_
  apply vrp
  · apply VE.cons
    · exact ev_build rfl (gn rfl) rfl built24_0
    simp only [nm3, seval]
    apply VE.cons
    · exact ev_store rfl (gn rfl) rfl rfl rfl Tryd.sizeOf24 rfl (by simp) rfl
    simp only [nm3, seval]
    exact VE.nil _
  · kernel_rfl
  change VOk _ _ _ _ _
  refine vseq ?_
  apply vrd (by kernel_rfl)
  · apply VE.cons
    · exact ev_call (v := .bool true) rfl (gn rfl) rfl (en_of Tryd.func11 (by kernel_rfl) rfl) (fun w' hw' => curves_ok w' (hL.gw hw'))
    simp only [nm3, seval]
    apply VE.cons
    · exact ev_move rfl (gn rfl)
    simp only [nm3, seval]
    apply VE.cons
    · first | exact Ev.skip (fun _ => rfl) | exact ev_load rfl (fun _ => rfl) rfl rfl Tryd.underlying24 rfl Tryd.sizeOf24 rfl rfl | exact ev_loadx rfl (fun _ => rfl) rfl Tryd.underlying24 rfl Tryd.sizeOf24 (by assumption) rfl
    simp only [nm3, seval]
    apply VE.cons
    · first | exact Ev.skip (fun _ => rfl) | exact ev_load rfl (fun _ => rfl) rfl rfl Tryd.underlying24 rfl Tryd.sizeOf24 rfl rfl | exact ev_loadx rfl (fun _ => rfl) rfl Tryd.underlying24 rfl Tryd.sizeOf24 (by assumption) rfl
    simp only [nm3, seval]
    apply VE.cons
    · first | exact Ev.skip (fun _ => rfl) | exact ev_call rfl (fun _ => rfl) rfl (en_of Tryd.func24 (by kernel_rfl) rfl) (fun w' hw' => AddE h1 op oq w' (hL.gw hw'))
    simp only [nm3, seval]
    apply VE.cons
    · first | exact Ev.skip (fun _ => rfl) | exact ev_load rfl (fun _ => rfl) rfl rfl Tryd.underlying24 rfl Tryd.sizeOf24 rfl rfl | exact ev_loadx rfl (fun _ => rfl) rfl Tryd.underlying24 rfl Tryd.sizeOf24 (by assumption) rfl
    simp only [nm3, seval]
    apply VE.cons
    · first | exact Ev.skip (fun _ => rfl) | exact ev_call rfl (fun _ => rfl) rfl (en_of Tryd.func24 (by kernel_rfl) rfl) (fun w' hw' => AddE h2 oq2 or w' (hL.gw hw'))
    simp only [nm3, seval]
    apply VE.cons
    · first | exact Ev.skip (fun _ => rfl) | exact ev_load rfl (fun _ => rfl) rfl rfl Tryd.underlying24 rfl Tryd.sizeOf24 rfl rfl | exact ev_loadx rfl (fun _ => rfl) rfl Tryd.underlying24 rfl Tryd.sizeOf24 (by assumption) rfl
    simp only [nm3, seval]
    apply VE.cons
    · first | exact Ev.skip (fun _ => rfl) | exact ev_load rfl (fun _ => rfl) rfl rfl Tryd.underlying24 rfl Tryd.sizeOf24 rfl rfl | exact ev_loadx rfl (fun _ => rfl) rfl Tryd.underlying24 rfl Tryd.sizeOf24 (by assumption) rfl
    simp only [nm3, seval]
    apply VE.cons
    · first | exact Ev.skip (fun _ => rfl) | exact ev_load rfl (fun _ => rfl) rfl rfl Tryd.underlying24 rfl Tryd.sizeOf24 rfl rfl | exact ev_loadx rfl (fun _ => rfl) rfl Tryd.underlying24 rfl Tryd.sizeOf24 (by assumption) rfl
    simp only [nm3, seval]
    apply VE.cons
    · first | exact Ev.skip (fun _ => rfl) | exact ev_call rfl (fun _ => rfl) rfl (en_of Tryd.func24 (by kernel_rfl) rfl) (fun w' hw' => AddE h3 oq or w' (hL.gw hw'))
    simp only [nm3, seval]
    apply VE.cons
    · first | exact Ev.skip (fun _ => rfl) | exact ev_call rfl (fun _ => rfl) rfl (en_of Tryd.func24 (by kernel_rfl) rfl) (fun w' hw' => AddE h4 op oq3 w' (hL.gw hw'))
    simp only [nm3, seval]
    apply VE.cons
    · first | exact Ev.skip (fun _ => rfl) | exact ev_bin (c := .bool true) rfl (fun _ => rfl) rfl rfl (fun w => eqP_self _ _ _ w)
    simp only [nm3, seval]
    apply VE.cons
    · first | exact ev_pick_t rfl (gn rfl) rfl rfl | exact ev_pick_f rfl (gn rfl) rfl rfl
    simp only [nm3, seval]
    apply VE.cons
    · exact ev_move rfl (gn rfl)
    simp only [nm3, seval]
    apply VE.cons
    · first | exact Ev.skip (fun _ => rfl) | exact ev_load rfl (fun _ => rfl) rfl rfl Tryd.underlying24 rfl Tryd.sizeOf24 rfl rfl | exact ev_loadx rfl (fun _ => rfl) rfl Tryd.underlying24 rfl Tryd.sizeOf24 (by assumption) rfl
    simp only [nm3, seval]
    apply VE.cons
    · first | exact Ev.skip (fun _ => rfl) | exact ev_load rfl (fun _ => rfl) rfl rfl Tryd.underlying24 rfl Tryd.sizeOf24 rfl rfl | exact ev_loadx rfl (fun _ => rfl) rfl Tryd.underlying24 rfl Tryd.sizeOf24 (by assumption) rfl
    simp only [nm3, seval]
    apply VE.cons
    · first | exact Ev.skip (fun _ => rfl) | exact ev_call rfl (fun _ => rfl) rfl (en_of Tryd.func24 (by kernel_rfl) rfl) (fun w' hw' => AddE h1 op oq w' (hL.gw hw'))
    simp only [nm3, seval]
    apply VE.cons
    · first | exact Ev.skip (fun _ => rfl) | exact ev_load rfl (fun _ => rfl) rfl rfl Tryd.underlying24 rfl Tryd.sizeOf24 rfl rfl | exact ev_loadx rfl (fun _ => rfl) rfl Tryd.underlying24 rfl Tryd.sizeOf24 (by assumption) rfl
    simp only [nm3, seval]
    apply VE.cons
    · first | exact Ev.skip (fun _ => rfl) | exact ev_load rfl (fun _ => rfl) rfl rfl Tryd.underlying24 rfl Tryd.sizeOf24 rfl rfl | exact ev_loadx rfl (fun _ => rfl) rfl Tryd.underlying24 rfl Tryd.sizeOf24 (by assumption) rfl
    simp only [nm3, seval]
    apply VE.cons
    · first | exact Ev.skip (fun _ => rfl) | exact ev_call rfl (fun _ => rfl) rfl (en_of Tryd.func24 (by kernel_rfl) rfl) (fun w' hw' => AddE h5 oq op w' (hL.gw hw'))
    simp only [nm3, seval]
    apply VE.cons
    · first | exact Ev.skip (fun _ => rfl) | exact ev_bin (c := .bool true) rfl (fun _ => rfl) rfl rfl (fun w => eqP_self _ _ _ w)
    simp only [nm3, seval]
    apply VE.cons
    · first | exact ev_pick_t rfl (gn rfl) rfl rfl | exact ev_pick_f rfl (gn rfl) rfl rfl
    simp only [nm3, seval]
    apply VE.cons
    · exact ev_move rfl (gn rfl)
    simp only [nm3, seval]
    apply VE.cons
    · first | exact Ev.skip (fun _ => rfl) | exact ev_load rfl (fun _ => rfl) rfl rfl Tryd.underlying24 rfl Tryd.sizeOf24 rfl rfl | exact ev_loadx rfl (fun _ => rfl) rfl Tryd.underlying24 rfl Tryd.sizeOf24 (by assumption) rfl
    simp only [nm3, seval]
    apply VE.cons
    · first | exact Ev.skip (fun _ => rfl) | exact ev_build rfl (fun _ => rfl) rfl built24_0
    simp only [nm3, seval]
    apply VE.cons
    · first | exact Ev.skip (fun _ => rfl) | exact ev_call rfl (fun _ => rfl) rfl (en_of Tryd.func24 (by kernel_rfl) rfl) (fun w' hw' => AddR0 op w' (hL.gw hw'))
    simp only [nm3, seval]
    apply VE.cons
    · first | exact Ev.skip (fun _ => rfl) | exact ev_load rfl (fun _ => rfl) rfl rfl Tryd.underlying24 rfl Tryd.sizeOf24 rfl rfl | exact ev_loadx rfl (fun _ => rfl) rfl Tryd.underlying24 rfl Tryd.sizeOf24 (by assumption) rfl
    simp only [nm3, seval]
    apply VE.cons
    · first | exact Ev.skip (fun _ => rfl) | exact ev_bin (c := .bool true) rfl (fun _ => rfl) rfl rfl (fun w => eqP_self _ _ _ w)
    simp only [nm3, seval]
    apply VE.cons
    · first | exact ev_pick_t rfl (gn rfl) rfl rfl | exact ev_pick_f rfl (gn rfl) rfl rfl
    simp only [nm3, seval]
    apply VE.cons
    · exact ev_move rfl (gn rfl)
    simp only [nm3, seval]
    apply VE.cons
    · first | exact Ev.skip (fun _ => rfl) | exact ev_load rfl (fun _ => rfl) rfl rfl Tryd.underlying24 rfl Tryd.sizeOf24 rfl rfl | exact ev_loadx rfl (fun _ => rfl) rfl Tryd.underlying24 rfl Tryd.sizeOf24 (by assumption) rfl
    simp only [nm3, seval]
    apply VE.cons
    · first | exact Ev.skip (fun _ => rfl) | exact ev_load rfl (fun _ => rfl) rfl rfl Tryd.underlying24 rfl Tryd.sizeOf24 rfl rfl | exact ev_loadx rfl (fun _ => rfl) rfl Tryd.underlying24 rfl Tryd.sizeOf24 (by assumption) rfl
    simp only [nm3, seval]
    apply VE.cons
    · first | exact Ev.skip (fun _ => rfl) | exact ev_call rfl (fun _ => rfl) rfl (en_of Tryd.func24 (by kernel_rfl) rfl) (fun w' hw' => AddL0 op w' (hL.gw hw'))
    simp only [nm3, seval]
    apply VE.cons
    · first | exact Ev.skip (fun _ => rfl) | exact ev_load rfl (fun _ => rfl) rfl rfl Tryd.underlying24 rfl Tryd.sizeOf24 rfl rfl | exact ev_loadx rfl (fun _ => rfl) rfl Tryd.underlying24 rfl Tryd.sizeOf24 (by assumption) rfl
    simp only [nm3, seval]
    apply VE.cons
    · first | exact Ev.skip (fun _ => rfl) | exact ev_bin (c := .bool true) rfl (fun _ => rfl) rfl rfl (fun w => eqP_self _ _ _ w)
    simp only [nm3, seval]
    apply VE.cons
    · first | exact ev_pick_t rfl (gn rfl) rfl rfl | exact ev_pick_f rfl (gn rfl) rfl rfl
    simp only [nm3, seval]
    apply VE.cons
    · exact ev_move rfl (gn rfl)
    simp only [nm3, seval]
    apply VE.cons
    · first | exact Ev.skip (fun _ => rfl) | exact ev_load rfl (fun _ => rfl) rfl rfl Tryd.underlying22 rfl Tryd.sizeOf22 rfl rfl | exact ev_loadx rfl (fun _ => rfl) rfl Tryd.underlying22 rfl Tryd.sizeOf22 (by assumption) rfl
    simp only [nm3, seval]
    apply VE.cons
    · first | exact Ev.skip (fun _ => rfl) | exact ev_load rfl (fun _ => rfl) rfl rfl Tryd.underlying24 rfl Tryd.sizeOf24 rfl rfl | exact ev_loadx rfl (fun _ => rfl) rfl Tryd.underlying24 rfl Tryd.sizeOf24 (by assumption) rfl
    simp only [nm3, seval]
    apply VE.cons
    · first | exact Ev.skip (fun _ => rfl) | exact ev_call rfl (fun _ => rfl) rfl (en_of Tryd.func22 (by kernel_rfl) rfl) (fun w' hw' => Times0 ha w' (hL.gw hw'))
    simp only [nm3, seval]
    apply VE.cons
    · first | exact Ev.skip (fun _ => rfl) | exact ev_build rfl (fun _ => rfl) rfl built24_0
    simp only [nm3, seval]
    apply VE.cons
    · first | exact Ev.skip (fun _ => rfl) | exact ev_bin (c := .bool true) rfl (fun _ => rfl) rfl rfl (fun w => eqP_inf _ _ w)
    simp only [nm3, seval]
    apply VE.cons
    · first | exact ev_pick_t rfl (gn rfl) rfl rfl | exact ev_pick_f rfl (gn rfl) rfl rfl
    simp only [nm3, seval]
    apply VE.cons
    · exact ev_assign rfl (gn rfl)
    simp only [nm3, seval]
    exact VE.nil _
  · kernel_rfl
  change VOk _ _ _ _ _
  refine vret ?_
  refine post_ret (res1 Tryd.results6 (rv_tmp rfl)) ?_
  intro w' hg
  exact ⟨rfl, hg⟩
theorem group_off {a b c : Nat} {p q r pq s qr : Pt} (ha : a < R) (hb : b < R) (hc : c < R) (w : World) (hL : Laid w) (op : p.on) (oq : q.on) (or : r.on) (hp : smul a base = p) (hq : smul b base = q) (hr : smul c base = r) (h1 : add p q = pq) (h2 : add pq r = s) (h3 : add q r = qr) (h4 : add p qr = s) (h5 : add q p = pq) (oq2 : pq.on) (oq3 : qr.on) (hon : (decide (a = 0 ∧ b = 0) || onB a b) = false) (hbad : toP a b = .inf) : Calls Tryd.prog 6 #[B32 a, B32 b, B32 c] w fun e w' => e = .returned (.bool true) ∧ Gw w w' := by
  go_enter Tryd.func6, Tryd.ntmps6
  refine ve_go ?_
  simp only [List.map_cons, List.map_nil]
  refine vseq ?_
  apply vrp
  · apply VE.cons
    · exact ev_box rfl rfl (gn rfl) rfl
    simp only [nm3, seval]
    apply VE.cons
    · exact ev_box rfl rfl (gn rfl) rfl
    simp only [nm3, seval]
    apply VE.cons
    · exact ev_box rfl rfl (gn rfl) rfl
    simp only [nm3, seval]
    apply VE.cons
    · exact ev_assign rfl (gn rfl)
    simp only [nm3, seval]
    exact VE.nil _
  · kernel_rfl
  change VOk _ _ _ _ _
  refine vseq ?_
  apply vrd (by kernel_rfl)
  · apply VE.cons
    · first | exact ev_load rfl (gn rfl) rfl rfl Tryd.underlying22 rfl Tryd.sizeOf22 rfl rfl | exact ev_loadx rfl (gn rfl) rfl Tryd.underlying22 rfl Tryd.sizeOf22 (by assumption) rfl
    simp only [nm3, seval]
    apply VE.cons
    · exact ev_call rfl (gn rfl) rfl (en_of Tryd.func20 (by kernel_rfl) rfl) (fun w' hw' => ofP ha hp w' (hL.gw hw'))
    simp only [nm3, seval]
    apply VE.cons
    · first | exact ev_load rfl (gn rfl) rfl rfl Tryd.underlying22 rfl Tryd.sizeOf22 rfl rfl | exact ev_loadx rfl (gn rfl) rfl Tryd.underlying22 rfl Tryd.sizeOf22 (by assumption) rfl
    simp only [nm3, seval]
    apply VE.cons
    · exact ev_call rfl (gn rfl) rfl (en_of Tryd.func20 (by kernel_rfl) rfl) (fun w' hw' => ofP hb hq w' (hL.gw hw'))
    simp only [nm3, seval]
    apply VE.cons
    · first | exact ev_load rfl (gn rfl) rfl rfl Tryd.underlying22 rfl Tryd.sizeOf22 rfl rfl | exact ev_loadx rfl (gn rfl) rfl Tryd.underlying22 rfl Tryd.sizeOf22 (by assumption) rfl
    simp only [nm3, seval]
    apply VE.cons
    · exact ev_call rfl (gn rfl) rfl (en_of Tryd.func20 (by kernel_rfl) rfl) (fun w' hw' => ofP hc hr w' (hL.gw hw'))
    simp only [nm3, seval]
    apply VE.cons
    · exact ev_alloc rfl rfl (gn rfl) Tryd.zeroValue24
    simp only [nm3, seval]
    apply VE.cons
    · exact ev_alloc rfl rfl (gn rfl) Tryd.zeroValue24
    simp only [nm3, seval]
    apply VE.cons
    · exact ev_alloc rfl rfl (gn rfl) Tryd.zeroValue24
    simp only [nm3, seval]
    apply VE.cons
    · exact ev_store rfl (gn rfl) rfl rfl rfl Tryd.sizeOf24 rfl (by simp) rfl
    simp only [nm3, seval]
    apply VE.cons
    · exact ev_store rfl (gn rfl) rfl rfl rfl Tryd.sizeOf24 rfl (by simp) rfl
    simp only [nm3, seval]
    apply VE.cons
    · exact ev_store rfl (gn rfl) rfl rfl rfl Tryd.sizeOf24 rfl (by simp) rfl
    simp only [nm3, seval]
    exact VE.nil _
  · kernel_rfl
  change VOk _ _ _ _ _
  refine vseq ?_
  apply vrp
  · apply VE.cons
    · first | exact ev_load rfl (gn rfl) rfl rfl Tryd.underlying22 rfl Tryd.sizeOf22 rfl rfl | exact ev_loadx rfl (gn rfl) rfl Tryd.underlying22 rfl Tryd.sizeOf22 (by assumption) rfl
    simp only [nm3, seval]
    apply VE.cons
    · first | exact ev_load rfl (gn rfl) rfl rfl Tryd.underlying22 rfl Tryd.sizeOf22 rfl rfl | exact ev_loadx rfl (gn rfl) rfl Tryd.underlying22 rfl Tryd.sizeOf22 (by assumption) rfl
    simp only [nm3, seval]
    apply VE.cons
    · exact ev_build rfl (gn rfl) rfl (built24_2 _ _)
    simp only [nm3, seval]
    apply VE.cons
    · exact ev_alloc rfl rfl (gn rfl) Tryd.zeroValue24
    simp only [nm3, seval]
    apply VE.cons
    · exact ev_store rfl (gn rfl) rfl rfl rfl Tryd.sizeOf24 rfl (by simp) rfl
    simp only [nm3, seval]
    exact VE.nil _
  · kernel_rfl
  change VOk _ _ _ _ _
  refine vseq ?_
  refine vseq ?_
  apply vrp
  · apply VE.cons
    · first | exact ev_load rfl (gn rfl) rfl rfl Tryd.underlying24 rfl Tryd.sizeOf24 rfl rfl | exact ev_loadx rfl (gn rfl) rfl Tryd.underlying24 rfl Tryd.sizeOf24 (by assumption) rfl
    simp only [nm3, seval]
    apply VE.cons
    · exact ev_call (v := .bool false) rfl (gn rfl) rfl (en_of Tryd.func17 (by kernel_rfl) rfl) (fun w' hw' => by have := OnP ha hb w' (hL.gw hw'); rw [hon] at this; exact this)
    simp only [nm3, seval]
    exact VE.nil _
  · kernel_rfl
  change VOk _ _ _ _ _
  refine vcond_f rfl ?_
  refine vskip ?_
  change VOk _ _ _ _ _
  refine vseq ?_
  apply vrd (by kernel_rfl)
  · apply VE.cons
    · exact ev_call (v := .bool true) rfl (gn rfl) rfl (en_of Tryd.func11 (by kernel_rfl) rfl) (fun w' hw' => curves_ok w' (hL.gw hw'))
    simp only [nm3, seval]
    apply VE.cons
    · exact ev_move rfl (gn rfl)
    simp only [nm3, seval]
    apply VE.cons
    · first | exact Ev.skip (fun _ => rfl) | exact ev_load rfl (fun _ => rfl) rfl rfl Tryd.underlying24 rfl Tryd.sizeOf24 rfl rfl | exact ev_loadx rfl (fun _ => rfl) rfl Tryd.underlying24 rfl Tryd.sizeOf24 (by assumption) rfl
    simp only [nm3, seval]
    apply VE.cons
    · first | exact Ev.skip (fun _ => rfl) | exact ev_load rfl (fun _ => rfl) rfl rfl Tryd.underlying24 rfl Tryd.sizeOf24 rfl rfl | exact ev_loadx rfl (fun _ => rfl) rfl Tryd.underlying24 rfl Tryd.sizeOf24 (by assumption) rfl
    simp only [nm3, seval]
    apply VE.cons
    · first | exact Ev.skip (fun _ => rfl) | exact ev_call rfl (fun _ => rfl) rfl (en_of Tryd.func24 (by kernel_rfl) rfl) (fun w' hw' => AddE h1 op oq w' (hL.gw hw'))
    simp only [nm3, seval]
    apply VE.cons
    · first | exact Ev.skip (fun _ => rfl) | exact ev_load rfl (fun _ => rfl) rfl rfl Tryd.underlying24 rfl Tryd.sizeOf24 rfl rfl | exact ev_loadx rfl (fun _ => rfl) rfl Tryd.underlying24 rfl Tryd.sizeOf24 (by assumption) rfl
    simp only [nm3, seval]
    apply VE.cons
    · first | exact Ev.skip (fun _ => rfl) | exact ev_call rfl (fun _ => rfl) rfl (en_of Tryd.func24 (by kernel_rfl) rfl) (fun w' hw' => AddE h2 oq2 or w' (hL.gw hw'))
    simp only [nm3, seval]
    apply VE.cons
    · first | exact Ev.skip (fun _ => rfl) | exact ev_load rfl (fun _ => rfl) rfl rfl Tryd.underlying24 rfl Tryd.sizeOf24 rfl rfl | exact ev_loadx rfl (fun _ => rfl) rfl Tryd.underlying24 rfl Tryd.sizeOf24 (by assumption) rfl
    simp only [nm3, seval]
    apply VE.cons
    · first | exact Ev.skip (fun _ => rfl) | exact ev_load rfl (fun _ => rfl) rfl rfl Tryd.underlying24 rfl Tryd.sizeOf24 rfl rfl | exact ev_loadx rfl (fun _ => rfl) rfl Tryd.underlying24 rfl Tryd.sizeOf24 (by assumption) rfl
    simp only [nm3, seval]
    apply VE.cons
    · first | exact Ev.skip (fun _ => rfl) | exact ev_load rfl (fun _ => rfl) rfl rfl Tryd.underlying24 rfl Tryd.sizeOf24 rfl rfl | exact ev_loadx rfl (fun _ => rfl) rfl Tryd.underlying24 rfl Tryd.sizeOf24 (by assumption) rfl
    simp only [nm3, seval]
    apply VE.cons
    · first | exact Ev.skip (fun _ => rfl) | exact ev_call rfl (fun _ => rfl) rfl (en_of Tryd.func24 (by kernel_rfl) rfl) (fun w' hw' => AddE h3 oq or w' (hL.gw hw'))
    simp only [nm3, seval]
    apply VE.cons
    · first | exact Ev.skip (fun _ => rfl) | exact ev_call rfl (fun _ => rfl) rfl (en_of Tryd.func24 (by kernel_rfl) rfl) (fun w' hw' => AddE h4 op oq3 w' (hL.gw hw'))
    simp only [nm3, seval]
    apply VE.cons
    · first | exact Ev.skip (fun _ => rfl) | exact ev_bin (c := .bool true) rfl (fun _ => rfl) rfl rfl (fun w => eqP_self _ _ _ w)
    simp only [nm3, seval]
    apply VE.cons
    · first | exact ev_pick_t rfl (gn rfl) rfl rfl | exact ev_pick_f rfl (gn rfl) rfl rfl
    simp only [nm3, seval]
    apply VE.cons
    · exact ev_move rfl (gn rfl)
    simp only [nm3, seval]
    apply VE.cons
    · first | exact Ev.skip (fun _ => rfl) | exact ev_load rfl (fun _ => rfl) rfl rfl Tryd.underlying24 rfl Tryd.sizeOf24 rfl rfl | exact ev_loadx rfl (fun _ => rfl) rfl Tryd.underlying24 rfl Tryd.sizeOf24 (by assumption) rfl
    simp only [nm3, seval]
    apply VE.cons
    · first | exact Ev.skip (fun _ => rfl) | exact ev_load rfl (fun _ => rfl) rfl rfl Tryd.underlying24 rfl Tryd.sizeOf24 rfl rfl | exact ev_loadx rfl (fun _ => rfl) rfl Tryd.underlying24 rfl Tryd.sizeOf24 (by assumption) rfl
    simp only [nm3, seval]
    apply VE.cons
    · first | exact Ev.skip (fun _ => rfl) | exact ev_call rfl (fun _ => rfl) rfl (en_of Tryd.func24 (by kernel_rfl) rfl) (fun w' hw' => AddE h1 op oq w' (hL.gw hw'))
    simp only [nm3, seval]
    apply VE.cons
    · first | exact Ev.skip (fun _ => rfl) | exact ev_load rfl (fun _ => rfl) rfl rfl Tryd.underlying24 rfl Tryd.sizeOf24 rfl rfl | exact ev_loadx rfl (fun _ => rfl) rfl Tryd.underlying24 rfl Tryd.sizeOf24 (by assumption) rfl
    simp only [nm3, seval]
    apply VE.cons
    · first | exact Ev.skip (fun _ => rfl) | exact ev_load rfl (fun _ => rfl) rfl rfl Tryd.underlying24 rfl Tryd.sizeOf24 rfl rfl | exact ev_loadx rfl (fun _ => rfl) rfl Tryd.underlying24 rfl Tryd.sizeOf24 (by assumption) rfl
    simp only [nm3, seval]
    apply VE.cons
    · first | exact Ev.skip (fun _ => rfl) | exact ev_call rfl (fun _ => rfl) rfl (en_of Tryd.func24 (by kernel_rfl) rfl) (fun w' hw' => AddE h5 oq op w' (hL.gw hw'))
    simp only [nm3, seval]
    apply VE.cons
    · first | exact Ev.skip (fun _ => rfl) | exact ev_bin (c := .bool true) rfl (fun _ => rfl) rfl rfl (fun w => eqP_self _ _ _ w)
    simp only [nm3, seval]
    apply VE.cons
    · first | exact ev_pick_t rfl (gn rfl) rfl rfl | exact ev_pick_f rfl (gn rfl) rfl rfl
    simp only [nm3, seval]
    apply VE.cons
    · exact ev_move rfl (gn rfl)
    simp only [nm3, seval]
    apply VE.cons
    · first | exact Ev.skip (fun _ => rfl) | exact ev_load rfl (fun _ => rfl) rfl rfl Tryd.underlying24 rfl Tryd.sizeOf24 rfl rfl | exact ev_loadx rfl (fun _ => rfl) rfl Tryd.underlying24 rfl Tryd.sizeOf24 (by assumption) rfl
    simp only [nm3, seval]
    apply VE.cons
    · first | exact Ev.skip (fun _ => rfl) | exact ev_build rfl (fun _ => rfl) rfl built24_0
    simp only [nm3, seval]
    apply VE.cons
    · first | exact Ev.skip (fun _ => rfl) | exact ev_call rfl (fun _ => rfl) rfl (en_of Tryd.func24 (by kernel_rfl) rfl) (fun w' hw' => AddR0 op w' (hL.gw hw'))
    simp only [nm3, seval]
    apply VE.cons
    · first | exact Ev.skip (fun _ => rfl) | exact ev_load rfl (fun _ => rfl) rfl rfl Tryd.underlying24 rfl Tryd.sizeOf24 rfl rfl | exact ev_loadx rfl (fun _ => rfl) rfl Tryd.underlying24 rfl Tryd.sizeOf24 (by assumption) rfl
    simp only [nm3, seval]
    apply VE.cons
    · first | exact Ev.skip (fun _ => rfl) | exact ev_bin (c := .bool true) rfl (fun _ => rfl) rfl rfl (fun w => eqP_self _ _ _ w)
    simp only [nm3, seval]
    apply VE.cons
    · first | exact ev_pick_t rfl (gn rfl) rfl rfl | exact ev_pick_f rfl (gn rfl) rfl rfl
    simp only [nm3, seval]
    apply VE.cons
    · exact ev_move rfl (gn rfl)
    simp only [nm3, seval]
    apply VE.cons
    · first | exact Ev.skip (fun _ => rfl) | exact ev_load rfl (fun _ => rfl) rfl rfl Tryd.underlying24 rfl Tryd.sizeOf24 rfl rfl | exact ev_loadx rfl (fun _ => rfl) rfl Tryd.underlying24 rfl Tryd.sizeOf24 (by assumption) rfl
    simp only [nm3, seval]
    apply VE.cons
    · first | exact Ev.skip (fun _ => rfl) | exact ev_load rfl (fun _ => rfl) rfl rfl Tryd.underlying24 rfl Tryd.sizeOf24 rfl rfl | exact ev_loadx rfl (fun _ => rfl) rfl Tryd.underlying24 rfl Tryd.sizeOf24 (by assumption) rfl
    simp only [nm3, seval]
    apply VE.cons
    · first | exact Ev.skip (fun _ => rfl) | exact ev_call rfl (fun _ => rfl) rfl (en_of Tryd.func24 (by kernel_rfl) rfl) (fun w' hw' => AddBad ha hb hbad op w' (hL.gw hw'))
    simp only [nm3, seval]
    apply VE.cons
    · first | exact Ev.skip (fun _ => rfl) | exact ev_load rfl (fun _ => rfl) rfl rfl Tryd.underlying24 rfl Tryd.sizeOf24 rfl rfl | exact ev_loadx rfl (fun _ => rfl) rfl Tryd.underlying24 rfl Tryd.sizeOf24 (by assumption) rfl
    simp only [nm3, seval]
    apply VE.cons
    · first | exact Ev.skip (fun _ => rfl) | exact ev_bin (c := .bool true) rfl (fun _ => rfl) rfl rfl (fun w => eqP_self _ _ _ w)
    simp only [nm3, seval]
    apply VE.cons
    · first | exact ev_pick_t rfl (gn rfl) rfl rfl | exact ev_pick_f rfl (gn rfl) rfl rfl
    simp only [nm3, seval]
    apply VE.cons
    · exact ev_move rfl (gn rfl)
    simp only [nm3, seval]
    apply VE.cons
    · first | exact Ev.skip (fun _ => rfl) | exact ev_load rfl (fun _ => rfl) rfl rfl Tryd.underlying22 rfl Tryd.sizeOf22 rfl rfl | exact ev_loadx rfl (fun _ => rfl) rfl Tryd.underlying22 rfl Tryd.sizeOf22 (by assumption) rfl
    simp only [nm3, seval]
    apply VE.cons
    · first | exact Ev.skip (fun _ => rfl) | exact ev_load rfl (fun _ => rfl) rfl rfl Tryd.underlying24 rfl Tryd.sizeOf24 rfl rfl | exact ev_loadx rfl (fun _ => rfl) rfl Tryd.underlying24 rfl Tryd.sizeOf24 (by assumption) rfl
    simp only [nm3, seval]
    apply VE.cons
    · first | exact Ev.skip (fun _ => rfl) | exact ev_call rfl (fun _ => rfl) rfl (en_of Tryd.func22 (by kernel_rfl) rfl) (fun w' hw' => TimesBad ha ha hb hbad w' (hL.gw hw'))
    simp only [nm3, seval]
    apply VE.cons
    · first | exact Ev.skip (fun _ => rfl) | exact ev_build rfl (fun _ => rfl) rfl built24_0
    simp only [nm3, seval]
    apply VE.cons
    · first | exact Ev.skip (fun _ => rfl) | exact ev_bin (c := .bool true) rfl (fun _ => rfl) rfl rfl (fun w => eqP_inf _ _ w)
    simp only [nm3, seval]
    apply VE.cons
    · first | exact ev_pick_t rfl (gn rfl) rfl rfl | exact ev_pick_f rfl (gn rfl) rfl rfl
    simp only [nm3, seval]
    apply VE.cons
    · exact ev_assign rfl (gn rfl)
    simp only [nm3, seval]
    exact VE.nil _
  · kernel_rfl
  change VOk _ _ _ _ _
  refine vret ?_
  refine post_ret (res1 Tryd.results6 (rv_tmp rfl)) ?_
  intro w' hg
  exact ⟨rfl, hg⟩
theorem group_law {a b c : Nat} (ha : a < R) (hb : b < R) (hc : c < R) (w : World) (hL : Laid w) : Calls Tryd.prog 6 #[B32 a, B32 b, B32 c] w fun e w' => e = .returned (.bool true) ∧ Gw w w' := by
  have oa := TollEc.smul_on TollEc.base_on a
  have ob := TollEc.smul_on TollEc.base_on b
  have oc := TollEc.smul_on TollEc.base_on c
  cases hon : (decide (a = 0 ∧ b = 0) || onB a b) with
  | true => exact group_on ha hb hc w hL oa ob oc rfl rfl rfl rfl rfl rfl (TollEc.add_assoc oa ob oc).symm (TollEc.add_comm _ _ ob oa) (TollEc.on_add oa ob) (TollEc.on_add ob oc) hon
  | false =>
    have hbad : toP a b = .inf := toP_bad (by simpa using (Bool.or_eq_false_iff.1 hon).2)
    exact group_off ha hb hc w hL oa ob oc rfl rfl rfl rfl rfl rfl (TollEc.add_assoc oa ob oc).symm (TollEc.add_comm _ _ ob oa) (TollEc.on_add oa ob) (TollEc.on_add ob oc) hon hbad
theorem rsub0 {m y : Nat} (hm : Md m) (hy : y < R) (w : World) : Calls Tryd.prog 23 #[.agg #[.int .u64 0, .int .u64 0, .int .u64 0, .int .u64 0], N y, N m] w fun e w' => e = .returned (N (subm m 0 y)) ∧ Gw w w' := by
  have := rSub_ok hm (by decide : 0 < R) hy w; rw [N_zero] at this; exact this
theorem rsub01 (w : World) : Calls Tryd.prog 23 #[.agg #[.int .u64 0, .int .u64 0, .int .u64 0, .int .u64 0], .agg #[.int .u64 1, .int .u64 0, .int .u64 0, .int .u64 0], N nn] w fun e w' => e = .returned (N (nn - 1)) ∧ Gw w w' := by
  have := rsub0 mdn (by decide : 1 < R) w
  rw [N_one, show subm nn 0 1 = nn - 1 by decide +kernel] at this; exact this
theorem eq_pts {x y x' y' : Nat} (hx : x < R) (hy : y < R) (ex : x = x') (ey : y = y') (p q : Operand) (w : World) : (do eqGuard .eql 24 p q (PT x y) (PT x' y'); binOp .eql 24 (PT x y) (PT x' y') : Sem Value).run Tryd.prog w = .ok (.bool true) w := by
  subst ex ey
  have := eq_pt hx hy hx hy p q w; rw [decide_eq_true ⟨rfl, rfl⟩] at this; exact this
theorem opposites_inf {n : Nat} (hn : n < R) (w : World) (hL : Laid w) (hp : smul n base = .inf) : Calls Tryd.prog 7 #[B32 n] w fun e w' => e = .returned (.bool true) ∧ Gw w w' := by
  go_enter Tryd.func7, Tryd.ntmps7
  refine ve_go ?_
  simp only [List.map_cons, List.map_nil]
  refine vseq ?_
  apply vrp
  · apply VE.cons
    · exact ev_box rfl rfl (gn rfl) rfl
    simp only [nm3, seval]
    apply VE.cons
    · exact ev_assign rfl (gn rfl)
    simp only [nm3, seval]
    exact VE.nil _
  · kernel_rfl
  change VOk _ _ _ _ _
  refine vseq ?_
  apply vrp
  · apply VE.cons
    · first | exact ev_load rfl (gn rfl) rfl rfl Tryd.underlying22 rfl Tryd.sizeOf22 rfl rfl | exact ev_loadx rfl (gn rfl) rfl Tryd.underlying22 rfl Tryd.sizeOf22 (by assumption) rfl
    simp only [nm3, seval]
    apply VE.cons
    · exact ev_call rfl (gn rfl) rfl (en_of Tryd.func20 (by kernel_rfl) rfl) (fun w' hw' => ofP hn hp w' (hL.gw hw'))
    simp only [nm3, seval]
    apply VE.cons
    · exact ev_alloc rfl rfl (gn rfl) Tryd.zeroValue24
    simp only [nm3, seval]
    apply VE.cons
    · exact ev_store rfl (gn rfl) rfl rfl rfl Tryd.sizeOf24 rfl (by simp) rfl
    simp only [nm3, seval]
    exact VE.nil _
  · kernel_rfl
  change VOk _ _ _ _ _
  refine vseq ?_
  refine vseq ?_
  apply vrp
  · apply VE.cons
    · exact ev_call (v := .bool true) rfl (gn rfl) rfl (en_of Tryd.func11 (by kernel_rfl) rfl) (fun w' hw' => curves_ok w' (hL.gw hw'))
    simp only [nm3, seval]
    apply VE.cons
    · exact ev_not rfl (gn rfl) rfl
    simp only [nm3, seval]
    apply VE.cons
    · exact ev_move rfl (gn rfl)
    simp only [nm3, seval]
    apply VE.cons
    · first | exact Ev.skip (fun _ => rfl) | exact ev_load rfl (fun _ => rfl) rfl rfl Tryd.underlying24 rfl Tryd.sizeOf24 rfl rfl | exact ev_loadx rfl (fun _ => rfl) rfl Tryd.underlying24 rfl Tryd.sizeOf24 (by assumption) rfl
    simp only [nm3, seval]
    apply VE.cons
    · first | exact Ev.skip (fun _ => rfl) | exact ev_build rfl (fun _ => rfl) rfl built24_0
    simp only [nm3, seval]
    apply VE.cons
    · first | exact Ev.skip (fun _ => rfl) | exact ev_bin (c := .bool true) rfl (fun _ => rfl) rfl rfl (fun w => eqP_inf _ _ w)
    simp only [nm3, seval]
    apply VE.cons
    · first | exact ev_pick_t rfl (gn rfl) rfl rfl | exact ev_pick_f rfl (gn rfl) rfl rfl
    simp only [nm3, seval]
    exact VE.nil _
  · kernel_rfl
  change VOk _ _ _ _ _
  refine vcond_t rfl ?_
  refine vseq ?_
  apply vrp
  · apply VE.cons
    · exact ev_call (v := .bool true) rfl (gn rfl) rfl (en_of Tryd.func11 (by kernel_rfl) rfl) (fun w' hw' => curves_ok w' (hL.gw hw'))
    simp only [nm3, seval]
    apply VE.cons
    · exact ev_assign rfl (gn rfl)
    simp only [nm3, seval]
    exact VE.nil _
  · kernel_rfl
  change VOk _ _ _ _ _
  refine vret ?_
  refine post_ret (res1 Tryd.results7 (rv_tmp rfl)) ?_
  intro w' hg
  exact ⟨rfl, hg⟩
theorem opposites_core {n oy : Nat} {p o d : Pt} (hn : n < R) (w : World) (hL : Laid w) (op : p.on) (_oo : o.on) (od : d.on) (hp : smul n base = p) (hi : p ≠ .inf) (hoy : oy < R) (ho : subm pp 0 (yv p) = oy) (ht : toP (xv p) oy = o) (hx : xv o = xv p) (hy : yv o = oy) (hon : (decide (xv p = 0 ∧ oy = 0) || onB (xv p) oy) = true) (h1 : add p o = .inf) (h2 : smul (nn - 1) p = o) (h3 : add p p = d) (h4 : smul 2 p = d) (h5 : add d o = p) : Calls Tryd.prog 7 #[B32 n] w fun e w' => e = .returned (.bool true) ∧ Gw w w' := by
  go_enter Tryd.func7, Tryd.ntmps7
  refine ve_go ?_
  simp only [List.map_cons, List.map_nil]
  refine vseq ?_
  apply vrp
  · apply VE.cons
    · exact ev_box rfl rfl (gn rfl) rfl
    simp only [nm3, seval]
    apply VE.cons
    · exact ev_assign rfl (gn rfl)
    simp only [nm3, seval]
    exact VE.nil _
  · kernel_rfl
  change VOk _ _ _ _ _
  refine vseq ?_
  apply vrp
  · apply VE.cons
    · first | exact ev_load rfl (gn rfl) rfl rfl Tryd.underlying22 rfl Tryd.sizeOf22 rfl rfl | exact ev_loadx rfl (gn rfl) rfl Tryd.underlying22 rfl Tryd.sizeOf22 (by assumption) rfl
    simp only [nm3, seval]
    apply VE.cons
    · exact ev_call rfl (gn rfl) rfl (en_of Tryd.func20 (by kernel_rfl) rfl) (fun w' hw' => ofP hn hp w' (hL.gw hw'))
    simp only [nm3, seval]
    apply VE.cons
    · exact ev_alloc rfl rfl (gn rfl) Tryd.zeroValue24
    simp only [nm3, seval]
    apply VE.cons
    · exact ev_store rfl (gn rfl) rfl rfl rfl Tryd.sizeOf24 rfl (by simp) rfl
    simp only [nm3, seval]
    exact VE.nil _
  · kernel_rfl
  change VOk _ _ _ _ _
  refine vseq ?_
  refine vseq ?_
  apply vrp
  · apply VE.cons
    · exact ev_call (v := .bool true) rfl (gn rfl) rfl (en_of Tryd.func11 (by kernel_rfl) rfl) (fun w' hw' => curves_ok w' (hL.gw hw'))
    simp only [nm3, seval]
    apply VE.cons
    · exact ev_not rfl (gn rfl) rfl
    simp only [nm3, seval]
    apply VE.cons
    · exact ev_move rfl (gn rfl)
    simp only [nm3, seval]
    apply VE.cons
    · first | exact Ev.skip (fun _ => rfl) | exact ev_load rfl (fun _ => rfl) rfl rfl Tryd.underlying24 rfl Tryd.sizeOf24 rfl rfl | exact ev_loadx rfl (fun _ => rfl) rfl Tryd.underlying24 rfl Tryd.sizeOf24 (by assumption) rfl
    simp only [nm3, seval]
    apply VE.cons
    · first | exact Ev.skip (fun _ => rfl) | exact ev_build rfl (fun _ => rfl) rfl built24_0
    simp only [nm3, seval]
    apply VE.cons
    · first | exact Ev.skip (fun _ => rfl) | exact ev_bin (c := .bool false) rfl (fun _ => rfl) rfl rfl (fun w => eqP_ninf op hi _ _ w)
    simp only [nm3, seval]
    apply VE.cons
    · first | exact ev_pick_t rfl (gn rfl) rfl rfl | exact ev_pick_f rfl (gn rfl) rfl rfl
    simp only [nm3, seval]
    exact VE.nil _
  · kernel_rfl
  change VOk _ _ _ _ _
  refine vcond_f rfl ?_
  refine vskip ?_
  change VOk _ _ _ _ _
  refine vseq ?_
  apply vrd (by kernel_rfl)
  · apply VE.cons
    · first | exact ev_field rfl (gn rfl) rfl Tryd.underlying24 rfl Tryd.sizeOf22 | exact ev_fieldx rfl (gn rfl) rfl Tryd.underlying24 rfl Tryd.sizeOf22
    simp only [nm3, seval]
    apply VE.cons
    · first | exact ev_load rfl (gn rfl) rfl rfl Tryd.underlying22 rfl Tryd.sizeOf22 rfl rfl | exact ev_loadx rfl (gn rfl) rfl Tryd.underlying22 rfl Tryd.sizeOf22 (by assumption) rfl
    simp only [nm3, seval]
    apply VE.cons
    · exact ev_build rfl (gn rfl) rfl built29_0
    simp only [nm3, seval]
    apply VE.cons
    · first | exact ev_field rfl (gn rfl) rfl Tryd.underlying24 rfl Tryd.sizeOf22 | exact ev_fieldx rfl (gn rfl) rfl Tryd.underlying24 rfl Tryd.sizeOf22
    simp only [nm3, seval]
    apply VE.cons
    · first | exact ev_load rfl (gn rfl) rfl rfl Tryd.underlying22 rfl Tryd.sizeOf22 rfl rfl | exact ev_loadx rfl (gn rfl) rfl Tryd.underlying22 rfl Tryd.sizeOf22 (by assumption) rfl
    simp only [nm3, seval]
    apply VE.cons
    · exact ev_call rfl (gn rfl) rfl (en_of Tryd.func19 (by kernel_rfl) rfl) (fun w' hw' => rofN _ (yv_lt p) w')
    simp only [nm3, seval]
    apply VE.cons
    · exact ev_call rfl (gn rfl) rfl (en_of Tryd.func28 (by kernel_rfl) rfl) (fun w' hw' => c_P w')
    simp only [nm3, seval]
    apply VE.cons
    · exact ev_call rfl (gn rfl) rfl (en_of Tryd.func23 (by kernel_rfl) rfl) (fun w' hw' => by have := rsub0 mdp (yv_lt p) w'; rw [ho] at this; exact this)
    simp only [nm3, seval]
    apply VE.cons
    · exact ev_call rfl (gn rfl) rfl (en_of Tryd.func12 (by kernel_rfl) rfl) (fun w' hw' => rbytes_ok _ w')
    simp only [nm3, seval]
    apply VE.cons
    · exact ev_build rfl (gn rfl) rfl (built24_2 _ _)
    simp only [nm3, seval]
    apply VE.cons
    · exact ev_alloc rfl rfl (gn rfl) Tryd.zeroValue24
    simp only [nm3, seval]
    apply VE.cons
    · exact ev_store rfl (gn rfl) rfl rfl rfl Tryd.sizeOf24 rfl (by simp) rfl
    simp only [nm3, seval]
    exact VE.nil _
  · kernel_rfl
  change VOk _ _ _ _ _
  refine vseq ?_
  apply vrd (by kernel_rfl)
  · apply VE.cons
    · exact ev_build rfl (gn rfl) rfl built29_0
    simp only [nm3, seval]
    apply VE.cons
    · exact ev_build rfl (gn rfl) rfl built29_one
    simp only [nm3, seval]
    apply VE.cons
    · exact ev_call rfl (gn rfl) rfl (en_of Tryd.func16 (by kernel_rfl) rfl) (fun w' hw' => c_N w')
    simp only [nm3, seval]
    apply VE.cons
    · exact ev_call rfl (gn rfl) rfl (en_of Tryd.func23 (by kernel_rfl) rfl) (fun w' hw' => rsub01 w')
    simp only [nm3, seval]
    apply VE.cons
    · exact ev_call rfl (gn rfl) rfl (en_of Tryd.func12 (by kernel_rfl) rfl) (fun w' hw' => rbytes_ok _ w')
    simp only [nm3, seval]
    apply VE.cons
    · first | exact ev_load rfl (gn rfl) rfl rfl Tryd.underlying24 rfl Tryd.sizeOf24 rfl rfl | exact ev_loadx rfl (gn rfl) rfl Tryd.underlying24 rfl Tryd.sizeOf24 (by assumption) rfl
    simp only [nm3, seval]
    apply VE.cons
    · exact ev_call rfl (gn rfl) rfl (en_of Tryd.func22 (by kernel_rfl) rfl) (fun w' hw' => TimesE (by decide) h2 op w' (hL.gw hw'))
    simp only [nm3, seval]
    apply VE.cons
    · exact ev_alloc rfl rfl (gn rfl) Tryd.zeroValue24
    simp only [nm3, seval]
    apply VE.cons
    · exact ev_store rfl (gn rfl) rfl rfl rfl Tryd.sizeOf24 rfl (by simp) rfl
    simp only [nm3, seval]
    exact VE.nil _
  · kernel_rfl
  change VOk _ _ _ _ _
  refine vseq ?_
  apply vrd (by kernel_rfl)
  · apply VE.cons
    · first | exact ev_load rfl (gn rfl) rfl rfl Tryd.underlying24 rfl Tryd.sizeOf24 rfl rfl | exact ev_loadx rfl (gn rfl) rfl Tryd.underlying24 rfl Tryd.sizeOf24 (by assumption) rfl
    simp only [nm3, seval]
    apply VE.cons
    · exact ev_call (v := .bool true) rfl (gn rfl) rfl (en_of Tryd.func17 (by kernel_rfl) rfl) (fun w' hw' => by have := OnP (xv_lt p) hoy w' (hL.gw hw'); rw [hon] at this; exact this)
    simp only [nm3, seval]
    apply VE.cons
    · exact ev_move rfl (gn rfl)
    simp only [nm3, seval]
    apply VE.cons
    · first | exact Ev.skip (fun _ => rfl) | exact ev_load rfl (fun _ => rfl) rfl rfl Tryd.underlying24 rfl Tryd.sizeOf24 rfl rfl | exact ev_loadx rfl (fun _ => rfl) rfl Tryd.underlying24 rfl Tryd.sizeOf24 (by assumption) rfl
    simp only [nm3, seval]
    apply VE.cons
    · first | exact Ev.skip (fun _ => rfl) | exact ev_load rfl (fun _ => rfl) rfl rfl Tryd.underlying24 rfl Tryd.sizeOf24 rfl rfl | exact ev_loadx rfl (fun _ => rfl) rfl Tryd.underlying24 rfl Tryd.sizeOf24 (by assumption) rfl
    simp only [nm3, seval]
    apply VE.cons
    · first | exact Ev.skip (fun _ => rfl) | exact ev_call rfl (fun _ => rfl) rfl (en_of Tryd.func24 (by kernel_rfl) rfl) (fun w' hw' => AddX (s := .inf) (xv_lt p) (yv_lt p) (xv_lt p) hoy (by rw [toP_PV op, ht]; exact h1) w' (hL.gw hw'))
    simp only [nm3, seval]
    apply VE.cons
    · first | exact Ev.skip (fun _ => rfl) | exact ev_build rfl (fun _ => rfl) rfl built24_0
    simp only [nm3, seval]
    apply VE.cons
    · first | exact Ev.skip (fun _ => rfl) | exact ev_bin (c := .bool true) rfl (fun _ => rfl) rfl rfl (fun w => eqP_inf _ _ w)
    simp only [nm3, seval]
    apply VE.cons
    · first | exact ev_pick_t rfl (gn rfl) rfl rfl | exact ev_pick_f rfl (gn rfl) rfl rfl
    simp only [nm3, seval]
    apply VE.cons
    · exact ev_move rfl (gn rfl)
    simp only [nm3, seval]
    apply VE.cons
    · first | exact Ev.skip (fun _ => rfl) | exact ev_load rfl (fun _ => rfl) rfl rfl Tryd.underlying24 rfl Tryd.sizeOf24 rfl rfl | exact ev_loadx rfl (fun _ => rfl) rfl Tryd.underlying24 rfl Tryd.sizeOf24 (by assumption) rfl
    simp only [nm3, seval]
    apply VE.cons
    · first | exact Ev.skip (fun _ => rfl) | exact ev_load rfl (fun _ => rfl) rfl rfl Tryd.underlying24 rfl Tryd.sizeOf24 rfl rfl | exact ev_loadx rfl (fun _ => rfl) rfl Tryd.underlying24 rfl Tryd.sizeOf24 (by assumption) rfl
    simp only [nm3, seval]
    apply VE.cons
    · first | exact Ev.skip (fun _ => rfl) | exact ev_bin (c := .bool true) rfl (fun _ => rfl) rfl rfl (fun w => eq_pts (xv_lt o) (yv_lt o) hx hy _ _ w)
    simp only [nm3, seval]
    apply VE.cons
    · first | exact ev_pick_t rfl (gn rfl) rfl rfl | exact ev_pick_f rfl (gn rfl) rfl rfl
    simp only [nm3, seval]
    apply VE.cons
    · exact ev_move rfl (gn rfl)
    simp only [nm3, seval]
    apply VE.cons
    · first | exact Ev.skip (fun _ => rfl) | exact ev_load rfl (fun _ => rfl) rfl rfl Tryd.underlying24 rfl Tryd.sizeOf24 rfl rfl | exact ev_loadx rfl (fun _ => rfl) rfl Tryd.underlying24 rfl Tryd.sizeOf24 (by assumption) rfl
    simp only [nm3, seval]
    apply VE.cons
    · first | exact Ev.skip (fun _ => rfl) | exact ev_load rfl (fun _ => rfl) rfl rfl Tryd.underlying24 rfl Tryd.sizeOf24 rfl rfl | exact ev_loadx rfl (fun _ => rfl) rfl Tryd.underlying24 rfl Tryd.sizeOf24 (by assumption) rfl
    simp only [nm3, seval]
    apply VE.cons
    · first | exact Ev.skip (fun _ => rfl) | exact ev_call rfl (fun _ => rfl) rfl (en_of Tryd.func24 (by kernel_rfl) rfl) (fun w' hw' => AddE h3 op op w' (hL.gw hw'))
    simp only [nm3, seval]
    apply VE.cons
    · first | exact Ev.skip (fun _ => rfl) | exact ev_call rfl (fun _ => rfl) rfl (en_of Tryd.func21 (by kernel_rfl) rfl) (fun w' hw' => small_ok (n := 2) (by decide) w')
    simp only [nm3, seval]
    apply VE.cons
    · first | exact Ev.skip (fun _ => rfl) | exact ev_load rfl (fun _ => rfl) rfl rfl Tryd.underlying24 rfl Tryd.sizeOf24 rfl rfl | exact ev_loadx rfl (fun _ => rfl) rfl Tryd.underlying24 rfl Tryd.sizeOf24 (by assumption) rfl
    simp only [nm3, seval]
    apply VE.cons
    · first | exact Ev.skip (fun _ => rfl) | exact ev_call rfl (fun _ => rfl) rfl (en_of Tryd.func22 (by kernel_rfl) rfl) (fun w' hw' => TimesE (n := 2) (by decide) h4 op w' (hL.gw hw'))
    simp only [nm3, seval]
    apply VE.cons
    · first | exact Ev.skip (fun _ => rfl) | exact ev_bin (c := .bool true) rfl (fun _ => rfl) rfl rfl (fun w => eqP_self _ _ _ w)
    simp only [nm3, seval]
    apply VE.cons
    · first | exact ev_pick_t rfl (gn rfl) rfl rfl | exact ev_pick_f rfl (gn rfl) rfl rfl
    simp only [nm3, seval]
    apply VE.cons
    · exact ev_move rfl (gn rfl)
    simp only [nm3, seval]
    apply VE.cons
    · first | exact Ev.skip (fun _ => rfl) | exact ev_load rfl (fun _ => rfl) rfl rfl Tryd.underlying24 rfl Tryd.sizeOf24 rfl rfl | exact ev_loadx rfl (fun _ => rfl) rfl Tryd.underlying24 rfl Tryd.sizeOf24 (by assumption) rfl
    simp only [nm3, seval]
    apply VE.cons
    · first | exact Ev.skip (fun _ => rfl) | exact ev_load rfl (fun _ => rfl) rfl rfl Tryd.underlying24 rfl Tryd.sizeOf24 rfl rfl | exact ev_loadx rfl (fun _ => rfl) rfl Tryd.underlying24 rfl Tryd.sizeOf24 (by assumption) rfl
    simp only [nm3, seval]
    apply VE.cons
    · first | exact Ev.skip (fun _ => rfl) | exact ev_call rfl (fun _ => rfl) rfl (en_of Tryd.func24 (by kernel_rfl) rfl) (fun w' hw' => AddE h3 op op w' (hL.gw hw'))
    simp only [nm3, seval]
    apply VE.cons
    · first | exact Ev.skip (fun _ => rfl) | exact ev_load rfl (fun _ => rfl) rfl rfl Tryd.underlying24 rfl Tryd.sizeOf24 rfl rfl | exact ev_loadx rfl (fun _ => rfl) rfl Tryd.underlying24 rfl Tryd.sizeOf24 (by assumption) rfl
    simp only [nm3, seval]
    apply VE.cons
    · first | exact Ev.skip (fun _ => rfl) | exact ev_call rfl (fun _ => rfl) rfl (en_of Tryd.func24 (by kernel_rfl) rfl) (fun w' hw' => AddX (s := p) (xv_lt d) (yv_lt d) (xv_lt p) hoy (by rw [toP_PV od, ht]; exact h5) w' (hL.gw hw'))
    simp only [nm3, seval]
    apply VE.cons
    · first | exact Ev.skip (fun _ => rfl) | exact ev_load rfl (fun _ => rfl) rfl rfl Tryd.underlying24 rfl Tryd.sizeOf24 rfl rfl | exact ev_loadx rfl (fun _ => rfl) rfl Tryd.underlying24 rfl Tryd.sizeOf24 (by assumption) rfl
    simp only [nm3, seval]
    apply VE.cons
    · first | exact Ev.skip (fun _ => rfl) | exact ev_bin (c := .bool true) rfl (fun _ => rfl) rfl rfl (fun w => eqP_self _ _ _ w)
    simp only [nm3, seval]
    apply VE.cons
    · first | exact ev_pick_t rfl (gn rfl) rfl rfl | exact ev_pick_f rfl (gn rfl) rfl rfl
    simp only [nm3, seval]
    apply VE.cons
    · exact ev_assign rfl (gn rfl)
    simp only [nm3, seval]
    exact VE.nil _
  · kernel_rfl
  change VOk _ _ _ _ _
  refine vret ?_
  refine post_ret (res1 Tryd.results7 (rv_tmp rfl)) ?_
  intro w' hg
  exact ⟨rfl, hg⟩
theorem neg_last {p : Pt} (hp : p.on) {k : Nat} (hN : smul (k + 1) p = .inf) : smul k p = neg p := by
  have h1 : add (smul k p) p = .inf := hN
  refine TollEc.add_cancel (TollEc.smul_on hp k) (TollEc.on_neg hp) hp ?_
  rw [h1, TollEc.add_comm _ _ (TollEc.on_neg hp) hp]
  exact (TollEc.add_neg p).symm
theorem neg_last' {p : Pt} (hp : p.on) (hN : smul nn p = .inf) : smul (nn - 1) p = neg p := by
  obtain ⟨k, hk1, hk2⟩ : ∃ k, nn = k + 1 ∧ nn - 1 = k := ⟨nn - 1, by decide, rfl⟩
  rw [hk2]
  rw [hk1] at hN
  exact neg_last hp hN
theorem opposites_law {n : Nat} (hn : n < R) (w : World) (hL : Laid w) : Calls Tryd.prog 7 #[B32 n] w fun e w' => e = .returned (.bool true) ∧ Gw w w' := by
  have op := TollEc.smul_on TollEc.base_on n
  have hN : smul nn (smul n base) = .inf := by rw [TollEc.smul_comm TollEc.base_on, TollEc.order_base]; exact TollEc.smul_inf n
  have hl := neg_last' op hN
  cases hp : smul n base with
  | inf => exact opposites_inf hn w hL hp
  | aff X Y =>
    rw [hp] at op hl
    have on' := TollEc.on_neg op
    have ey : subm pp 0 Y.val = (yv (neg (.aff X Y))) := by
      show _ = (-Y).val
      rw [show -Y = 0 - Y by grind -lia, sub_val]
      rfl
    refine opposites_core (o := neg (.aff X Y)) (d := add (.aff X Y) (.aff X Y)) hn w hL op on' (TollEc.on_add op op) hp (fun c => by cases c) (yv_lt (neg (.aff X Y))) ey ?_ rfl rfl ?_ (TollEc.add_neg _) hl rfl ?_ (TollEc.add_back op op)
    · exact toP_PV on'
    · exact onB_PV on'
    · show add (add .inf _) _ = _
      rw [TollEc.inf_add]
end Go.Proofs.YtbnfanmolphliaaDoor
