import Derived.ProofKit
import Derived.OpenShut
import Derived.Lib.LaidTab
import Derived.Test.YtafbhakmkbehiaaDoorRows
import Derived.LaidMore
import Derived.Lay
import Derived.Stop.Joined
import Derived.ChangeSlices
import Derived.Test.YtafbhakmkbehiaaDoorY8
section
namespace Go.Proofs.YtafbhakmkbehiaaDoor
open Go.RowKit Go.Vx TollMont
open Go.Toll (Gw)
open TollEc (F pp cb Jp Pt smul add base nn neg)
open TollSha (sha hmac)
set_option maxHeartbeats 4000000
set_option maxRecDepth 100000
theorem ne_pt {x y x' y' : Nat} (hx : x < R) (hy : y < R) (hx' : x' < R) (hy' : y' < R) (p q : Operand) (w : World) : (do eqGuard .neq 26 p q (PT x y) (PT x' y'); binOp .neq 26 (PT x y) (PT x' y') : Sem Value).run Tryd.prog w = .ok (.bool (!decide (x = x' ∧ y = y'))) w := by
  unfold PT
  go_simp
  rw [eqB2 _ hx hx']
  by_cases h : x = x'
  · simp [h, eqB2 _ hy hy', Result.andThen]
    by_cases h2 : y = y' <;> simp [h2]
  · simp [h, Result.andThen]
theorem neP_t {p : Pt} (hp : p.on) (h : p ≠ .inf) (a b : Operand) (w : World) : (do eqGuard .neq 26 a b (PV p) (.agg #[.int .u8 0, .int .u8 0, .int .u8 0, .int .u8 0, .int .u8 0, .int .u8 0, .int .u8 0, .int .u8 0, .int .u8 0, .int .u8 0, .int .u8 0, .int .u8 0, .int .u8 0, .int .u8 0, .int .u8 0, .int .u8 0, .int .u8 0, .int .u8 0, .int .u8 0, .int .u8 0, .int .u8 0, .int .u8 0, .int .u8 0, .int .u8 0, .int .u8 0, .int .u8 0, .int .u8 0, .int .u8 0, .int .u8 0, .int .u8 0, .int .u8 0, .int .u8 0, .int .u8 0, .int .u8 0, .int .u8 0, .int .u8 0, .int .u8 0, .int .u8 0, .int .u8 0, .int .u8 0, .int .u8 0, .int .u8 0, .int .u8 0, .int .u8 0, .int .u8 0, .int .u8 0, .int .u8 0, .int .u8 0, .int .u8 0, .int .u8 0, .int .u8 0, .int .u8 0, .int .u8 0, .int .u8 0, .int .u8 0, .int .u8 0, .int .u8 0, .int .u8 0, .int .u8 0, .int .u8 0, .int .u8 0, .int .u8 0, .int .u8 0, .int .u8 0]); binOp .neq 26 (PV p) (.agg #[.int .u8 0, .int .u8 0, .int .u8 0, .int .u8 0, .int .u8 0, .int .u8 0, .int .u8 0, .int .u8 0, .int .u8 0, .int .u8 0, .int .u8 0, .int .u8 0, .int .u8 0, .int .u8 0, .int .u8 0, .int .u8 0, .int .u8 0, .int .u8 0, .int .u8 0, .int .u8 0, .int .u8 0, .int .u8 0, .int .u8 0, .int .u8 0, .int .u8 0, .int .u8 0, .int .u8 0, .int .u8 0, .int .u8 0, .int .u8 0, .int .u8 0, .int .u8 0, .int .u8 0, .int .u8 0, .int .u8 0, .int .u8 0, .int .u8 0, .int .u8 0, .int .u8 0, .int .u8 0, .int .u8 0, .int .u8 0, .int .u8 0, .int .u8 0, .int .u8 0, .int .u8 0, .int .u8 0, .int .u8 0, .int .u8 0, .int .u8 0, .int .u8 0, .int .u8 0, .int .u8 0, .int .u8 0, .int .u8 0, .int .u8 0, .int .u8 0, .int .u8 0, .int .u8 0, .int .u8 0, .int .u8 0, .int .u8 0, .int .u8 0, .int .u8 0]) : Sem Value).run Tryd.prog w = .ok (.bool true) w := by
  have := ne_pt (xv_lt p) (yv_lt p) (by decide : 0 < R) (by decide : 0 < R) a b w
  rw [decide_eq_false (fun c => h ((pv_zero hp).1 c))] at this
  exact this
theorem neP_f {p : Pt} (hp : p.on) (h : p = .inf) (a b : Operand) (w : World) : (do eqGuard .neq 26 a b (PV p) (.agg #[.int .u8 0, .int .u8 0, .int .u8 0, .int .u8 0, .int .u8 0, .int .u8 0, .int .u8 0, .int .u8 0, .int .u8 0, .int .u8 0, .int .u8 0, .int .u8 0, .int .u8 0, .int .u8 0, .int .u8 0, .int .u8 0, .int .u8 0, .int .u8 0, .int .u8 0, .int .u8 0, .int .u8 0, .int .u8 0, .int .u8 0, .int .u8 0, .int .u8 0, .int .u8 0, .int .u8 0, .int .u8 0, .int .u8 0, .int .u8 0, .int .u8 0, .int .u8 0, .int .u8 0, .int .u8 0, .int .u8 0, .int .u8 0, .int .u8 0, .int .u8 0, .int .u8 0, .int .u8 0, .int .u8 0, .int .u8 0, .int .u8 0, .int .u8 0, .int .u8 0, .int .u8 0, .int .u8 0, .int .u8 0, .int .u8 0, .int .u8 0, .int .u8 0, .int .u8 0, .int .u8 0, .int .u8 0, .int .u8 0, .int .u8 0, .int .u8 0, .int .u8 0, .int .u8 0, .int .u8 0, .int .u8 0, .int .u8 0, .int .u8 0, .int .u8 0]); binOp .neq 26 (PV p) (.agg #[.int .u8 0, .int .u8 0, .int .u8 0, .int .u8 0, .int .u8 0, .int .u8 0, .int .u8 0, .int .u8 0, .int .u8 0, .int .u8 0, .int .u8 0, .int .u8 0, .int .u8 0, .int .u8 0, .int .u8 0, .int .u8 0, .int .u8 0, .int .u8 0, .int .u8 0, .int .u8 0, .int .u8 0, .int .u8 0, .int .u8 0, .int .u8 0, .int .u8 0, .int .u8 0, .int .u8 0, .int .u8 0, .int .u8 0, .int .u8 0, .int .u8 0, .int .u8 0, .int .u8 0, .int .u8 0, .int .u8 0, .int .u8 0, .int .u8 0, .int .u8 0, .int .u8 0, .int .u8 0, .int .u8 0, .int .u8 0, .int .u8 0, .int .u8 0, .int .u8 0, .int .u8 0, .int .u8 0, .int .u8 0, .int .u8 0, .int .u8 0, .int .u8 0, .int .u8 0, .int .u8 0, .int .u8 0, .int .u8 0, .int .u8 0, .int .u8 0, .int .u8 0, .int .u8 0, .int .u8 0, .int .u8 0, .int .u8 0, .int .u8 0, .int .u8 0]) : Sem Value).run Tryd.prog w = .ok (.bool false) w := by
  have := ne_pt (xv_lt p) (yv_lt p) (by decide : 0 < R) (by decide : 0 < R) a b w
  rw [decide_eq_true ((pv_zero hp).2 h)] at this
  exact this
theorem eqb_p {x y : Nat} {b : Bool} (hx : x < R) (hy : y < R) (h : decide (x = y) = b) (p q : Operand) (w : World) : (do eqGuard .eql 23 p q (B32 x) (B32 y); binOp .eql 23 (B32 x) (B32 y) : Sem Value).run Tryd.prog w = .ok (.bool b) w := by
  rw [eq_b32 hx hy, h]
theorem eqBb (a b : Bool) (p q : Operand) (w : World) : (do eqGuard .eql 4 p q (.bool a) (.bool b); binOp .eql 4 (.bool a) (.bool b) : Sem Value).run Tryd.prog w = .ok (.bool (a == b)) w := by
  cases a <;> cases b <;> go_simp
theorem sec_inf {a : Nat} (h : sec a = true) : smul a base ≠ .inf := fun c => by
  have h1 := of_decide_eq_true h
  have h2 := TollEc.smul_eq_inf c
  have := Nat.le_of_dvd (by omega) h2
  omega
theorem chk_0 {a h r t : Nat} (ha : a < R) (_hh : h < R) (_hr : r < R) (_ht : t < R) (w : World) (hL : Laid w) (hK : LaidK w) (hH : LaidH w) (hb1 : 6 < w.heap.size) (sa : sec a = false) : Calls Tryd.prog 4 #[B32 a, B32 h, PT r t] w fun e w' => e = .returned (.bool true) ∧ Bw w w' := by
  go_enter Tryd.func4, Tryd.ntmps4
  refine ve_go ?_
  simp only [List.map_cons, List.map_nil]
  refine vseq ?_
  apply vrp
  · apply VE.cons
    · exact ev_box rfl rfl (gn rfl) rfl
    simp only [nmx, seval]
    apply VE.cons
    · exact ev_box rfl rfl (gn rfl) rfl
    simp only [nmx, seval]
    apply VE.cons
    · exact ev_box rfl rfl (gn rfl) rfl
    simp only [nmx, seval]
    apply VE.cons
    · exact ev_assign rfl (gn rfl)
    simp only [nmx, seval]
    exact VE.nil _
  · kernel_rfl
  change VOk _ _ _ _ _
  refine vseq ?_
  apply vrp
  · apply VE.cons
    · first | exact ev_load rfl (gn rfl) rfl rfl Tryd.underlying23 rfl Tryd.sizeOf23 rfl rfl | exact ev_loadx rfl (gn rfl) rfl Tryd.underlying23 rfl Tryd.sizeOf23 (by assumption) rfl | exact ev_loada rfl (gn rfl) rfl rfl Tryd.underlying23 rfl Tryd.sizeOf23 rfl
    simp only [nmx, seval]
    apply VE.cons
    · exact ev_callrowt [] rfl rfl (gn rfl) rfl (en_of Tryd.func8 (by kernel_rfl) rfl) (n := 0) (size := 1) (l := []) (y := .int .i64 1) rfl (fun ρ S w' hb hR => public_f ha w' (hL.bw hb) sa)
    simp only [nmx, seval]
    apply VE.cons
    · exact ev_move rfl (gn rfl)
    simp only [nmx, seval]
    apply VE.cons
    · first | exact ev_extract rfl (gn rfl) rfl rfl | exact ev_extractt rfl (gn rfl) rfl rfl
    simp only [nmx, seval]
    apply VE.cons
    · first | exact ev_extract rfl (gn rfl) rfl rfl | exact ev_extractt rfl (gn rfl) rfl rfl
    simp only [nmx, seval]
    apply VE.cons
    · exact ev_assign rfl (gn rfl)
    simp only [nmx, seval]
    apply VE.cons
    · exact ev_assign rfl (gn rfl)
    simp only [nmx, seval]
    exact VE.nil _
  · kernel_rfl
  change VOk _ _ _ _ _
  refine vseq ?_
  refine vseq ?_
  apply vrp
  · apply VE.cons
    · exact ev_callb (v := .bool true) rfl (gn rfl) rfl (en_of Tryd.func7 (by kernel_rfl) rfl) (fun w' hw' => signs_ok w' (hL.bw hw') (hK.bw hw') (hH.bw hw') (Nat.lt_of_lt_of_le hb1 hw'.size))
    simp only [nmx, seval]
    apply VE.cons
    · refine ev_pure' (gn rfl) (fun ρ w => by simp only [VS.act, SV.c, List.map_cons, List.map_nil]; go_simp; exact rfl) (fun _ _ => rfl)
    simp only [nmx, seval]
    apply VE.cons
    · exact ev_move rfl (gn rfl)
    simp only [nmx, seval]
    apply VE.cons
    · first | exact Ev.skip (fun _ => rfl) | exact ev_move rfl (fun _ => rfl)
    simp only [nmx, seval]
    apply VE.cons
    · first | exact Ev.skip (fun _ => rfl) | exact ev_neq (p := true) rfl (fun _ => rfl) rfl rfl (by decide)
    simp only [nmx, seval]
    apply VE.cons
    · refine ev_pure' (gn rfl) (fun ρ w => by simp only [VS.act, SV.c, List.map_cons, List.map_nil]; go_simp; exact rfl) (fun _ _ => rfl)
    simp only [nmx, seval]
    exact VE.nil _
  · kernel_rfl
  change VOk _ _ _ _ _
  refine vcond_t rfl ?_
  refine vseq ?_
  apply vrp
  · apply VE.cons
    · exact ev_callb (v := .bool true) rfl (gn rfl) rfl (en_of Tryd.func7 (by kernel_rfl) rfl) (fun w' hw' => signs_ok w' (hL.bw hw') (hK.bw hw') (hH.bw hw') (Nat.lt_of_lt_of_le hb1 hw'.size))
    simp only [nmx, seval]
    apply VE.cons
    · exact ev_assign rfl (gn rfl)
    simp only [nmx, seval]
    exact VE.nil _
  · kernel_rfl
  change VOk _ _ _ _ _
  refine vret ?_
  refine post_ret (res1 Tryd.results4 (rv_tmp rfl)) ?_
  intro ρ w' hr
  exact ⟨rfl, hr.1⟩
theorem chk_1 {a h r t : Nat} (ha : a < R) (hh : h < R) (hr : r < R) (ht : t < R) (w : World) (hL : Laid w) (hK : LaidK w) (hH : LaidH w) (hb1 : 6 < w.heap.size) {q : Pt} (sa : sec a = true) (hq : smul a base = q) (oq : q.on) (iq : q ≠ .inf) (sr : sec r = false) : Calls Tryd.prog 4 #[B32 a, B32 h, PT r t] w fun e w' => e = .returned (.bool true) ∧ Bw w w' := by
  go_enter Tryd.func4, Tryd.ntmps4
  refine ve_go ?_
  simp only [List.map_cons, List.map_nil]
  refine vseq ?_
  apply vrp
  · apply VE.cons
    · exact ev_box rfl rfl (gn rfl) rfl
    simp only [nmx, seval]
    apply VE.cons
    · exact ev_box rfl rfl (gn rfl) rfl
    simp only [nmx, seval]
    apply VE.cons
    · exact ev_box rfl rfl (gn rfl) rfl
    simp only [nmx, seval]
    apply VE.cons
    · exact ev_assign rfl (gn rfl)
    simp only [nmx, seval]
    exact VE.nil _
  · kernel_rfl
  change VOk _ _ _ _ _
  refine vseq ?_
  apply vrp
  · apply VE.cons
    · first | exact ev_load rfl (gn rfl) rfl rfl Tryd.underlying23 rfl Tryd.sizeOf23 rfl rfl | exact ev_loadx rfl (gn rfl) rfl Tryd.underlying23 rfl Tryd.sizeOf23 (by assumption) rfl | exact ev_loada rfl (gn rfl) rfl rfl Tryd.underlying23 rfl Tryd.sizeOf23 rfl
    simp only [nmx, seval]
    apply VE.cons
    · exact ev_callrowt [] rfl rfl (gn rfl) rfl (en_of Tryd.func8 (by kernel_rfl) rfl) (n := (wl q).length) (size := 1) (l := wl q) (y := .int .i64 0) (wl_len q) (fun ρ S w' hb hR => public_t ha w' (hL.bw hb) sa hq oq)
    simp only [nmx, seval]
    apply VE.cons
    · exact ev_move rfl (gn rfl)
    simp only [nmx, seval]
    apply VE.cons
    · first | exact ev_extract rfl (gn rfl) rfl rfl | exact ev_extractt rfl (gn rfl) rfl rfl
    simp only [nmx, seval]
    apply VE.cons
    · first | exact ev_extract rfl (gn rfl) rfl rfl | exact ev_extractt rfl (gn rfl) rfl rfl
    simp only [nmx, seval]
    apply VE.cons
    · exact ev_assign rfl (gn rfl)
    simp only [nmx, seval]
    apply VE.cons
    · exact ev_assign rfl (gn rfl)
    simp only [nmx, seval]
    exact VE.nil _
  · kernel_rfl
  change VOk _ _ _ _ _
  refine vseq ?_
  refine vseq ?_
  apply vrp
  · apply VE.cons
    · exact ev_callb (v := .bool true) rfl (gn rfl) rfl (en_of Tryd.func7 (by kernel_rfl) rfl) (fun w' hw' => signs_ok w' (hL.bw hw') (hK.bw hw') (hH.bw hw') (Nat.lt_of_lt_of_le hb1 hw'.size))
    simp only [nmx, seval]
    apply VE.cons
    · refine ev_pure' (gn rfl) (fun ρ w => by simp only [VS.act, SV.c, List.map_cons, List.map_nil]; go_simp; exact rfl) (fun _ _ => rfl)
    simp only [nmx, seval]
    apply VE.cons
    · exact ev_move rfl (gn rfl)
    simp only [nmx, seval]
    apply VE.cons
    · first | exact Ev.skip (fun _ => rfl) | exact ev_move rfl (fun _ => rfl)
    simp only [nmx, seval]
    apply VE.cons
    · first | exact Ev.skip (fun _ => rfl) | exact ev_neq (p := false) rfl (fun _ => rfl) rfl rfl (by decide)
    simp only [nmx, seval]
    apply VE.cons
    · refine ev_pure' (gn rfl) (fun ρ w => by simp only [VS.act, SV.c, List.map_cons, List.map_nil]; go_simp; exact rfl) (fun _ _ => rfl)
    simp only [nmx, seval]
    exact VE.nil _
  · kernel_rfl
  change VOk _ _ _ _ _
  refine vcond_f rfl ?_
  refine vskip ?_
  change VOk _ _ _ _ _
  refine vseq ?_
  apply vrp
  · apply VE.cons
    · exact ev_alloc rfl rfl (gn rfl) Tryd.zeroValue23
    simp only [nmx, seval]
    apply VE.cons
    · exact ev_alloc rfl rfl (gn rfl) Tryd.zeroValue23
    simp only [nmx, seval]
    exact VE.nil _
  · kernel_rfl
  change VOk _ _ _ _ _
  refine vseq ?_
  apply vrd (by kernel_rfl)
  · apply VE.cons
    · exact ev_slicea rfl (gn rfl) rfl Tryd.underlying23 Tryd.sizeOf5
    simp only [nmx, seval]
    apply VE.cons
    · exact ev_slicelh (a := 0) (b := 32) rfl (gn rfl) rfl Tryd.underlying24 Tryd.sizeOf5 rfl rfl (by decide) (by decide) (by decide)
    simp only [nmx, seval]
    apply VE.cons
    · exact ev_copy (news := l32 r) (len := 32) (k := 32) rfl (gn rfl) rfl rfl rfl (rdg_cells rfl rfl rfl (by decide)) Tryd.underlying22 info5 rfl rfl (by simp) rfl (by decide)
    simp only [nmx, seval]
    exact VE.nil _
  · kernel_rfl
  change VOk _ _ _ _ _
  refine vseq ?_
  apply vrd (by kernel_rfl)
  · apply VE.cons
    · exact ev_slicea rfl (gn rfl) rfl Tryd.underlying23 Tryd.sizeOf5
    simp only [nmx, seval]
    apply VE.cons
    · exact ev_slicelh (a := 32) (b := 64) rfl (gn rfl) rfl Tryd.underlying24 Tryd.sizeOf5 rfl rfl (by decide) (by decide) (by decide)
    simp only [nmx, seval]
    apply VE.cons
    · exact ev_copy (news := l32 t) (len := 32) (k := 32) rfl (gn rfl) rfl rfl rfl (rdg_cells rfl rfl rfl (by decide)) Tryd.underlying22 info5 rfl rfl (by simp) rfl (by decide)
    simp only [nmx, seval]
    exact VE.nil _
  · kernel_rfl
  change VOk _ _ _ _ _
  refine vseq ?_
  apply vrp
  · apply VE.cons
    · exact ev_move rfl (gn rfl)
    simp only [nmx, seval]
    apply VE.cons
    · first | exact ev_load rfl (gn rfl) rfl rfl Tryd.underlying23 rfl Tryd.sizeOf23 rfl rfl | exact ev_loadx rfl (gn rfl) rfl Tryd.underlying23 rfl Tryd.sizeOf23 (by assumption) rfl | exact ev_loada rfl (gn rfl) rfl rfl Tryd.underlying23 rfl Tryd.sizeOf23 rfl
    simp only [nmx, seval]
    apply VE.cons
    · first | exact ev_load rfl (gn rfl) rfl rfl Tryd.underlying24 rfl Tryd.sizeOf24 rfl rfl | exact ev_loadx rfl (gn rfl) rfl Tryd.underlying24 rfl Tryd.sizeOf24 (by assumption) rfl | exact ev_loada rfl (gn rfl) rfl rfl Tryd.underlying24 rfl Tryd.sizeOf24 rfl
    simp only [nmx, seval]
    apply VE.cons
    · exact ev_callp (v := .int .i64 6) [20] rfl (gn rfl) rfl (en_of Tryd.func6 (by kernel_rfl) rfl) (fun ρ S w' hb hR => Check_f1 (x := xv q) (y := yv q) hh hr ht w' (hL.bw hb) (fun w'' hb'' => read_pt oq iq w'' ((hL.bw hb).bw hb'') (sl_bw (row_get (id := 20) hR (by simp) rfl) hb'')) sr)
    simp only [nmx, seval]
    apply VE.cons
    · exact ev_assign rfl (gn rfl)
    simp only [nmx, seval]
    exact VE.nil _
  · kernel_rfl
  change VOk _ _ _ _ _
  refine vseq ?_
  refine vseq ?_
  apply vrp
  · apply VE.cons
    · first | exact ev_load rfl (gn rfl) rfl rfl Tryd.underlying23 rfl Tryd.sizeOf23 rfl rfl | exact ev_loadx rfl (gn rfl) rfl Tryd.underlying23 rfl Tryd.sizeOf23 (by assumption) rfl | exact ev_loada rfl (gn rfl) rfl rfl Tryd.underlying23 rfl Tryd.sizeOf23 rfl
    simp only [nmx, seval]
    apply VE.cons
    · exact ev_callb (v := .bool false) rfl (gn rfl) rfl (en_of Tryd.func9 (by kernel_rfl) rfl) (fun w' hw' => by have a := rfine_ok hr w'; rw [sr] at a; exact a)
    simp only [nmx, seval]
    apply VE.cons
    · refine ev_pure' (gn rfl) (fun ρ w => by simp only [VS.act, SV.c, List.map_cons, List.map_nil]; go_simp; exact rfl) (fun _ _ => rfl)
    simp only [nmx, seval]
    apply VE.cons
    · exact ev_move rfl (gn rfl)
    simp only [nmx, seval]
    apply VE.cons
    · first | exact Ev.skip (fun _ => rfl) | exact ev_load rfl (fun _ => rfl) rfl rfl Tryd.underlying23 rfl Tryd.sizeOf23 rfl rfl | exact ev_loadx rfl (fun _ => rfl) rfl Tryd.underlying23 rfl Tryd.sizeOf23 (by assumption) rfl | exact ev_loada rfl (fun _ => rfl) rfl rfl Tryd.underlying23 rfl Tryd.sizeOf23 rfl
    simp only [nmx, seval]
    apply VE.cons
    · first | exact Ev.skip (fun _ => rfl) | refine ev_pure' (fun _ => rfl) (fun ρ w => by simp only [VS.act, SV.c, List.map_cons, List.map_nil]; go_simp; exact rfl) (fun _ _ => rfl)
    simp only [nmx, seval]
    apply VE.cons
    · first | exact Ev.skip (fun _ => rfl) | refine ev_pure' (fun _ => rfl) (fun ρ w => by simp only [VS.act, SV.c, List.map_cons, List.map_nil]; go_simp; exact rfl) (fun _ _ => rfl)
    simp only [nmx, seval]
    apply VE.cons
    · refine ev_pure' (gn rfl) (fun ρ w => by simp only [VS.act, SV.c, List.map_cons, List.map_nil]; go_simp; exact rfl) (fun _ _ => rfl)
    simp only [nmx, seval]
    exact VE.nil _
  · kernel_rfl
  change VOk _ _ _ _ _
  refine vcond_t rfl ?_
  refine vseq ?_
  apply vrp
  · apply VE.cons
    · exact ev_move rfl (gn rfl)
    simp only [nmx, seval]
    apply VE.cons
    · exact ev_eql (p := true) rfl (gn rfl) rfl rfl (by decide)
    simp only [nmx, seval]
    apply VE.cons
    · exact ev_assign rfl (gn rfl)
    simp only [nmx, seval]
    exact VE.nil _
  · kernel_rfl
  change VOk _ _ _ _ _
  refine vret ?_
  refine post_ret (res1 Tryd.results4 (rv_tmp rfl)) ?_
  intro ρ w' hr
  exact ⟨rfl, hr.1⟩
theorem chk_2 {a h r t : Nat} (ha : a < R) (hh : h < R) (hr : r < R) (ht : t < R) (w : World) (hL : Laid w) (hK : LaidK w) (hH : LaidH w) (hb1 : 6 < w.heap.size) {q : Pt} (sa : sec a = true) (hq : smul a base = q) (oq : q.on) (iq : q ≠ .inf) (sr : sec r = true) (st : sec t = false) : Calls Tryd.prog 4 #[B32 a, B32 h, PT r t] w fun e w' => e = .returned (.bool true) ∧ Bw w w' := by
  go_enter Tryd.func4, Tryd.ntmps4
  refine ve_go ?_
  simp only [List.map_cons, List.map_nil]
  refine vseq ?_
  apply vrp
  · apply VE.cons
    · exact ev_box rfl rfl (gn rfl) rfl
    simp only [nmx, seval]
    apply VE.cons
    · exact ev_box rfl rfl (gn rfl) rfl
    simp only [nmx, seval]
    apply VE.cons
    · exact ev_box rfl rfl (gn rfl) rfl
    simp only [nmx, seval]
    apply VE.cons
    · exact ev_assign rfl (gn rfl)
    simp only [nmx, seval]
    exact VE.nil _
  · kernel_rfl
  change VOk _ _ _ _ _
  refine vseq ?_
  apply vrp
  · apply VE.cons
    · first | exact ev_load rfl (gn rfl) rfl rfl Tryd.underlying23 rfl Tryd.sizeOf23 rfl rfl | exact ev_loadx rfl (gn rfl) rfl Tryd.underlying23 rfl Tryd.sizeOf23 (by assumption) rfl | exact ev_loada rfl (gn rfl) rfl rfl Tryd.underlying23 rfl Tryd.sizeOf23 rfl
    simp only [nmx, seval]
    apply VE.cons
    · exact ev_callrowt [] rfl rfl (gn rfl) rfl (en_of Tryd.func8 (by kernel_rfl) rfl) (n := (wl q).length) (size := 1) (l := wl q) (y := .int .i64 0) (wl_len q) (fun ρ S w' hb hR => public_t ha w' (hL.bw hb) sa hq oq)
    simp only [nmx, seval]
    apply VE.cons
    · exact ev_move rfl (gn rfl)
    simp only [nmx, seval]
    apply VE.cons
    · first | exact ev_extract rfl (gn rfl) rfl rfl | exact ev_extractt rfl (gn rfl) rfl rfl
    simp only [nmx, seval]
    apply VE.cons
    · first | exact ev_extract rfl (gn rfl) rfl rfl | exact ev_extractt rfl (gn rfl) rfl rfl
    simp only [nmx, seval]
    apply VE.cons
    · exact ev_assign rfl (gn rfl)
    simp only [nmx, seval]
    apply VE.cons
    · exact ev_assign rfl (gn rfl)
    simp only [nmx, seval]
    exact VE.nil _
  · kernel_rfl
  change VOk _ _ _ _ _
  refine vseq ?_
  refine vseq ?_
  apply vrp
  · apply VE.cons
    · exact ev_callb (v := .bool true) rfl (gn rfl) rfl (en_of Tryd.func7 (by kernel_rfl) rfl) (fun w' hw' => signs_ok w' (hL.bw hw') (hK.bw hw') (hH.bw hw') (Nat.lt_of_lt_of_le hb1 hw'.size))
    simp only [nmx, seval]
    apply VE.cons
    · refine ev_pure' (gn rfl) (fun ρ w => by simp only [VS.act, SV.c, List.map_cons, List.map_nil]; go_simp; exact rfl) (fun _ _ => rfl)
    simp only [nmx, seval]
    apply VE.cons
    · exact ev_move rfl (gn rfl)
    simp only [nmx, seval]
    apply VE.cons
    · first | exact Ev.skip (fun _ => rfl) | exact ev_move rfl (fun _ => rfl)
    simp only [nmx, seval]
    apply VE.cons
    · first | exact Ev.skip (fun _ => rfl) | exact ev_neq (p := false) rfl (fun _ => rfl) rfl rfl (by decide)
    simp only [nmx, seval]
    apply VE.cons
    · refine ev_pure' (gn rfl) (fun ρ w => by simp only [VS.act, SV.c, List.map_cons, List.map_nil]; go_simp; exact rfl) (fun _ _ => rfl)
    simp only [nmx, seval]
    exact VE.nil _
  · kernel_rfl
  change VOk _ _ _ _ _
  refine vcond_f rfl ?_
  refine vskip ?_
  change VOk _ _ _ _ _
  refine vseq ?_
  apply vrp
  · apply VE.cons
    · exact ev_alloc rfl rfl (gn rfl) Tryd.zeroValue23
    simp only [nmx, seval]
    apply VE.cons
    · exact ev_alloc rfl rfl (gn rfl) Tryd.zeroValue23
    simp only [nmx, seval]
    exact VE.nil _
  · kernel_rfl
  change VOk _ _ _ _ _
  refine vseq ?_
  apply vrd (by kernel_rfl)
  · apply VE.cons
    · exact ev_slicea rfl (gn rfl) rfl Tryd.underlying23 Tryd.sizeOf5
    simp only [nmx, seval]
    apply VE.cons
    · exact ev_slicelh (a := 0) (b := 32) rfl (gn rfl) rfl Tryd.underlying24 Tryd.sizeOf5 rfl rfl (by decide) (by decide) (by decide)
    simp only [nmx, seval]
    apply VE.cons
    · exact ev_copy (news := l32 r) (len := 32) (k := 32) rfl (gn rfl) rfl rfl rfl (rdg_cells rfl rfl rfl (by decide)) Tryd.underlying22 info5 rfl rfl (by simp) rfl (by decide)
    simp only [nmx, seval]
    exact VE.nil _
  · kernel_rfl
  change VOk _ _ _ _ _
  refine vseq ?_
  apply vrd (by kernel_rfl)
  · apply VE.cons
    · exact ev_slicea rfl (gn rfl) rfl Tryd.underlying23 Tryd.sizeOf5
    simp only [nmx, seval]
    apply VE.cons
    · exact ev_slicelh (a := 32) (b := 64) rfl (gn rfl) rfl Tryd.underlying24 Tryd.sizeOf5 rfl rfl (by decide) (by decide) (by decide)
    simp only [nmx, seval]
    apply VE.cons
    · exact ev_copy (news := l32 t) (len := 32) (k := 32) rfl (gn rfl) rfl rfl rfl (rdg_cells rfl rfl rfl (by decide)) Tryd.underlying22 info5 rfl rfl (by simp) rfl (by decide)
    simp only [nmx, seval]
    exact VE.nil _
  · kernel_rfl
  change VOk _ _ _ _ _
  refine vseq ?_
  apply vrp
  · apply VE.cons
    · exact ev_move rfl (gn rfl)
    simp only [nmx, seval]
    apply VE.cons
    · first | exact ev_load rfl (gn rfl) rfl rfl Tryd.underlying23 rfl Tryd.sizeOf23 rfl rfl | exact ev_loadx rfl (gn rfl) rfl Tryd.underlying23 rfl Tryd.sizeOf23 (by assumption) rfl | exact ev_loada rfl (gn rfl) rfl rfl Tryd.underlying23 rfl Tryd.sizeOf23 rfl
    simp only [nmx, seval]
    apply VE.cons
    · first | exact ev_load rfl (gn rfl) rfl rfl Tryd.underlying24 rfl Tryd.sizeOf24 rfl rfl | exact ev_loadx rfl (gn rfl) rfl Tryd.underlying24 rfl Tryd.sizeOf24 (by assumption) rfl | exact ev_loada rfl (gn rfl) rfl rfl Tryd.underlying24 rfl Tryd.sizeOf24 rfl
    simp only [nmx, seval]
    apply VE.cons
    · exact ev_callp (v := .int .i64 6) [20] rfl (gn rfl) rfl (en_of Tryd.func6 (by kernel_rfl) rfl) (fun ρ S w' hb hR => Check_f2 (x := xv q) (y := yv q) hh hr ht w' (hL.bw hb) (fun w'' hb'' => read_pt oq iq w'' ((hL.bw hb).bw hb'') (sl_bw (row_get (id := 20) hR (by simp) rfl) hb'')) sr st)
    simp only [nmx, seval]
    apply VE.cons
    · exact ev_assign rfl (gn rfl)
    simp only [nmx, seval]
    exact VE.nil _
  · kernel_rfl
  change VOk _ _ _ _ _
  refine vseq ?_
  refine vseq ?_
  apply vrp
  · apply VE.cons
    · first | exact ev_load rfl (gn rfl) rfl rfl Tryd.underlying23 rfl Tryd.sizeOf23 rfl rfl | exact ev_loadx rfl (gn rfl) rfl Tryd.underlying23 rfl Tryd.sizeOf23 (by assumption) rfl | exact ev_loada rfl (gn rfl) rfl rfl Tryd.underlying23 rfl Tryd.sizeOf23 rfl
    simp only [nmx, seval]
    apply VE.cons
    · exact ev_callb (v := .bool true) rfl (gn rfl) rfl (en_of Tryd.func9 (by kernel_rfl) rfl) (fun w' hw' => by have a := rfine_ok hr w'; rw [sr] at a; exact a)
    simp only [nmx, seval]
    apply VE.cons
    · refine ev_pure' (gn rfl) (fun ρ w => by simp only [VS.act, SV.c, List.map_cons, List.map_nil]; go_simp; exact rfl) (fun _ _ => rfl)
    simp only [nmx, seval]
    apply VE.cons
    · exact ev_move rfl (gn rfl)
    simp only [nmx, seval]
    apply VE.cons
    · first | exact Ev.skip (fun _ => rfl) | exact ev_load rfl (fun _ => rfl) rfl rfl Tryd.underlying23 rfl Tryd.sizeOf23 rfl rfl | exact ev_loadx rfl (fun _ => rfl) rfl Tryd.underlying23 rfl Tryd.sizeOf23 (by assumption) rfl | exact ev_loada rfl (fun _ => rfl) rfl rfl Tryd.underlying23 rfl Tryd.sizeOf23 rfl
    simp only [nmx, seval]
    apply VE.cons
    · first | exact Ev.skip (fun _ => rfl) | exact ev_callb (v := .bool false) rfl (fun _ => rfl) rfl (en_of Tryd.func9 (by kernel_rfl) rfl) (fun w' hw' => by have a := rfine_ok ht w'; rw [st] at a; exact a)
    simp only [nmx, seval]
    apply VE.cons
    · first | exact Ev.skip (fun _ => rfl) | refine ev_pure' (fun _ => rfl) (fun ρ w => by simp only [VS.act, SV.c, List.map_cons, List.map_nil]; go_simp; exact rfl) (fun _ _ => rfl)
    simp only [nmx, seval]
    apply VE.cons
    · refine ev_pure' (gn rfl) (fun ρ w => by simp only [VS.act, SV.c, List.map_cons, List.map_nil]; go_simp; exact rfl) (fun _ _ => rfl)
    simp only [nmx, seval]
    exact VE.nil _
  · kernel_rfl
  change VOk _ _ _ _ _
  refine vcond_t rfl ?_
  refine vseq ?_
  apply vrp
  · apply VE.cons
    · exact ev_move rfl (gn rfl)
    simp only [nmx, seval]
    apply VE.cons
    · exact ev_eql (p := true) rfl (gn rfl) rfl rfl (by decide)
    simp only [nmx, seval]
    apply VE.cons
    · exact ev_assign rfl (gn rfl)
    simp only [nmx, seval]
    exact VE.nil _
  · kernel_rfl
  change VOk _ _ _ _ _
  refine vret ?_
  refine post_ret (res1 Tryd.results4 (rv_tmp rfl)) ?_
  intro ρ w' hr
  exact ⟨rfl, hr.1⟩
theorem chk_i {a h r t : Nat} (ha : a < R) (hh : h < R) (hr : r < R) (ht : t < R) (w : World) (hL : Laid w) (hK : LaidK w) (hH : LaidH w) (hb1 : 6 < w.heap.size) {q : Pt} (sa : sec a = true) (hq : smul a base = q) (oq : q.on) (iq : q ≠ .inf) {i : Nat} {A B X : Pt} (sr : sec r = true) (st : sec t = true) (hi : i < nn) (hv : i * t % nn = 1) (hp : t ^ (nn - 2) % nn = i) (hA : smul (i * h % nn) base = A) (hB : smul (i * r % nn) q = B) (oA : A.on) (oB : B.on) (hX : add A B = X) (oX : X.on) (hi0 : X = .inf) : Calls Tryd.prog 4 #[B32 a, B32 h, PT r t] w fun e w' => e = .returned (.bool true) ∧ Bw w w' := by
  go_enter Tryd.func4, Tryd.ntmps4
  refine ve_go ?_
  simp only [List.map_cons, List.map_nil]
  refine vseq ?_
  apply vrp
  · apply VE.cons
    · exact ev_box rfl rfl (gn rfl) rfl
    simp only [nmx, seval]
    apply VE.cons
    · exact ev_box rfl rfl (gn rfl) rfl
    simp only [nmx, seval]
    apply VE.cons
    · exact ev_box rfl rfl (gn rfl) rfl
    simp only [nmx, seval]
    apply VE.cons
    · exact ev_assign rfl (gn rfl)
    simp only [nmx, seval]
    exact VE.nil _
  · kernel_rfl
  change VOk _ _ _ _ _
  refine vseq ?_
  apply vrp
  · apply VE.cons
    · first | exact ev_load rfl (gn rfl) rfl rfl Tryd.underlying23 rfl Tryd.sizeOf23 rfl rfl | exact ev_loadx rfl (gn rfl) rfl Tryd.underlying23 rfl Tryd.sizeOf23 (by assumption) rfl | exact ev_loada rfl (gn rfl) rfl rfl Tryd.underlying23 rfl Tryd.sizeOf23 rfl
    simp only [nmx, seval]
    apply VE.cons
    · exact ev_callrowt [] rfl rfl (gn rfl) rfl (en_of Tryd.func8 (by kernel_rfl) rfl) (n := (wl q).length) (size := 1) (l := wl q) (y := .int .i64 0) (wl_len q) (fun ρ S w' hb hR => public_t ha w' (hL.bw hb) sa hq oq)
    simp only [nmx, seval]
    apply VE.cons
    · exact ev_move rfl (gn rfl)
    simp only [nmx, seval]
    apply VE.cons
    · first | exact ev_extract rfl (gn rfl) rfl rfl | exact ev_extractt rfl (gn rfl) rfl rfl
    simp only [nmx, seval]
    apply VE.cons
    · first | exact ev_extract rfl (gn rfl) rfl rfl | exact ev_extractt rfl (gn rfl) rfl rfl
    simp only [nmx, seval]
    apply VE.cons
    · exact ev_assign rfl (gn rfl)
    simp only [nmx, seval]
    apply VE.cons
    · exact ev_assign rfl (gn rfl)
    simp only [nmx, seval]
    exact VE.nil _
  · kernel_rfl
  change VOk _ _ _ _ _
  refine vseq ?_
  refine vseq ?_
  apply vrp
  · apply VE.cons
    · exact ev_callb (v := .bool true) rfl (gn rfl) rfl (en_of Tryd.func7 (by kernel_rfl) rfl) (fun w' hw' => signs_ok w' (hL.bw hw') (hK.bw hw') (hH.bw hw') (Nat.lt_of_lt_of_le hb1 hw'.size))
    simp only [nmx, seval]
    apply VE.cons
    · refine ev_pure' (gn rfl) (fun ρ w => by simp only [VS.act, SV.c, List.map_cons, List.map_nil]; go_simp; exact rfl) (fun _ _ => rfl)
    simp only [nmx, seval]
    apply VE.cons
    · exact ev_move rfl (gn rfl)
    simp only [nmx, seval]
    apply VE.cons
    · first | exact Ev.skip (fun _ => rfl) | exact ev_move rfl (fun _ => rfl)
    simp only [nmx, seval]
    apply VE.cons
    · first | exact Ev.skip (fun _ => rfl) | exact ev_neq (p := false) rfl (fun _ => rfl) rfl rfl (by decide)
    simp only [nmx, seval]
    apply VE.cons
    · refine ev_pure' (gn rfl) (fun ρ w => by simp only [VS.act, SV.c, List.map_cons, List.map_nil]; go_simp; exact rfl) (fun _ _ => rfl)
    simp only [nmx, seval]
    exact VE.nil _
  · kernel_rfl
  change VOk _ _ _ _ _
  refine vcond_f rfl ?_
  refine vskip ?_
  change VOk _ _ _ _ _
  refine vseq ?_
  apply vrp
  · apply VE.cons
    · exact ev_alloc rfl rfl (gn rfl) Tryd.zeroValue23
    simp only [nmx, seval]
    apply VE.cons
    · exact ev_alloc rfl rfl (gn rfl) Tryd.zeroValue23
    simp only [nmx, seval]
    exact VE.nil _
  · kernel_rfl
  change VOk _ _ _ _ _
  refine vseq ?_
  apply vrd (by kernel_rfl)
  · apply VE.cons
    · exact ev_slicea rfl (gn rfl) rfl Tryd.underlying23 Tryd.sizeOf5
    simp only [nmx, seval]
    apply VE.cons
    · exact ev_slicelh (a := 0) (b := 32) rfl (gn rfl) rfl Tryd.underlying24 Tryd.sizeOf5 rfl rfl (by decide) (by decide) (by decide)
    simp only [nmx, seval]
    apply VE.cons
    · exact ev_copy (news := l32 r) (len := 32) (k := 32) rfl (gn rfl) rfl rfl rfl (rdg_cells rfl rfl rfl (by decide)) Tryd.underlying22 info5 rfl rfl (by simp) rfl (by decide)
    simp only [nmx, seval]
    exact VE.nil _
  · kernel_rfl
  change VOk _ _ _ _ _
  refine vseq ?_
  apply vrd (by kernel_rfl)
  · apply VE.cons
    · exact ev_slicea rfl (gn rfl) rfl Tryd.underlying23 Tryd.sizeOf5
    simp only [nmx, seval]
    apply VE.cons
    · exact ev_slicelh (a := 32) (b := 64) rfl (gn rfl) rfl Tryd.underlying24 Tryd.sizeOf5 rfl rfl (by decide) (by decide) (by decide)
    simp only [nmx, seval]
    apply VE.cons
    · exact ev_copy (news := l32 t) (len := 32) (k := 32) rfl (gn rfl) rfl rfl rfl (rdg_cells rfl rfl rfl (by decide)) Tryd.underlying22 info5 rfl rfl (by simp) rfl (by decide)
    simp only [nmx, seval]
    exact VE.nil _
  · kernel_rfl
  change VOk _ _ _ _ _
  refine vseq ?_
  apply vrp
  · apply VE.cons
    · exact ev_move rfl (gn rfl)
    simp only [nmx, seval]
    apply VE.cons
    · first | exact ev_load rfl (gn rfl) rfl rfl Tryd.underlying23 rfl Tryd.sizeOf23 rfl rfl | exact ev_loadx rfl (gn rfl) rfl Tryd.underlying23 rfl Tryd.sizeOf23 (by assumption) rfl | exact ev_loada rfl (gn rfl) rfl rfl Tryd.underlying23 rfl Tryd.sizeOf23 rfl
    simp only [nmx, seval]
    apply VE.cons
    · first | exact ev_load rfl (gn rfl) rfl rfl Tryd.underlying24 rfl Tryd.sizeOf24 rfl rfl | exact ev_loadx rfl (gn rfl) rfl Tryd.underlying24 rfl Tryd.sizeOf24 (by assumption) rfl | exact ev_loada rfl (gn rfl) rfl rfl Tryd.underlying24 rfl Tryd.sizeOf24 rfl
    simp only [nmx, seval]
    apply VE.cons
    · exact ev_callp (v := .int .i64 6) [20] rfl (gn rfl) rfl (en_of Tryd.func6 (by kernel_rfl) rfl) (fun ρ S w' hb hR => Check_i (x := xv q) (y := yv q) hh hr ht w' (hL.bw hb) (xv_lt q) (yv_lt q) (fun w'' hb'' => read_pt oq iq w'' ((hL.bw hb).bw hb'') (sl_bw (row_get (id := 20) hR (by simp) rfl) hb'')) sr st hi hv hA (by rw [toP_PV oq]; exact hB) oA oB hX oX hi0)
    simp only [nmx, seval]
    apply VE.cons
    · exact ev_assign rfl (gn rfl)
    simp only [nmx, seval]
    exact VE.nil _
  · kernel_rfl
  change VOk _ _ _ _ _
  refine vseq ?_
  refine vseq ?_
  apply vrp
  · apply VE.cons
    · first | exact ev_load rfl (gn rfl) rfl rfl Tryd.underlying23 rfl Tryd.sizeOf23 rfl rfl | exact ev_loadx rfl (gn rfl) rfl Tryd.underlying23 rfl Tryd.sizeOf23 (by assumption) rfl | exact ev_loada rfl (gn rfl) rfl rfl Tryd.underlying23 rfl Tryd.sizeOf23 rfl
    simp only [nmx, seval]
    apply VE.cons
    · exact ev_callb (v := .bool true) rfl (gn rfl) rfl (en_of Tryd.func9 (by kernel_rfl) rfl) (fun w' hw' => by have a := rfine_ok hr w'; rw [sr] at a; exact a)
    simp only [nmx, seval]
    apply VE.cons
    · refine ev_pure' (gn rfl) (fun ρ w => by simp only [VS.act, SV.c, List.map_cons, List.map_nil]; go_simp; exact rfl) (fun _ _ => rfl)
    simp only [nmx, seval]
    apply VE.cons
    · exact ev_move rfl (gn rfl)
    simp only [nmx, seval]
    apply VE.cons
    · first | exact Ev.skip (fun _ => rfl) | exact ev_load rfl (fun _ => rfl) rfl rfl Tryd.underlying23 rfl Tryd.sizeOf23 rfl rfl | exact ev_loadx rfl (fun _ => rfl) rfl Tryd.underlying23 rfl Tryd.sizeOf23 (by assumption) rfl | exact ev_loada rfl (fun _ => rfl) rfl rfl Tryd.underlying23 rfl Tryd.sizeOf23 rfl
    simp only [nmx, seval]
    apply VE.cons
    · first | exact Ev.skip (fun _ => rfl) | exact ev_callb (v := .bool true) rfl (fun _ => rfl) rfl (en_of Tryd.func9 (by kernel_rfl) rfl) (fun w' hw' => by have a := rfine_ok ht w'; rw [st] at a; exact a)
    simp only [nmx, seval]
    apply VE.cons
    · first | exact Ev.skip (fun _ => rfl) | refine ev_pure' (fun _ => rfl) (fun ρ w => by simp only [VS.act, SV.c, List.map_cons, List.map_nil]; go_simp; exact rfl) (fun _ _ => rfl)
    simp only [nmx, seval]
    apply VE.cons
    · refine ev_pure' (gn rfl) (fun ρ w => by simp only [VS.act, SV.c, List.map_cons, List.map_nil]; go_simp; exact rfl) (fun _ _ => rfl)
    simp only [nmx, seval]
    exact VE.nil _
  · kernel_rfl
  change VOk _ _ _ _ _
  refine vcond_f rfl ?_
  refine vskip ?_
  change VOk _ _ _ _ _
  refine vseq ?_
  apply vrp
  · apply VE.cons
    · exact ev_move rfl (gn rfl)
    simp only [nmx, seval]
    apply VE.cons
    · exact ev_callp (v := .tuple #[PV q, .int .i64 0]) [20] rfl (gn rfl) rfl (en_of Tryd.func5 (by kernel_rfl) rfl) (fun ρ S w' hb hR => read_pt oq iq w' (hL.bw hb) (row_get (id := 20) hR (by simp) rfl))
    simp only [nmx, seval]
    apply VE.cons
    · exact ev_move rfl (gn rfl)
    simp only [nmx, seval]
    apply VE.cons
    · first | exact ev_extract rfl (gn rfl) rfl rfl | exact ev_extractt rfl (gn rfl) rfl rfl
    simp only [nmx, seval]
    apply VE.cons
    · first | exact ev_extract rfl (gn rfl) rfl rfl | exact ev_extractt rfl (gn rfl) rfl rfl
    simp only [nmx, seval]
    apply VE.cons
    · exact ev_alloc rfl rfl (gn rfl) Tryd.zeroValue26
    simp only [nmx, seval]
    apply VE.cons
    · exact ev_store rfl (gn rfl) rfl rfl rfl Tryd.sizeOf26 rfl (by simp) rfl
    simp only [nmx, seval]
    apply VE.cons
    · exact ev_assign rfl (gn rfl)
    simp only [nmx, seval]
    exact VE.nil _
  · kernel_rfl
  change VOk _ _ _ _ _
  refine vseq ?_
  apply vrp
  · apply VE.cons
    · first | exact ev_load rfl (gn rfl) rfl rfl Tryd.underlying23 rfl Tryd.sizeOf23 rfl rfl | exact ev_loadx rfl (gn rfl) rfl Tryd.underlying23 rfl Tryd.sizeOf23 (by assumption) rfl | exact ev_loada rfl (gn rfl) rfl rfl Tryd.underlying23 rfl Tryd.sizeOf23 rfl
    simp only [nmx, seval]
    apply VE.cons
    · first | exact ev_load rfl (gn rfl) rfl rfl Tryd.underlying24 rfl Tryd.sizeOf24 rfl rfl | exact ev_loadx rfl (gn rfl) rfl Tryd.underlying24 rfl Tryd.sizeOf24 (by assumption) rfl | exact ev_loada rfl (gn rfl) rfl rfl Tryd.underlying24 rfl Tryd.sizeOf24 rfl
    simp only [nmx, seval]
    apply VE.cons
    · exact ev_callb (v := .tuple #[B32 (i * h % nn), B32 (i * r % nn)]) rfl (gn rfl) rfl (en_of Tryd.func10 (by kernel_rfl) rfl) (fun w' hw' => by have a := Parts_ok hh hr ht w'; rw [hp] at a; exact a)
    simp only [nmx, seval]
    apply VE.cons
    · exact ev_move rfl (gn rfl)
    simp only [nmx, seval]
    apply VE.cons
    · first | exact ev_extract rfl (gn rfl) rfl rfl | exact ev_extractt rfl (gn rfl) rfl rfl
    simp only [nmx, seval]
    apply VE.cons
    · first | exact ev_extract rfl (gn rfl) rfl rfl | exact ev_extractt rfl (gn rfl) rfl rfl
    simp only [nmx, seval]
    apply VE.cons
    · exact ev_alloc rfl rfl (gn rfl) Tryd.zeroValue23
    simp only [nmx, seval]
    apply VE.cons
    · exact ev_alloc rfl rfl (gn rfl) Tryd.zeroValue23
    simp only [nmx, seval]
    apply VE.cons
    · exact ev_store rfl (gn rfl) rfl rfl rfl Tryd.sizeOf23 rfl (by simp) rfl
    simp only [nmx, seval]
    apply VE.cons
    · exact ev_store rfl (gn rfl) rfl rfl rfl Tryd.sizeOf23 rfl (by simp) rfl
    simp only [nmx, seval]
    exact VE.nil _
  · kernel_rfl
  change VOk _ _ _ _ _
  refine vseq ?_
  apply vrd (by kernel_rfl)
  · apply VE.cons
    · first | exact ev_load rfl (gn rfl) rfl rfl Tryd.underlying23 rfl Tryd.sizeOf23 rfl rfl | exact ev_loadx rfl (gn rfl) rfl Tryd.underlying23 rfl Tryd.sizeOf23 (by assumption) rfl | exact ev_loada rfl (gn rfl) rfl rfl Tryd.underlying23 rfl Tryd.sizeOf23 rfl
    simp only [nmx, seval]
    apply VE.cons
    · exact ev_call rfl (gn rfl) rfl (en_of Tryd.func13 (by kernel_rfl) rfl) (fun w' hw' => baseP w' (hL.bw hw'))
    simp only [nmx, seval]
    apply VE.cons
    · exact ev_call rfl (gn rfl) rfl (en_of Tryd.func12 (by kernel_rfl) rfl) (fun w' hw' => TimesE (mod_R _) hA TollEc.base_on w' (hL.bw hw'))
    simp only [nmx, seval]
    apply VE.cons
    · first | exact ev_load rfl (gn rfl) rfl rfl Tryd.underlying23 rfl Tryd.sizeOf23 rfl rfl | exact ev_loadx rfl (gn rfl) rfl Tryd.underlying23 rfl Tryd.sizeOf23 (by assumption) rfl | exact ev_loada rfl (gn rfl) rfl rfl Tryd.underlying23 rfl Tryd.sizeOf23 rfl
    simp only [nmx, seval]
    apply VE.cons
    · first | exact ev_load rfl (gn rfl) rfl rfl Tryd.underlying26 rfl Tryd.sizeOf26 rfl rfl | exact ev_loadx rfl (gn rfl) rfl Tryd.underlying26 rfl Tryd.sizeOf26 (by assumption) rfl | exact ev_loada rfl (gn rfl) rfl rfl Tryd.underlying26 rfl Tryd.sizeOf26 rfl
    simp only [nmx, seval]
    apply VE.cons
    · exact ev_call rfl (gn rfl) rfl (en_of Tryd.func12 (by kernel_rfl) rfl) (fun w' hw' => TimesE (mod_R _) hB oq w' (hL.bw hw'))
    simp only [nmx, seval]
    apply VE.cons
    · exact ev_call rfl (gn rfl) rfl (en_of Tryd.func11 (by kernel_rfl) rfl) (fun w' hw' => AddE hX oA oB w' (hL.bw hw'))
    simp only [nmx, seval]
    apply VE.cons
    · exact ev_alloc rfl rfl (gn rfl) Tryd.zeroValue26
    simp only [nmx, seval]
    apply VE.cons
    · exact ev_store rfl (gn rfl) rfl rfl rfl Tryd.sizeOf26 rfl (by simp) rfl
    simp only [nmx, seval]
    exact VE.nil _
  · kernel_rfl
  change VOk _ _ _ _ _
  refine vseq ?_
  apply vrd (by kernel_rfl)
  · apply VE.cons
    · first | exact ev_load rfl (gn rfl) rfl rfl Tryd.underlying26 rfl Tryd.sizeOf26 rfl rfl | exact ev_loadx rfl (gn rfl) rfl Tryd.underlying26 rfl Tryd.sizeOf26 (by assumption) rfl | exact ev_loada rfl (gn rfl) rfl rfl Tryd.underlying26 rfl Tryd.sizeOf26 rfl
    simp only [nmx, seval]
    apply VE.cons
    · exact ev_build rfl (gn rfl) rfl built24_0
    simp only [nmx, seval]
    apply VE.cons
    · exact ev_bin (c := .bool false) rfl (gn rfl) rfl rfl (fun w => neP_f oX hi0 _ _ w)
    simp only [nmx, seval]
    apply VE.cons
    · exact ev_move rfl (gn rfl)
    simp only [nmx, seval]
    apply VE.cons
    · first | exact Ev.skip (fun _ => rfl) | exact ev_field rfl (fun _ => rfl) rfl Tryd.underlying26 rfl Tryd.sizeOf23 | exact ev_fieldx rfl (fun _ => rfl) rfl Tryd.underlying26 rfl Tryd.sizeOf23
    simp only [nmx, seval]
    apply VE.cons
    · first | exact Ev.skip (fun _ => rfl) | exact ev_load rfl (fun _ => rfl) rfl rfl Tryd.underlying23 rfl Tryd.sizeOf23 rfl rfl | exact ev_loadx rfl (fun _ => rfl) rfl Tryd.underlying23 rfl Tryd.sizeOf23 (by assumption) rfl | exact ev_loada rfl (fun _ => rfl) rfl rfl Tryd.underlying23 rfl Tryd.sizeOf23 rfl
    simp only [nmx, seval]
    apply VE.cons
    · first | exact Ev.skip (fun _ => rfl) | exact ev_callb (v := B32 (xv X % nn)) rfl (fun _ => rfl) rfl (en_of Tryd.func14 (by kernel_rfl) rfl) (fun w' hw' => rRest_ok (xv_lt X) w')
    simp only [nmx, seval]
    apply VE.cons
    · first | exact Ev.skip (fun _ => rfl) | exact ev_load rfl (fun _ => rfl) rfl rfl Tryd.underlying23 rfl Tryd.sizeOf23 rfl rfl | exact ev_loadx rfl (fun _ => rfl) rfl Tryd.underlying23 rfl Tryd.sizeOf23 (by assumption) rfl | exact ev_loada rfl (fun _ => rfl) rfl rfl Tryd.underlying23 rfl Tryd.sizeOf23 rfl
    simp only [nmx, seval]
    apply VE.cons
    · first | exact Ev.skip (fun _ => rfl) | refine ev_pure' (fun _ => rfl) (fun ρ w => by simp only [VS.act, SV.c, List.map_cons, List.map_nil]; go_simp; exact rfl) (fun _ _ => rfl)
    simp only [nmx, seval]
    apply VE.cons
    · refine ev_pure' (gn rfl) (fun ρ w => by simp only [VS.act, SV.c, List.map_cons, List.map_nil]; go_simp; exact rfl) (fun _ _ => rfl)
    simp only [nmx, seval]
    apply VE.cons
    · exact ev_assign rfl (gn rfl)
    simp only [nmx, seval]
    exact VE.nil _
  · kernel_rfl
  change VOk _ _ _ _ _
  refine vseq ?_
  apply vrp
  · apply VE.cons
    · exact ev_move rfl (gn rfl)
    simp only [nmx, seval]
    apply VE.cons
    · exact ev_eql (p := false) rfl (gn rfl) rfl rfl (by decide)
    simp only [nmx, seval]
    apply VE.cons
    · exact ev_move rfl (gn rfl)
    simp only [nmx, seval]
    apply VE.cons
    · exact ev_bin (c := .bool true) rfl (gn rfl) rfl rfl (fun w => eqBb _ _ _ _ w)
    simp only [nmx, seval]
    apply VE.cons
    · exact ev_move rfl (gn rfl)
    simp only [nmx, seval]
    apply VE.cons
    · first | exact Ev.skip (fun _ => rfl) | exact ev_move rfl (fun _ => rfl)
    simp only [nmx, seval]
    apply VE.cons
    · first | exact Ev.skip (fun _ => rfl) | exact ev_eql (p := false) rfl (fun _ => rfl) rfl rfl (by decide)
    simp only [nmx, seval]
    apply VE.cons
    · first | exact Ev.skip (fun _ => rfl) | exact ev_move rfl (fun _ => rfl)
    simp only [nmx, seval]
    apply VE.cons
    · first | exact Ev.skip (fun _ => rfl) | exact ev_move rfl (fun _ => rfl)
    simp only [nmx, seval]
    apply VE.cons
    · first | exact Ev.skip (fun _ => rfl) | exact ev_eql (p := true) rfl (fun _ => rfl) rfl rfl (by decide)
    simp only [nmx, seval]
    apply VE.cons
    · first | exact Ev.skip (fun _ => rfl) | refine ev_pure' (fun _ => rfl) (fun ρ w => by simp only [VS.act, SV.c, List.map_cons, List.map_nil]; go_simp; exact rfl) (fun _ _ => rfl)
    simp only [nmx, seval]
    apply VE.cons
    · refine ev_pure' (gn rfl) (fun ρ w => by simp only [VS.act, SV.c, List.map_cons, List.map_nil]; go_simp; exact rfl) (fun _ _ => rfl)
    simp only [nmx, seval]
    apply VE.cons
    · exact ev_assign rfl (gn rfl)
    simp only [nmx, seval]
    exact VE.nil _
  · kernel_rfl
  change VOk _ _ _ _ _
  refine vret ?_
  refine post_ret (res1 Tryd.results4 (rv_tmp rfl)) ?_
  intro ρ w' hr
  exact ⟨rfl, hr.1⟩
theorem chk_b {a h r t : Nat} (ha : a < R) (hh : h < R) (hr : r < R) (ht : t < R) (w : World) (hL : Laid w) (hK : LaidK w) (hH : LaidH w) (hb1 : 6 < w.heap.size) {q : Pt} (sa : sec a = true) (hq : smul a base = q) (oq : q.on) (iq : q ≠ .inf) {i : Nat} {A B X : Pt} (sr : sec r = true) (st : sec t = true) (hi : i < nn) (hv : i * t % nn = 1) (hp : t ^ (nn - 2) % nn = i) (hA : smul (i * h % nn) base = A) (hB : smul (i * r % nn) q = B) (oA : A.on) (oB : B.on) (hX : add A B = X) (oX : X.on) (hi0 : X ≠ .inf) (hne : xv X % nn ≠ r) : Calls Tryd.prog 4 #[B32 a, B32 h, PT r t] w fun e w' => e = .returned (.bool true) ∧ Bw w w' := by
  go_enter Tryd.func4, Tryd.ntmps4
  refine ve_go ?_
  simp only [List.map_cons, List.map_nil]
  refine vseq ?_
  apply vrp
  · apply VE.cons
    · exact ev_box rfl rfl (gn rfl) rfl
    simp only [nmx, seval]
    apply VE.cons
    · exact ev_box rfl rfl (gn rfl) rfl
    simp only [nmx, seval]
    apply VE.cons
    · exact ev_box rfl rfl (gn rfl) rfl
    simp only [nmx, seval]
    apply VE.cons
    · exact ev_assign rfl (gn rfl)
    simp only [nmx, seval]
    exact VE.nil _
  · kernel_rfl
  change VOk _ _ _ _ _
  refine vseq ?_
  apply vrp
  · apply VE.cons
    · first | exact ev_load rfl (gn rfl) rfl rfl Tryd.underlying23 rfl Tryd.sizeOf23 rfl rfl | exact ev_loadx rfl (gn rfl) rfl Tryd.underlying23 rfl Tryd.sizeOf23 (by assumption) rfl | exact ev_loada rfl (gn rfl) rfl rfl Tryd.underlying23 rfl Tryd.sizeOf23 rfl
    simp only [nmx, seval]
    apply VE.cons
    · exact ev_callrowt [] rfl rfl (gn rfl) rfl (en_of Tryd.func8 (by kernel_rfl) rfl) (n := (wl q).length) (size := 1) (l := wl q) (y := .int .i64 0) (wl_len q) (fun ρ S w' hb hR => public_t ha w' (hL.bw hb) sa hq oq)
    simp only [nmx, seval]
    apply VE.cons
    · exact ev_move rfl (gn rfl)
    simp only [nmx, seval]
    apply VE.cons
    · first | exact ev_extract rfl (gn rfl) rfl rfl | exact ev_extractt rfl (gn rfl) rfl rfl
    simp only [nmx, seval]
    apply VE.cons
    · first | exact ev_extract rfl (gn rfl) rfl rfl | exact ev_extractt rfl (gn rfl) rfl rfl
    simp only [nmx, seval]
    apply VE.cons
    · exact ev_assign rfl (gn rfl)
    simp only [nmx, seval]
    apply VE.cons
    · exact ev_assign rfl (gn rfl)
    simp only [nmx, seval]
    exact VE.nil _
  · kernel_rfl
  change VOk _ _ _ _ _
  refine vseq ?_
  refine vseq ?_
  apply vrp
  · apply VE.cons
    · exact ev_callb (v := .bool true) rfl (gn rfl) rfl (en_of Tryd.func7 (by kernel_rfl) rfl) (fun w' hw' => signs_ok w' (hL.bw hw') (hK.bw hw') (hH.bw hw') (Nat.lt_of_lt_of_le hb1 hw'.size))
    simp only [nmx, seval]
    apply VE.cons
    · refine ev_pure' (gn rfl) (fun ρ w => by simp only [VS.act, SV.c, List.map_cons, List.map_nil]; go_simp; exact rfl) (fun _ _ => rfl)
    simp only [nmx, seval]
    apply VE.cons
    · exact ev_move rfl (gn rfl)
    simp only [nmx, seval]
    apply VE.cons
    · first | exact Ev.skip (fun _ => rfl) | exact ev_move rfl (fun _ => rfl)
    simp only [nmx, seval]
    apply VE.cons
    · first | exact Ev.skip (fun _ => rfl) | exact ev_neq (p := false) rfl (fun _ => rfl) rfl rfl (by decide)
    simp only [nmx, seval]
    apply VE.cons
    · refine ev_pure' (gn rfl) (fun ρ w => by simp only [VS.act, SV.c, List.map_cons, List.map_nil]; go_simp; exact rfl) (fun _ _ => rfl)
    simp only [nmx, seval]
    exact VE.nil _
  · kernel_rfl
  change VOk _ _ _ _ _
  refine vcond_f rfl ?_
  refine vskip ?_
  change VOk _ _ _ _ _
  refine vseq ?_
  apply vrp
  · apply VE.cons
    · exact ev_alloc rfl rfl (gn rfl) Tryd.zeroValue23
    simp only [nmx, seval]
    apply VE.cons
    · exact ev_alloc rfl rfl (gn rfl) Tryd.zeroValue23
    simp only [nmx, seval]
    exact VE.nil _
  · kernel_rfl
  change VOk _ _ _ _ _
  refine vseq ?_
  apply vrd (by kernel_rfl)
  · apply VE.cons
    · exact ev_slicea rfl (gn rfl) rfl Tryd.underlying23 Tryd.sizeOf5
    simp only [nmx, seval]
    apply VE.cons
    · exact ev_slicelh (a := 0) (b := 32) rfl (gn rfl) rfl Tryd.underlying24 Tryd.sizeOf5 rfl rfl (by decide) (by decide) (by decide)
    simp only [nmx, seval]
    apply VE.cons
    · exact ev_copy (news := l32 r) (len := 32) (k := 32) rfl (gn rfl) rfl rfl rfl (rdg_cells rfl rfl rfl (by decide)) Tryd.underlying22 info5 rfl rfl (by simp) rfl (by decide)
    simp only [nmx, seval]
    exact VE.nil _
  · kernel_rfl
  change VOk _ _ _ _ _
  refine vseq ?_
  apply vrd (by kernel_rfl)
  · apply VE.cons
    · exact ev_slicea rfl (gn rfl) rfl Tryd.underlying23 Tryd.sizeOf5
    simp only [nmx, seval]
    apply VE.cons
    · exact ev_slicelh (a := 32) (b := 64) rfl (gn rfl) rfl Tryd.underlying24 Tryd.sizeOf5 rfl rfl (by decide) (by decide) (by decide)
    simp only [nmx, seval]
    apply VE.cons
    · exact ev_copy (news := l32 t) (len := 32) (k := 32) rfl (gn rfl) rfl rfl rfl (rdg_cells rfl rfl rfl (by decide)) Tryd.underlying22 info5 rfl rfl (by simp) rfl (by decide)
    simp only [nmx, seval]
    exact VE.nil _
  · kernel_rfl
  change VOk _ _ _ _ _
  refine vseq ?_
  apply vrp
  · apply VE.cons
    · exact ev_move rfl (gn rfl)
    simp only [nmx, seval]
    apply VE.cons
    · first | exact ev_load rfl (gn rfl) rfl rfl Tryd.underlying23 rfl Tryd.sizeOf23 rfl rfl | exact ev_loadx rfl (gn rfl) rfl Tryd.underlying23 rfl Tryd.sizeOf23 (by assumption) rfl | exact ev_loada rfl (gn rfl) rfl rfl Tryd.underlying23 rfl Tryd.sizeOf23 rfl
    simp only [nmx, seval]
    apply VE.cons
    · first | exact ev_load rfl (gn rfl) rfl rfl Tryd.underlying24 rfl Tryd.sizeOf24 rfl rfl | exact ev_loadx rfl (gn rfl) rfl Tryd.underlying24 rfl Tryd.sizeOf24 (by assumption) rfl | exact ev_loada rfl (gn rfl) rfl rfl Tryd.underlying24 rfl Tryd.sizeOf24 rfl
    simp only [nmx, seval]
    apply VE.cons
    · exact ev_callp (v := .int .i64 6) [20] rfl (gn rfl) rfl (en_of Tryd.func6 (by kernel_rfl) rfl) (fun ρ S w' hb hR => Check_b (x := xv q) (y := yv q) hh hr ht w' (hL.bw hb) (xv_lt q) (yv_lt q) (fun w'' hb'' => read_pt oq iq w'' ((hL.bw hb).bw hb'') (sl_bw (row_get (id := 20) hR (by simp) rfl) hb'')) sr st hi hv hA (by rw [toP_PV oq]; exact hB) oA oB hX oX hi0 hne)
    simp only [nmx, seval]
    apply VE.cons
    · exact ev_assign rfl (gn rfl)
    simp only [nmx, seval]
    exact VE.nil _
  · kernel_rfl
  change VOk _ _ _ _ _
  refine vseq ?_
  refine vseq ?_
  apply vrp
  · apply VE.cons
    · first | exact ev_load rfl (gn rfl) rfl rfl Tryd.underlying23 rfl Tryd.sizeOf23 rfl rfl | exact ev_loadx rfl (gn rfl) rfl Tryd.underlying23 rfl Tryd.sizeOf23 (by assumption) rfl | exact ev_loada rfl (gn rfl) rfl rfl Tryd.underlying23 rfl Tryd.sizeOf23 rfl
    simp only [nmx, seval]
    apply VE.cons
    · exact ev_callb (v := .bool true) rfl (gn rfl) rfl (en_of Tryd.func9 (by kernel_rfl) rfl) (fun w' hw' => by have a := rfine_ok hr w'; rw [sr] at a; exact a)
    simp only [nmx, seval]
    apply VE.cons
    · refine ev_pure' (gn rfl) (fun ρ w => by simp only [VS.act, SV.c, List.map_cons, List.map_nil]; go_simp; exact rfl) (fun _ _ => rfl)
    simp only [nmx, seval]
    apply VE.cons
    · exact ev_move rfl (gn rfl)
    simp only [nmx, seval]
    apply VE.cons
    · first | exact Ev.skip (fun _ => rfl) | exact ev_load rfl (fun _ => rfl) rfl rfl Tryd.underlying23 rfl Tryd.sizeOf23 rfl rfl | exact ev_loadx rfl (fun _ => rfl) rfl Tryd.underlying23 rfl Tryd.sizeOf23 (by assumption) rfl | exact ev_loada rfl (fun _ => rfl) rfl rfl Tryd.underlying23 rfl Tryd.sizeOf23 rfl
    simp only [nmx, seval]
    apply VE.cons
    · first | exact Ev.skip (fun _ => rfl) | exact ev_callb (v := .bool true) rfl (fun _ => rfl) rfl (en_of Tryd.func9 (by kernel_rfl) rfl) (fun w' hw' => by have a := rfine_ok ht w'; rw [st] at a; exact a)
    simp only [nmx, seval]
    apply VE.cons
    · first | exact Ev.skip (fun _ => rfl) | refine ev_pure' (fun _ => rfl) (fun ρ w => by simp only [VS.act, SV.c, List.map_cons, List.map_nil]; go_simp; exact rfl) (fun _ _ => rfl)
    simp only [nmx, seval]
    apply VE.cons
    · refine ev_pure' (gn rfl) (fun ρ w => by simp only [VS.act, SV.c, List.map_cons, List.map_nil]; go_simp; exact rfl) (fun _ _ => rfl)
    simp only [nmx, seval]
    exact VE.nil _
  · kernel_rfl
  change VOk _ _ _ _ _
  refine vcond_f rfl ?_
  refine vskip ?_
  change VOk _ _ _ _ _
  refine vseq ?_
  apply vrp
  · apply VE.cons
    · exact ev_move rfl (gn rfl)
    simp only [nmx, seval]
    apply VE.cons
    · exact ev_callp (v := .tuple #[PV q, .int .i64 0]) [20] rfl (gn rfl) rfl (en_of Tryd.func5 (by kernel_rfl) rfl) (fun ρ S w' hb hR => read_pt oq iq w' (hL.bw hb) (row_get (id := 20) hR (by simp) rfl))
    simp only [nmx, seval]
    apply VE.cons
    · exact ev_move rfl (gn rfl)
    simp only [nmx, seval]
    apply VE.cons
    · first | exact ev_extract rfl (gn rfl) rfl rfl | exact ev_extractt rfl (gn rfl) rfl rfl
    simp only [nmx, seval]
    apply VE.cons
    · first | exact ev_extract rfl (gn rfl) rfl rfl | exact ev_extractt rfl (gn rfl) rfl rfl
    simp only [nmx, seval]
    apply VE.cons
    · exact ev_alloc rfl rfl (gn rfl) Tryd.zeroValue26
    simp only [nmx, seval]
    apply VE.cons
    · exact ev_store rfl (gn rfl) rfl rfl rfl Tryd.sizeOf26 rfl (by simp) rfl
    simp only [nmx, seval]
    apply VE.cons
    · exact ev_assign rfl (gn rfl)
    simp only [nmx, seval]
    exact VE.nil _
  · kernel_rfl
  change VOk _ _ _ _ _
  refine vseq ?_
  apply vrp
  · apply VE.cons
    · first | exact ev_load rfl (gn rfl) rfl rfl Tryd.underlying23 rfl Tryd.sizeOf23 rfl rfl | exact ev_loadx rfl (gn rfl) rfl Tryd.underlying23 rfl Tryd.sizeOf23 (by assumption) rfl | exact ev_loada rfl (gn rfl) rfl rfl Tryd.underlying23 rfl Tryd.sizeOf23 rfl
    simp only [nmx, seval]
    apply VE.cons
    · first | exact ev_load rfl (gn rfl) rfl rfl Tryd.underlying24 rfl Tryd.sizeOf24 rfl rfl | exact ev_loadx rfl (gn rfl) rfl Tryd.underlying24 rfl Tryd.sizeOf24 (by assumption) rfl | exact ev_loada rfl (gn rfl) rfl rfl Tryd.underlying24 rfl Tryd.sizeOf24 rfl
    simp only [nmx, seval]
    apply VE.cons
    · exact ev_callb (v := .tuple #[B32 (i * h % nn), B32 (i * r % nn)]) rfl (gn rfl) rfl (en_of Tryd.func10 (by kernel_rfl) rfl) (fun w' hw' => by have a := Parts_ok hh hr ht w'; rw [hp] at a; exact a)
    simp only [nmx, seval]
    apply VE.cons
    · exact ev_move rfl (gn rfl)
    simp only [nmx, seval]
    apply VE.cons
    · first | exact ev_extract rfl (gn rfl) rfl rfl | exact ev_extractt rfl (gn rfl) rfl rfl
    simp only [nmx, seval]
    apply VE.cons
    · first | exact ev_extract rfl (gn rfl) rfl rfl | exact ev_extractt rfl (gn rfl) rfl rfl
    simp only [nmx, seval]
    apply VE.cons
    · exact ev_alloc rfl rfl (gn rfl) Tryd.zeroValue23
    simp only [nmx, seval]
    apply VE.cons
    · exact ev_alloc rfl rfl (gn rfl) Tryd.zeroValue23
    simp only [nmx, seval]
    apply VE.cons
    · exact ev_store rfl (gn rfl) rfl rfl rfl Tryd.sizeOf23 rfl (by simp) rfl
    simp only [nmx, seval]
    apply VE.cons
    · exact ev_store rfl (gn rfl) rfl rfl rfl Tryd.sizeOf23 rfl (by simp) rfl
    simp only [nmx, seval]
    exact VE.nil _
  · kernel_rfl
  change VOk _ _ _ _ _
  refine vseq ?_
  apply vrd (by kernel_rfl)
  · apply VE.cons
    · first | exact ev_load rfl (gn rfl) rfl rfl Tryd.underlying23 rfl Tryd.sizeOf23 rfl rfl | exact ev_loadx rfl (gn rfl) rfl Tryd.underlying23 rfl Tryd.sizeOf23 (by assumption) rfl | exact ev_loada rfl (gn rfl) rfl rfl Tryd.underlying23 rfl Tryd.sizeOf23 rfl
    simp only [nmx, seval]
    apply VE.cons
    · exact ev_call rfl (gn rfl) rfl (en_of Tryd.func13 (by kernel_rfl) rfl) (fun w' hw' => baseP w' (hL.bw hw'))
    simp only [nmx, seval]
    apply VE.cons
    · exact ev_call rfl (gn rfl) rfl (en_of Tryd.func12 (by kernel_rfl) rfl) (fun w' hw' => TimesE (mod_R _) hA TollEc.base_on w' (hL.bw hw'))
    simp only [nmx, seval]
    apply VE.cons
    · first | exact ev_load rfl (gn rfl) rfl rfl Tryd.underlying23 rfl Tryd.sizeOf23 rfl rfl | exact ev_loadx rfl (gn rfl) rfl Tryd.underlying23 rfl Tryd.sizeOf23 (by assumption) rfl | exact ev_loada rfl (gn rfl) rfl rfl Tryd.underlying23 rfl Tryd.sizeOf23 rfl
    simp only [nmx, seval]
    apply VE.cons
    · first | exact ev_load rfl (gn rfl) rfl rfl Tryd.underlying26 rfl Tryd.sizeOf26 rfl rfl | exact ev_loadx rfl (gn rfl) rfl Tryd.underlying26 rfl Tryd.sizeOf26 (by assumption) rfl | exact ev_loada rfl (gn rfl) rfl rfl Tryd.underlying26 rfl Tryd.sizeOf26 rfl
    simp only [nmx, seval]
    apply VE.cons
    · exact ev_call rfl (gn rfl) rfl (en_of Tryd.func12 (by kernel_rfl) rfl) (fun w' hw' => TimesE (mod_R _) hB oq w' (hL.bw hw'))
    simp only [nmx, seval]
    apply VE.cons
    · exact ev_call rfl (gn rfl) rfl (en_of Tryd.func11 (by kernel_rfl) rfl) (fun w' hw' => AddE hX oA oB w' (hL.bw hw'))
    simp only [nmx, seval]
    apply VE.cons
    · exact ev_alloc rfl rfl (gn rfl) Tryd.zeroValue26
    simp only [nmx, seval]
    apply VE.cons
    · exact ev_store rfl (gn rfl) rfl rfl rfl Tryd.sizeOf26 rfl (by simp) rfl
    simp only [nmx, seval]
    exact VE.nil _
  · kernel_rfl
  change VOk _ _ _ _ _
  refine vseq ?_
  apply vrd (by kernel_rfl)
  · apply VE.cons
    · first | exact ev_load rfl (gn rfl) rfl rfl Tryd.underlying26 rfl Tryd.sizeOf26 rfl rfl | exact ev_loadx rfl (gn rfl) rfl Tryd.underlying26 rfl Tryd.sizeOf26 (by assumption) rfl | exact ev_loada rfl (gn rfl) rfl rfl Tryd.underlying26 rfl Tryd.sizeOf26 rfl
    simp only [nmx, seval]
    apply VE.cons
    · exact ev_build rfl (gn rfl) rfl built24_0
    simp only [nmx, seval]
    apply VE.cons
    · exact ev_bin (c := .bool true) rfl (gn rfl) rfl rfl (fun w => neP_t oX hi0 _ _ w)
    simp only [nmx, seval]
    apply VE.cons
    · exact ev_move rfl (gn rfl)
    simp only [nmx, seval]
    apply VE.cons
    · first | exact Ev.skip (fun _ => rfl) | exact ev_field rfl (fun _ => rfl) rfl Tryd.underlying26 rfl Tryd.sizeOf23 | exact ev_fieldx rfl (fun _ => rfl) rfl Tryd.underlying26 rfl Tryd.sizeOf23
    simp only [nmx, seval]
    apply VE.cons
    · first | exact Ev.skip (fun _ => rfl) | exact ev_load rfl (fun _ => rfl) rfl rfl Tryd.underlying23 rfl Tryd.sizeOf23 rfl rfl | exact ev_loadx rfl (fun _ => rfl) rfl Tryd.underlying23 rfl Tryd.sizeOf23 (by assumption) rfl | exact ev_loada rfl (fun _ => rfl) rfl rfl Tryd.underlying23 rfl Tryd.sizeOf23 rfl
    simp only [nmx, seval]
    apply VE.cons
    · first | exact Ev.skip (fun _ => rfl) | exact ev_callb (v := B32 (xv X % nn)) rfl (fun _ => rfl) rfl (en_of Tryd.func14 (by kernel_rfl) rfl) (fun w' hw' => rRest_ok (xv_lt X) w')
    simp only [nmx, seval]
    apply VE.cons
    · first | exact Ev.skip (fun _ => rfl) | exact ev_load rfl (fun _ => rfl) rfl rfl Tryd.underlying23 rfl Tryd.sizeOf23 rfl rfl | exact ev_loadx rfl (fun _ => rfl) rfl Tryd.underlying23 rfl Tryd.sizeOf23 (by assumption) rfl | exact ev_loada rfl (fun _ => rfl) rfl rfl Tryd.underlying23 rfl Tryd.sizeOf23 rfl
    simp only [nmx, seval]
    apply VE.cons
    · first | exact Ev.skip (fun _ => rfl) | exact ev_bin (c := .bool false) rfl (fun _ => rfl) rfl rfl (fun w => eqb_p (mod_R _) hr (decide_eq_false hne) _ _ w)
    simp only [nmx, seval]
    apply VE.cons
    · refine ev_pure' (gn rfl) (fun ρ w => by simp only [VS.act, SV.c, List.map_cons, List.map_nil]; go_simp; exact rfl) (fun _ _ => rfl)
    simp only [nmx, seval]
    apply VE.cons
    · exact ev_assign rfl (gn rfl)
    simp only [nmx, seval]
    exact VE.nil _
  · kernel_rfl
  change VOk _ _ _ _ _
  refine vseq ?_
  apply vrp
  · apply VE.cons
    · exact ev_move rfl (gn rfl)
    simp only [nmx, seval]
    apply VE.cons
    · exact ev_eql (p := false) rfl (gn rfl) rfl rfl (by decide)
    simp only [nmx, seval]
    apply VE.cons
    · exact ev_move rfl (gn rfl)
    simp only [nmx, seval]
    apply VE.cons
    · exact ev_bin (c := .bool true) rfl (gn rfl) rfl rfl (fun w => eqBb _ _ _ _ w)
    simp only [nmx, seval]
    apply VE.cons
    · exact ev_move rfl (gn rfl)
    simp only [nmx, seval]
    apply VE.cons
    · first | exact Ev.skip (fun _ => rfl) | exact ev_move rfl (fun _ => rfl)
    simp only [nmx, seval]
    apply VE.cons
    · first | exact Ev.skip (fun _ => rfl) | exact ev_eql (p := false) rfl (fun _ => rfl) rfl rfl (by decide)
    simp only [nmx, seval]
    apply VE.cons
    · first | exact Ev.skip (fun _ => rfl) | exact ev_move rfl (fun _ => rfl)
    simp only [nmx, seval]
    apply VE.cons
    · first | exact Ev.skip (fun _ => rfl) | exact ev_move rfl (fun _ => rfl)
    simp only [nmx, seval]
    apply VE.cons
    · first | exact Ev.skip (fun _ => rfl) | exact ev_eql (p := true) rfl (fun _ => rfl) rfl rfl (by decide)
    simp only [nmx, seval]
    apply VE.cons
    · first | exact Ev.skip (fun _ => rfl) | refine ev_pure' (fun _ => rfl) (fun ρ w => by simp only [VS.act, SV.c, List.map_cons, List.map_nil]; go_simp; exact rfl) (fun _ _ => rfl)
    simp only [nmx, seval]
    apply VE.cons
    · refine ev_pure' (gn rfl) (fun ρ w => by simp only [VS.act, SV.c, List.map_cons, List.map_nil]; go_simp; exact rfl) (fun _ _ => rfl)
    simp only [nmx, seval]
    apply VE.cons
    · exact ev_assign rfl (gn rfl)
    simp only [nmx, seval]
    exact VE.nil _
  · kernel_rfl
  change VOk _ _ _ _ _
  refine vret ?_
  refine post_ret (res1 Tryd.results4 (rv_tmp rfl)) ?_
  intro ρ w' hr
  exact ⟨rfl, hr.1⟩
theorem chk_g {a h r t : Nat} (ha : a < R) (hh : h < R) (hr : r < R) (ht : t < R) (w : World) (hL : Laid w) (hK : LaidK w) (hH : LaidH w) (hb1 : 6 < w.heap.size) {q : Pt} (sa : sec a = true) (hq : smul a base = q) (oq : q.on) (iq : q ≠ .inf) {i : Nat} {A B X : Pt} (sr : sec r = true) (st : sec t = true) (hi : i < nn) (hv : i * t % nn = 1) (hp : t ^ (nn - 2) % nn = i) (hA : smul (i * h % nn) base = A) (hB : smul (i * r % nn) q = B) (oA : A.on) (oB : B.on) (hX : add A B = X) (oX : X.on) (hi0 : X ≠ .inf) (hne : xv X % nn = r) : Calls Tryd.prog 4 #[B32 a, B32 h, PT r t] w fun e w' => e = .returned (.bool true) ∧ Bw w w' := by
  go_enter Tryd.func4, Tryd.ntmps4
  refine ve_go ?_
  simp only [List.map_cons, List.map_nil]
  refine vseq ?_
  apply vrp
  · apply VE.cons
    · exact ev_box rfl rfl (gn rfl) rfl
    simp only [nmx, seval]
    apply VE.cons
    · exact ev_box rfl rfl (gn rfl) rfl
    simp only [nmx, seval]
    apply VE.cons
    · exact ev_box rfl rfl (gn rfl) rfl
    simp only [nmx, seval]
    apply VE.cons
    · exact ev_assign rfl (gn rfl)
    simp only [nmx, seval]
    exact VE.nil _
  · kernel_rfl
  change VOk _ _ _ _ _
  refine vseq ?_
  apply vrp
  · apply VE.cons
    · first | exact ev_load rfl (gn rfl) rfl rfl Tryd.underlying23 rfl Tryd.sizeOf23 rfl rfl | exact ev_loadx rfl (gn rfl) rfl Tryd.underlying23 rfl Tryd.sizeOf23 (by assumption) rfl | exact ev_loada rfl (gn rfl) rfl rfl Tryd.underlying23 rfl Tryd.sizeOf23 rfl
    simp only [nmx, seval]
    apply VE.cons
    · exact ev_callrowt [] rfl rfl (gn rfl) rfl (en_of Tryd.func8 (by kernel_rfl) rfl) (n := (wl q).length) (size := 1) (l := wl q) (y := .int .i64 0) (wl_len q) (fun ρ S w' hb hR => public_t ha w' (hL.bw hb) sa hq oq)
    simp only [nmx, seval]
    apply VE.cons
    · exact ev_move rfl (gn rfl)
    simp only [nmx, seval]
    apply VE.cons
    · first | exact ev_extract rfl (gn rfl) rfl rfl | exact ev_extractt rfl (gn rfl) rfl rfl
    simp only [nmx, seval]
    apply VE.cons
    · first | exact ev_extract rfl (gn rfl) rfl rfl | exact ev_extractt rfl (gn rfl) rfl rfl
    simp only [nmx, seval]
    apply VE.cons
    · exact ev_assign rfl (gn rfl)
    simp only [nmx, seval]
    apply VE.cons
    · exact ev_assign rfl (gn rfl)
    simp only [nmx, seval]
    exact VE.nil _
  · kernel_rfl
  change VOk _ _ _ _ _
  refine vseq ?_
  refine vseq ?_
  apply vrp
  · apply VE.cons
    · exact ev_callb (v := .bool true) rfl (gn rfl) rfl (en_of Tryd.func7 (by kernel_rfl) rfl) (fun w' hw' => signs_ok w' (hL.bw hw') (hK.bw hw') (hH.bw hw') (Nat.lt_of_lt_of_le hb1 hw'.size))
    simp only [nmx, seval]
    apply VE.cons
    · refine ev_pure' (gn rfl) (fun ρ w => by simp only [VS.act, SV.c, List.map_cons, List.map_nil]; go_simp; exact rfl) (fun _ _ => rfl)
    simp only [nmx, seval]
    apply VE.cons
    · exact ev_move rfl (gn rfl)
    simp only [nmx, seval]
    apply VE.cons
    · first | exact Ev.skip (fun _ => rfl) | exact ev_move rfl (fun _ => rfl)
    simp only [nmx, seval]
    apply VE.cons
    · first | exact Ev.skip (fun _ => rfl) | exact ev_neq (p := false) rfl (fun _ => rfl) rfl rfl (by decide)
    simp only [nmx, seval]
    apply VE.cons
    · refine ev_pure' (gn rfl) (fun ρ w => by simp only [VS.act, SV.c, List.map_cons, List.map_nil]; go_simp; exact rfl) (fun _ _ => rfl)
    simp only [nmx, seval]
    exact VE.nil _
  · kernel_rfl
  change VOk _ _ _ _ _
  refine vcond_f rfl ?_
  refine vskip ?_
  change VOk _ _ _ _ _
  refine vseq ?_
  apply vrp
  · apply VE.cons
    · exact ev_alloc rfl rfl (gn rfl) Tryd.zeroValue23
    simp only [nmx, seval]
    apply VE.cons
    · exact ev_alloc rfl rfl (gn rfl) Tryd.zeroValue23
    simp only [nmx, seval]
    exact VE.nil _
  · kernel_rfl
  change VOk _ _ _ _ _
  refine vseq ?_
  apply vrd (by kernel_rfl)
  · apply VE.cons
    · exact ev_slicea rfl (gn rfl) rfl Tryd.underlying23 Tryd.sizeOf5
    simp only [nmx, seval]
    apply VE.cons
    · exact ev_slicelh (a := 0) (b := 32) rfl (gn rfl) rfl Tryd.underlying24 Tryd.sizeOf5 rfl rfl (by decide) (by decide) (by decide)
    simp only [nmx, seval]
    apply VE.cons
    · exact ev_copy (news := l32 r) (len := 32) (k := 32) rfl (gn rfl) rfl rfl rfl (rdg_cells rfl rfl rfl (by decide)) Tryd.underlying22 info5 rfl rfl (by simp) rfl (by decide)
    simp only [nmx, seval]
    exact VE.nil _
  · kernel_rfl
  change VOk _ _ _ _ _
  refine vseq ?_
  apply vrd (by kernel_rfl)
  · apply VE.cons
    · exact ev_slicea rfl (gn rfl) rfl Tryd.underlying23 Tryd.sizeOf5
    simp only [nmx, seval]
    apply VE.cons
    · exact ev_slicelh (a := 32) (b := 64) rfl (gn rfl) rfl Tryd.underlying24 Tryd.sizeOf5 rfl rfl (by decide) (by decide) (by decide)
    simp only [nmx, seval]
    apply VE.cons
    · exact ev_copy (news := l32 t) (len := 32) (k := 32) rfl (gn rfl) rfl rfl rfl (rdg_cells rfl rfl rfl (by decide)) Tryd.underlying22 info5 rfl rfl (by simp) rfl (by decide)
    simp only [nmx, seval]
    exact VE.nil _
  · kernel_rfl
  change VOk _ _ _ _ _
  refine vseq ?_
  apply vrp
  · apply VE.cons
    · exact ev_move rfl (gn rfl)
    simp only [nmx, seval]
    apply VE.cons
    · first | exact ev_load rfl (gn rfl) rfl rfl Tryd.underlying23 rfl Tryd.sizeOf23 rfl rfl | exact ev_loadx rfl (gn rfl) rfl Tryd.underlying23 rfl Tryd.sizeOf23 (by assumption) rfl | exact ev_loada rfl (gn rfl) rfl rfl Tryd.underlying23 rfl Tryd.sizeOf23 rfl
    simp only [nmx, seval]
    apply VE.cons
    · first | exact ev_load rfl (gn rfl) rfl rfl Tryd.underlying24 rfl Tryd.sizeOf24 rfl rfl | exact ev_loadx rfl (gn rfl) rfl Tryd.underlying24 rfl Tryd.sizeOf24 (by assumption) rfl | exact ev_loada rfl (gn rfl) rfl rfl Tryd.underlying24 rfl Tryd.sizeOf24 rfl
    simp only [nmx, seval]
    apply VE.cons
    · exact ev_callp (v := .int .i64 0) [20] rfl (gn rfl) rfl (en_of Tryd.func6 (by kernel_rfl) rfl) (fun ρ S w' hb hR => Check_g (x := xv q) (y := yv q) hh hr ht w' (hL.bw hb) (xv_lt q) (yv_lt q) (fun w'' hb'' => read_pt oq iq w'' ((hL.bw hb).bw hb'') (sl_bw (row_get (id := 20) hR (by simp) rfl) hb'')) sr st hi hv hA (by rw [toP_PV oq]; exact hB) oA oB hX oX hi0 hne)
    simp only [nmx, seval]
    apply VE.cons
    · exact ev_assign rfl (gn rfl)
    simp only [nmx, seval]
    exact VE.nil _
  · kernel_rfl
  change VOk _ _ _ _ _
  refine vseq ?_
  refine vseq ?_
  apply vrp
  · apply VE.cons
    · first | exact ev_load rfl (gn rfl) rfl rfl Tryd.underlying23 rfl Tryd.sizeOf23 rfl rfl | exact ev_loadx rfl (gn rfl) rfl Tryd.underlying23 rfl Tryd.sizeOf23 (by assumption) rfl | exact ev_loada rfl (gn rfl) rfl rfl Tryd.underlying23 rfl Tryd.sizeOf23 rfl
    simp only [nmx, seval]
    apply VE.cons
    · exact ev_callb (v := .bool true) rfl (gn rfl) rfl (en_of Tryd.func9 (by kernel_rfl) rfl) (fun w' hw' => by have a := rfine_ok hr w'; rw [sr] at a; exact a)
    simp only [nmx, seval]
    apply VE.cons
    · refine ev_pure' (gn rfl) (fun ρ w => by simp only [VS.act, SV.c, List.map_cons, List.map_nil]; go_simp; exact rfl) (fun _ _ => rfl)
    simp only [nmx, seval]
    apply VE.cons
    · exact ev_move rfl (gn rfl)
    simp only [nmx, seval]
    apply VE.cons
    · first | exact Ev.skip (fun _ => rfl) | exact ev_load rfl (fun _ => rfl) rfl rfl Tryd.underlying23 rfl Tryd.sizeOf23 rfl rfl | exact ev_loadx rfl (fun _ => rfl) rfl Tryd.underlying23 rfl Tryd.sizeOf23 (by assumption) rfl | exact ev_loada rfl (fun _ => rfl) rfl rfl Tryd.underlying23 rfl Tryd.sizeOf23 rfl
    simp only [nmx, seval]
    apply VE.cons
    · first | exact Ev.skip (fun _ => rfl) | exact ev_callb (v := .bool true) rfl (fun _ => rfl) rfl (en_of Tryd.func9 (by kernel_rfl) rfl) (fun w' hw' => by have a := rfine_ok ht w'; rw [st] at a; exact a)
    simp only [nmx, seval]
    apply VE.cons
    · first | exact Ev.skip (fun _ => rfl) | refine ev_pure' (fun _ => rfl) (fun ρ w => by simp only [VS.act, SV.c, List.map_cons, List.map_nil]; go_simp; exact rfl) (fun _ _ => rfl)
    simp only [nmx, seval]
    apply VE.cons
    · refine ev_pure' (gn rfl) (fun ρ w => by simp only [VS.act, SV.c, List.map_cons, List.map_nil]; go_simp; exact rfl) (fun _ _ => rfl)
    simp only [nmx, seval]
    exact VE.nil _
  · kernel_rfl
  change VOk _ _ _ _ _
  refine vcond_f rfl ?_
  refine vskip ?_
  change VOk _ _ _ _ _
  refine vseq ?_
  apply vrp
  · apply VE.cons
    · exact ev_move rfl (gn rfl)
    simp only [nmx, seval]
    apply VE.cons
    · exact ev_callp (v := .tuple #[PV q, .int .i64 0]) [20] rfl (gn rfl) rfl (en_of Tryd.func5 (by kernel_rfl) rfl) (fun ρ S w' hb hR => read_pt oq iq w' (hL.bw hb) (row_get (id := 20) hR (by simp) rfl))
    simp only [nmx, seval]
    apply VE.cons
    · exact ev_move rfl (gn rfl)
    simp only [nmx, seval]
    apply VE.cons
    · first | exact ev_extract rfl (gn rfl) rfl rfl | exact ev_extractt rfl (gn rfl) rfl rfl
    simp only [nmx, seval]
    apply VE.cons
    · first | exact ev_extract rfl (gn rfl) rfl rfl | exact ev_extractt rfl (gn rfl) rfl rfl
    simp only [nmx, seval]
    apply VE.cons
    · exact ev_alloc rfl rfl (gn rfl) Tryd.zeroValue26
    simp only [nmx, seval]
    apply VE.cons
    · exact ev_store rfl (gn rfl) rfl rfl rfl Tryd.sizeOf26 rfl (by simp) rfl
    simp only [nmx, seval]
    apply VE.cons
    · exact ev_assign rfl (gn rfl)
    simp only [nmx, seval]
    exact VE.nil _
  · kernel_rfl
  change VOk _ _ _ _ _
  refine vseq ?_
  apply vrp
  · apply VE.cons
    · first | exact ev_load rfl (gn rfl) rfl rfl Tryd.underlying23 rfl Tryd.sizeOf23 rfl rfl | exact ev_loadx rfl (gn rfl) rfl Tryd.underlying23 rfl Tryd.sizeOf23 (by assumption) rfl | exact ev_loada rfl (gn rfl) rfl rfl Tryd.underlying23 rfl Tryd.sizeOf23 rfl
    simp only [nmx, seval]
    apply VE.cons
    · first | exact ev_load rfl (gn rfl) rfl rfl Tryd.underlying24 rfl Tryd.sizeOf24 rfl rfl | exact ev_loadx rfl (gn rfl) rfl Tryd.underlying24 rfl Tryd.sizeOf24 (by assumption) rfl | exact ev_loada rfl (gn rfl) rfl rfl Tryd.underlying24 rfl Tryd.sizeOf24 rfl
    simp only [nmx, seval]
    apply VE.cons
    · exact ev_callb (v := .tuple #[B32 (i * h % nn), B32 (i * r % nn)]) rfl (gn rfl) rfl (en_of Tryd.func10 (by kernel_rfl) rfl) (fun w' hw' => by have a := Parts_ok hh hr ht w'; rw [hp] at a; exact a)
    simp only [nmx, seval]
    apply VE.cons
    · exact ev_move rfl (gn rfl)
    simp only [nmx, seval]
    apply VE.cons
    · first | exact ev_extract rfl (gn rfl) rfl rfl | exact ev_extractt rfl (gn rfl) rfl rfl
    simp only [nmx, seval]
    apply VE.cons
    · first | exact ev_extract rfl (gn rfl) rfl rfl | exact ev_extractt rfl (gn rfl) rfl rfl
    simp only [nmx, seval]
    apply VE.cons
    · exact ev_alloc rfl rfl (gn rfl) Tryd.zeroValue23
    simp only [nmx, seval]
    apply VE.cons
    · exact ev_alloc rfl rfl (gn rfl) Tryd.zeroValue23
    simp only [nmx, seval]
    apply VE.cons
    · exact ev_store rfl (gn rfl) rfl rfl rfl Tryd.sizeOf23 rfl (by simp) rfl
    simp only [nmx, seval]
    apply VE.cons
    · exact ev_store rfl (gn rfl) rfl rfl rfl Tryd.sizeOf23 rfl (by simp) rfl
    simp only [nmx, seval]
    exact VE.nil _
  · kernel_rfl
  change VOk _ _ _ _ _
  refine vseq ?_
  apply vrd (by kernel_rfl)
  · apply VE.cons
    · first | exact ev_load rfl (gn rfl) rfl rfl Tryd.underlying23 rfl Tryd.sizeOf23 rfl rfl | exact ev_loadx rfl (gn rfl) rfl Tryd.underlying23 rfl Tryd.sizeOf23 (by assumption) rfl | exact ev_loada rfl (gn rfl) rfl rfl Tryd.underlying23 rfl Tryd.sizeOf23 rfl
    simp only [nmx, seval]
    apply VE.cons
    · exact ev_call rfl (gn rfl) rfl (en_of Tryd.func13 (by kernel_rfl) rfl) (fun w' hw' => baseP w' (hL.bw hw'))
    simp only [nmx, seval]
    apply VE.cons
    · exact ev_call rfl (gn rfl) rfl (en_of Tryd.func12 (by kernel_rfl) rfl) (fun w' hw' => TimesE (mod_R _) hA TollEc.base_on w' (hL.bw hw'))
    simp only [nmx, seval]
    apply VE.cons
    · first | exact ev_load rfl (gn rfl) rfl rfl Tryd.underlying23 rfl Tryd.sizeOf23 rfl rfl | exact ev_loadx rfl (gn rfl) rfl Tryd.underlying23 rfl Tryd.sizeOf23 (by assumption) rfl | exact ev_loada rfl (gn rfl) rfl rfl Tryd.underlying23 rfl Tryd.sizeOf23 rfl
    simp only [nmx, seval]
    apply VE.cons
    · first | exact ev_load rfl (gn rfl) rfl rfl Tryd.underlying26 rfl Tryd.sizeOf26 rfl rfl | exact ev_loadx rfl (gn rfl) rfl Tryd.underlying26 rfl Tryd.sizeOf26 (by assumption) rfl | exact ev_loada rfl (gn rfl) rfl rfl Tryd.underlying26 rfl Tryd.sizeOf26 rfl
    simp only [nmx, seval]
    apply VE.cons
    · exact ev_call rfl (gn rfl) rfl (en_of Tryd.func12 (by kernel_rfl) rfl) (fun w' hw' => TimesE (mod_R _) hB oq w' (hL.bw hw'))
    simp only [nmx, seval]
    apply VE.cons
    · exact ev_call rfl (gn rfl) rfl (en_of Tryd.func11 (by kernel_rfl) rfl) (fun w' hw' => AddE hX oA oB w' (hL.bw hw'))
    simp only [nmx, seval]
    apply VE.cons
    · exact ev_alloc rfl rfl (gn rfl) Tryd.zeroValue26
    simp only [nmx, seval]
    apply VE.cons
    · exact ev_store rfl (gn rfl) rfl rfl rfl Tryd.sizeOf26 rfl (by simp) rfl
    simp only [nmx, seval]
    exact VE.nil _
  · kernel_rfl
  change VOk _ _ _ _ _
  refine vseq ?_
  apply vrd (by kernel_rfl)
  · apply VE.cons
    · first | exact ev_load rfl (gn rfl) rfl rfl Tryd.underlying26 rfl Tryd.sizeOf26 rfl rfl | exact ev_loadx rfl (gn rfl) rfl Tryd.underlying26 rfl Tryd.sizeOf26 (by assumption) rfl | exact ev_loada rfl (gn rfl) rfl rfl Tryd.underlying26 rfl Tryd.sizeOf26 rfl
    simp only [nmx, seval]
    apply VE.cons
    · exact ev_build rfl (gn rfl) rfl built24_0
    simp only [nmx, seval]
    apply VE.cons
    · exact ev_bin (c := .bool true) rfl (gn rfl) rfl rfl (fun w => neP_t oX hi0 _ _ w)
    simp only [nmx, seval]
    apply VE.cons
    · exact ev_move rfl (gn rfl)
    simp only [nmx, seval]
    apply VE.cons
    · first | exact Ev.skip (fun _ => rfl) | exact ev_field rfl (fun _ => rfl) rfl Tryd.underlying26 rfl Tryd.sizeOf23 | exact ev_fieldx rfl (fun _ => rfl) rfl Tryd.underlying26 rfl Tryd.sizeOf23
    simp only [nmx, seval]
    apply VE.cons
    · first | exact Ev.skip (fun _ => rfl) | exact ev_load rfl (fun _ => rfl) rfl rfl Tryd.underlying23 rfl Tryd.sizeOf23 rfl rfl | exact ev_loadx rfl (fun _ => rfl) rfl Tryd.underlying23 rfl Tryd.sizeOf23 (by assumption) rfl | exact ev_loada rfl (fun _ => rfl) rfl rfl Tryd.underlying23 rfl Tryd.sizeOf23 rfl
    simp only [nmx, seval]
    apply VE.cons
    · first | exact Ev.skip (fun _ => rfl) | exact ev_callb (v := B32 (xv X % nn)) rfl (fun _ => rfl) rfl (en_of Tryd.func14 (by kernel_rfl) rfl) (fun w' hw' => rRest_ok (xv_lt X) w')
    simp only [nmx, seval]
    apply VE.cons
    · first | exact Ev.skip (fun _ => rfl) | exact ev_load rfl (fun _ => rfl) rfl rfl Tryd.underlying23 rfl Tryd.sizeOf23 rfl rfl | exact ev_loadx rfl (fun _ => rfl) rfl Tryd.underlying23 rfl Tryd.sizeOf23 (by assumption) rfl | exact ev_loada rfl (fun _ => rfl) rfl rfl Tryd.underlying23 rfl Tryd.sizeOf23 rfl
    simp only [nmx, seval]
    apply VE.cons
    · first | exact Ev.skip (fun _ => rfl) | exact ev_bin (c := .bool true) rfl (fun _ => rfl) rfl rfl (fun w => eqb_p (mod_R _) hr (decide_eq_true hne) _ _ w)
    simp only [nmx, seval]
    apply VE.cons
    · refine ev_pure' (gn rfl) (fun ρ w => by simp only [VS.act, SV.c, List.map_cons, List.map_nil]; go_simp; exact rfl) (fun _ _ => rfl)
    simp only [nmx, seval]
    apply VE.cons
    · exact ev_assign rfl (gn rfl)
    simp only [nmx, seval]
    exact VE.nil _
  · kernel_rfl
  change VOk _ _ _ _ _
  refine vseq ?_
  apply vrp
  · apply VE.cons
    · exact ev_move rfl (gn rfl)
    simp only [nmx, seval]
    apply VE.cons
    · exact ev_eql (p := true) rfl (gn rfl) rfl rfl (by decide)
    simp only [nmx, seval]
    apply VE.cons
    · exact ev_move rfl (gn rfl)
    simp only [nmx, seval]
    apply VE.cons
    · exact ev_bin (c := .bool true) rfl (gn rfl) rfl rfl (fun w => eqBb _ _ _ _ w)
    simp only [nmx, seval]
    apply VE.cons
    · exact ev_move rfl (gn rfl)
    simp only [nmx, seval]
    apply VE.cons
    · first | exact Ev.skip (fun _ => rfl) | exact ev_move rfl (fun _ => rfl)
    simp only [nmx, seval]
    apply VE.cons
    · first | exact Ev.skip (fun _ => rfl) | exact ev_eql (p := true) rfl (fun _ => rfl) rfl rfl (by decide)
    simp only [nmx, seval]
    apply VE.cons
    · first | exact Ev.skip (fun _ => rfl) | exact ev_move rfl (fun _ => rfl)
    simp only [nmx, seval]
    apply VE.cons
    · first | exact Ev.skip (fun _ => rfl) | exact ev_move rfl (fun _ => rfl)
    simp only [nmx, seval]
    apply VE.cons
    · first | exact Ev.skip (fun _ => rfl) | exact ev_eql (p := false) rfl (fun _ => rfl) rfl rfl (by decide)
    simp only [nmx, seval]
    apply VE.cons
    · first | exact Ev.skip (fun _ => rfl) | refine ev_pure' (fun _ => rfl) (fun ρ w => by simp only [VS.act, SV.c, List.map_cons, List.map_nil]; go_simp; exact rfl) (fun _ _ => rfl)
    simp only [nmx, seval]
    apply VE.cons
    · refine ev_pure' (gn rfl) (fun ρ w => by simp only [VS.act, SV.c, List.map_cons, List.map_nil]; go_simp; exact rfl) (fun _ _ => rfl)
    simp only [nmx, seval]
    apply VE.cons
    · exact ev_assign rfl (gn rfl)
    simp only [nmx, seval]
    exact VE.nil _
  · kernel_rfl
  change VOk _ _ _ _ _
  refine vret ?_
  refine post_ret (res1 Tryd.results4 (rv_tmp rfl)) ?_
  intro ρ w' hr
  exact ⟨rfl, hr.1⟩
theorem checks_law {a h r t : Nat} (ha : a < R) (hh : h < R) (hr : r < R) (ht : t < R) (w : World) (hL : Laid w) (hK : LaidK w) (hH : LaidH w) (hb1 : 6 < w.heap.size) : Calls Tryd.prog 4 #[B32 a, B32 h, PT r t] w fun e w' => e = .returned (.bool true) ∧ Bw w w' := by
  cases sa : sec a with
  | false => exact chk_0 ha hh hr ht w hL hK hH hb1 sa
  | true =>
    have oq := TollEc.smul_on TollEc.base_on a
    have iq := sec_inf sa
    cases sr : sec r with
    | false => exact chk_1 ha hh hr ht w hL hK hH hb1 sa rfl oq iq sr
    | true =>
      cases st : sec t with
      | false => exact chk_2 ha hh hr ht w hL hK hH hb1 sa rfl oq iq sr st
      | true =>
        obtain ⟨hv, hi⟩ := ferm st
        have oA := TollEc.smul_on TollEc.base_on (t ^ (nn - 2) % nn * h % nn)
        have oB := TollEc.smul_on oq (t ^ (nn - 2) % nn * r % nn)
        by_cases hinf : add (smul (t ^ (nn - 2) % nn * h % nn) base) (smul (t ^ (nn - 2) % nn * r % nn) (smul a base)) = .inf
        · exact chk_i ha hh hr ht w hL hK hH hb1 sa rfl oq iq sr st hi hv rfl rfl rfl oA oB rfl (TollEc.on_add oA oB) hinf
        · by_cases hne : xv (add (smul (t ^ (nn - 2) % nn * h % nn) base) (smul (t ^ (nn - 2) % nn * r % nn) (smul a base))) % nn = r
          · exact chk_g ha hh hr ht w hL hK hH hb1 sa rfl oq iq sr st hi hv rfl rfl rfl oA oB rfl (TollEc.on_add oA oB) hinf hne
          · exact chk_b ha hh hr ht w hL hK hH hb1 sa rfl oq iq sr st hi hv rfl rfl rfl oA oB rfl (TollEc.on_add oA oB) hinf hne
end Go.Proofs.YtafbhakmkbehiaaDoor
end
section
namespace Go.Toll
open Go.ChangeShapes Go.WideShapes Go.ChangeAt Go.RowKit
theorem list_of {α : Type} {n : Nat} {p : Nat → α → Prop} (h : ∀ i, i < n → ∃ z, p i z) : ∃ zs : List α, zs.length = n ∧ ∀ i z, zs[i]? = some z → p i z := by
  induction n with
  | zero => exact ⟨[], rfl, fun i z hz => by simp at hz⟩
  | succ n ih =>
    obtain ⟨zs, hl, hp⟩ := ih fun i hi => h i (by omega)
    obtain ⟨z, hz⟩ := h n (by omega)
    refine ⟨zs ++ [z], by simp [hl], fun i y hy => ?_⟩
    by_cases hi : i < zs.length
    · rw [List.getElem?_append_left hi] at hy; exact hp i y hy
    · rw [List.getElem?_append_right (by omega)] at hy
      have hi0 : i - zs.length = 0 := by
        apply Classical.byContradiction; intro hne
        rw [List.getElem?_eq_none (by simp; omega)] at hy; cases hy
      rw [hi0] at hy
      simp at hy; subst hy
      obtain rfl : i = n := by omega
      exact hz
section
variable {H : Type} {enc : TypeId × Value → H} {P : Program} {w : World} {base : Nat} {sp : Nat → Bool} {held : Bool} {t e : TypeId} {n : Nat} {k : IntKind}
theorem open_ints {r : Reach} {b0 : Nat} {v : Value} {d : DataW H} {ps : List MemPlace} (ht : P.underlying t = some (.array n e)) (he : P.underlying e = some (.int k)) (hce : P.cellsOf e = 1) (hct : P.cellsOf t = n)
    (hv : Value.okWide P w r b0 t v) (hd : DataW.Trod enc P w base sp held t v d ps) :
    ∃ zs : List Int, zs.length = n ∧ v = .agg (zs.map (Value.int k)).toArray ∧ d = .agg (zs.map fun z => .lit (.int k z)) ∧ ps = [] ∧ ∀ z ∈ zs, (Lit.int k z).wf = true := by
  simp only [Value.okWide, ht] at hv
  obtain ⟨cs, rfl, hcs, _⟩ := hv
  rw [hct] at hcs
  obtain ⟨fuel, hf⟩ := hd
  obtain ⟨xs, m, rfl, hx, _, hxl, hi⟩ := DataW.trod_array ht hf
  simp only [hce, Nat.mul_one, Value.cells] at hi
  have hz : ∀ i, i < n → ∃ z : Int, cs.toList[i]? = some (.int k z) ∧ xs[i]? = some (.lit (.int k z), []) ∧ (Lit.int k z).wf = true := fun i hin => by
    have h1 := hi i hin
    rw [List.getElem?_eq_getElem (by omega)] at h1
    obtain ⟨z, h2, h3, h4⟩ := DataW.trod_int he h1
    have hic : i < cs.toList.length := by simp [hcs]; exact hin
    refine ⟨z, ?_, by rw [List.getElem?_eq_getElem (by omega), h3], h4⟩
    rw [List.drop_eq_getElem_cons hic] at h2
    simp at h2
    rw [List.getElem?_eq_getElem hic]
    simpa using h2
  obtain ⟨zs, hl, hp⟩ := list_of hz
  have e1 : cs.toList = zs.map (Value.int k) := by
    apply List.ext_getElem?
    intro i
    by_cases hin : i < n
    · obtain ⟨h1, _, _⟩ := hp i zs[i] (by simp [hl, hin])
      rw [h1]; simp [hl, hin]
    · rw [List.getElem?_eq_none (by simp [hcs]; omega), List.getElem?_eq_none (by simp [hl]; omega)]
  have e2 : xs = zs.map fun z => ((.lit (.int k z) : DataW H), ([] : List MemPlace)) := by
    apply List.ext_getElem?
    intro i
    by_cases hin : i < n
    · obtain ⟨_, h1, _⟩ := hp i zs[i] (by simp [hl, hin])
      rw [h1]; simp [hl, hin]
    · rw [List.getElem?_eq_none (by omega), List.getElem?_eq_none (by simp [hl]; omega)]
  simp only [Prod.mk.injEq] at hx
  refine ⟨zs, hl, by rw [← e1], by rw [hx.1, e2]; simp [Function.comp_def], by rw [hx.2, e2]; simp [List.flatMap_eq_nil_iff], fun z hz => ?_⟩
  obtain ⟨i, hi', rfl⟩ := List.getElem_of_mem hz
  exact (hp i zs[i] (by simp [hi'])).2.2
end
end Go.Toll
end
section
namespace Go.Proofs.YtafbhakmkbehiaaDoor
open Go.ChangeShapes Go.WideShapes Go.ChangeAt Go.RowKit Go.Vx Go.Lib
open TollSha (H0)
open TollMont (R)
open TollEc (pp cb nn)
set_option maxRecDepth 100000
theorem Tryd.own : ownKnob Tryd.prog.godebug = none := by kernel_rfl
theorem plainP : Plain Tryd.prog := ⟨by kernel_rfl, by kernel_rfl, by kernel_rfl⟩
theorem cells5 : Tryd.prog.cellsOf 5 = 1 := by kernel_rfl
theorem cells23 : Tryd.prog.cellsOf 23 = 32 := by kernel_rfl
theorem cells24 : Tryd.prog.cellsOf 24 = 64 := by kernel_rfl
theorem cells39 : Tryd.prog.cellsOf 100 = 1 := by kernel_rfl
theorem cellsS : Tryd.prog.cellsOf 101 = 8 := by kernel_rfl
theorem cellsR : Tryd.prog.cellsOf 109 = 64 := by kernel_rfl
theorem cellsN : Tryd.prog.cellsOf 50 = 4 := by kernel_rfl
theorem cellsW : Tryd.prog.cellsOf 48 = 1 := by kernel_rfl
theorem byts_of {zs : List Int} (h : ∀ z ∈ zs, (Lit.int .u8 z).wf = true) : ∃ bs : List Nat, zs.map (Value.int .u8) = bs.map b8 ∧ bs.length = zs.length ∧ ∀ x ∈ bs, x < 256 := by
  refine ⟨zs.map Int.toNat, ?_, by simp, ?_⟩
  · rw [List.map_map]
    apply List.map_congr_left
    intro z hz
    have := h z hz
    simp [Lit.wf, IntKind.min, IntKind.max, IntKind.bits, IntKind.signed] at this
    simp only [Function.comp, b8]
    rw [Int.toNat_of_nonneg (by omega)]
  · intro x hx
    obtain ⟨z, hz, rfl⟩ := List.mem_map.1 hx
    have := h z hz
    simp [Lit.wf, IntKind.min, IntKind.max, IntKind.bits, IntKind.signed] at this
    omega
theorem open_32 {H : Type} {enc : TypeId × Value → H} {w : World} {base : Nat} {sp : Nat → Bool} {held : Bool} {r : Reach} {b0 : Nat} {v : Value} {d : DataW H} {ps : List MemPlace}
    (hv : Value.okWide Tryd.prog w r b0 23 v) (hd : DataW.Trod enc Tryd.prog w base sp held 23 v d ps) : ∃ n, n < R ∧ v = B32 n := by
  obtain ⟨zs, hl, rfl, rfl, rfl, hw⟩ := Go.Toll.open_ints Tryd.underlying23 Tryd.underlying5 cells5 cells23 hv hd
  obtain ⟨bs, e1, e2, e3⟩ := byts_of hw
  have hbl : bs.length = 32 := by omega
  exact ⟨TollBy.beV bs 0, beV_R hbl e3, by rw [B32_bl, bl_beV hbl e3, e1]⟩
theorem open_64 {H : Type} {enc : TypeId × Value → H} {w : World} {base : Nat} {sp : Nat → Bool} {held : Bool} {r : Reach} {b0 : Nat} {v : Value} {d : DataW H} {ps : List MemPlace}
    (hv : Value.okWide Tryd.prog w r b0 24 v) (hd : DataW.Trod enc Tryd.prog w base sp held 24 v d ps) : ∃ x y, x < R ∧ y < R ∧ v = PT x y := by
  obtain ⟨zs, hl, rfl, rfl, rfl, hw⟩ := Go.Toll.open_ints Tryd.underlying24 Tryd.underlying5 cells5 cells24 hv hd
  obtain ⟨bs, e1, e2, e3⟩ := byts_of hw
  have l1 : (bs.take 32).length = 32 := by simp; omega
  have l2 : (bs.drop 32).length = 32 := by simp; omega
  have m1 : ∀ x ∈ bs.take 32, x < 256 := fun x hx => e3 x (List.mem_of_mem_take hx)
  have m2 : ∀ x ∈ bs.drop 32, x < 256 := fun x hx => e3 x (List.mem_of_mem_drop hx)
  refine ⟨TollBy.beV (bs.take 32) 0, TollBy.beV (bs.drop 32) 0, beV_R l1 m1, beV_R l2 m2, ?_⟩
  have hp : ∀ x y, PT x y = .agg ((bl x ++ bl y).map b8).toArray := fun _ _ => rfl
  rw [hp, bl_beV l1 m1, bl_beV l2 m2, List.take_append_drop, e1]
theorem g_start : Tryd.prog.globalNamed "tollgate/hash.start" = some 5 := by kernel_rfl
theorem t_start : (Tryd.prog.globals[5]?).map (·.type) = some 101 := by kernel_rfl
theorem g_rounds : Tryd.prog.globalNamed "tollgate/hash.rounds" = some 6 := by kernel_rfl
theorem t_rounds : (Tryd.prog.globals[6]?).map (·.type) = some 109 := by kernel_rfl
theorem g_prime : Tryd.prog.globalNamed "tollgate/curve.prime" = some 2 := by kernel_rfl
theorem t_prime : (Tryd.prog.globals[2]?).map (·.type) = some 50 := by kernel_rfl
theorem l_prime : lims (pp) = [18446744073709551615, 4294967295, 0, 18446744069414584321].map (Value.int .u64) := by
  obtain ⟨e0, e1, e2, e3⟩ := lims_c28
  unfold lims; rw [e0, e1, e2, e3]; rfl
theorem g_order : Tryd.prog.globalNamed "tollgate/curve.order" = some 4 := by kernel_rfl
theorem t_order : (Tryd.prog.globals[4]?).map (·.type) = some 50 := by kernel_rfl
theorem l_order : lims (nn) = [17562291160714782033, 13611842547513532036, 18446744073709551615, 18446744069414584320].map (Value.int .u64) := by
  obtain ⟨e0, e1, e2, e3⟩ := lims_c16
  unfold lims; rw [e0, e1, e2, e3]; rfl
theorem g_coeff : Tryd.prog.globalNamed "tollgate/curve.coeff" = some 3 := by kernel_rfl
theorem t_coeff : (Tryd.prog.globals[3]?).map (·.type) = some 50 := by kernel_rfl
theorem l_coeff : lims (cb.val) = [4309448131093880907, 7285987128567378166, 12964664127075681980, 6540974713487397863].map (Value.int .u64) := by
  obtain ⟨e0, e1, e2, e3⟩ := lims_c39
  unfold lims; rw [e0, e1, e2, e3]; rfl
theorem g_baseX : Tryd.prog.globalNamed "tollgate/curve.baseX" = some 0 := by kernel_rfl
theorem t_baseX : (Tryd.prog.globals[0]?).map (·.type) = some 50 := by kernel_rfl
theorem l_baseX : lims (TollEc.bx.val) = [17627433388654248598, 8575836109218198432, 17923454489921339634, 7716867327612699207].map (Value.int .u64) := by
  obtain ⟨e0, e1, e2, e3⟩ := lims_c13
  unfold lims; rw [e0, e1, e2, e3]; rfl
theorem g_baseY : Tryd.prog.globalNamed "tollgate/curve.baseY" = some 1 := by kernel_rfl
theorem t_baseY : (Tryd.prog.globals[1]?).map (·.type) = some 50 := by kernel_rfl
theorem l_baseY : lims (TollEc.bY.val) = [14678990851816772085, 3156516839386865358, 10297457778147434006, 5756518291402817435].map (Value.int .u64) := by
  obtain ⟨e0, e1, e2, e3⟩ := lims_c14
  unfold lims; rw [e0, e1, e2, e3]; rfl
theorem cell_tabc {H : Type} {enc : TypeId × Value → H} {name : String} {W : World} {g n base fuel : Nat} {sp : Nat → Bool} {held : Bool} {p : List MemPlace} {zs : List Int} {cs : Array Value} (hg : Tryd.prog.globalNamed name = some g) (hv : W.var? Tryd.prog name = some cs)
    (hd : DataW.trod enc Tryd.prog W base sp held fuel 50 cs.toList = some (tabData .u64 zs, p)) (hl : lims n = zs.map (Value.int .u64)) : ∀ (j : Nat) (v : Value), (lims n)[j]? = some v → W.cell? ⟨g, 0 + j, none⟩ = some v := fun j v hj => by
  have h1 := cells_of_tab Tryd.underlying50 Tryd.underlying48 cellsW cellsN hd
  have h2 := World.var?_cell hg hv (0 + j)
  rw [h2, Nat.zero_add]
  rw [hl, ← h1] at hj
  simpa using hj
theorem cell_tab {H : Type} {enc : TypeId × Value → H} {name : String} {W : World} {T n g base fuel : Nat} {sp : Nat → Bool} {held : Bool} {p : List MemPlace} {zs : List Int} {cs : Array Value} (hu : Tryd.prog.underlying T = some (.array n 100)) (hc : Tryd.prog.cellsOf T = n) (hg : Tryd.prog.globalNamed name = some g) (hv : W.var? Tryd.prog name = some cs)
    (hd : DataW.trod enc Tryd.prog W base sp held fuel T cs.toList = some (tabData .u32 zs, p)) : ∀ (j : Nat) (z : Int), zs[j]? = some z → W.cell? ⟨g, j, none⟩ = some (.int .u32 z) := fun j z hj => by
  have h1 := cells_of_tab hu Tryd.underlying100 cells39 hc hd
  have h2 := World.var?_cell hg hv j
  rw [h2]
  have : (zs.map (Value.int .u32))[j]? = some (.int .u32 z) := by rw [List.getElem?_map, hj]; rfl
  rw [← h1] at this
  simpa using this
def hTab : List Int := [1779033703, 3144134277, 1013904242, 2773480762, 1359893119, 2600822924, 528734635, 1541459225]
def kTab : List Int := [1116352408, 1899447441, 3049323471, 3921009573, 961987163, 1508970993, 2453635748, 2870763221, 3624381080, 310598401, 607225278, 1426881987, 1925078388, 2162078206, 2614888103, 3248222580, 3835390401, 4022224774, 264347078, 604807628, 770255983, 1249150122, 1555081692, 1996064986, 2554220882, 2821834349, 2952996808, 3210313671, 3336571891, 3584528711, 113926993, 338241895, 666307205, 773529912, 1294757372, 1396182291, 1695183700, 1986661051, 2177026350, 2456956037, 2730485921, 2820302411, 3259730800, 3345764771, 3516065817, 3600352804, 4094571909, 275423344, 430227734, 506948616, 659060556, 883997877, 958139571, 1322822218, 1537002063, 1747873779, 1955562222, 2024104815, 2227730452, 2361852424, 2428436474, 2756734187, 3204031479, 3329325298]
theorem hTab_eq : hTab.map (Value.int .u32) = [uv H0.a, uv H0.b, uv H0.c, uv H0.d, uv H0.e, uv H0.f, uv H0.g, uv H0.h] := by kernel_rfl
theorem kTab_eq : hTab.length = 8 ∧ kTab.length = 64 ∧ kTab.map (Value.int .u32) = TollSha.K.map uv := ⟨by kernel_rfl, by kernel_rfl, by kernel_rfl⟩
def laidList : List (String × DataW Unit) := Rows.signPublicsRow.laid
theorem of_laid {W : World} (h : laidMetH Tryd.prog laidList W) : Laid W ∧ LaidK W ∧ LaidH W ∧ 6 < W.heap.size := by
  unfold laidList at h
  rw [MakeChecks.laidMetH_plain _ _ _ (by kernel_rfl)] at h
  obtain ⟨ps, ⟨g0, t0, cs0, f0, p0, q0, hg0, ht0, hv0, hd0, ⟨g1, t1, cs1, f1, p1, q1, hg1, ht1, hv1, hd1, ⟨g2, t2, cs2, f2, p2, q2, hg2, ht2, hv2, hd2, ⟨g3, t3, cs3, f3, p3, q3, hg3, ht3, hv3, hd3, ⟨g4, t4, cs4, f4, p4, q4, hg4, ht4, hv4, hd4, ⟨g5, t5, cs5, f5, p5, q5, hg5, ht5, hv5, hd5, ⟨g6, t6, cs6, f6, p6, q6, hg6, ht6, hv6, hd6, _, _⟩, _⟩, _⟩, _⟩, _⟩, _⟩, _⟩, _⟩ := h
  obtain rfl := Option.some.inj (g_start.symm.trans hg0)
  obtain rfl := Option.some.inj (t_start.symm.trans ht0)
  obtain rfl := Option.some.inj (g_rounds.symm.trans hg1)
  obtain rfl := Option.some.inj (t_rounds.symm.trans ht1)
  obtain rfl := Option.some.inj (g_prime.symm.trans hg2)
  obtain rfl := Option.some.inj (t_prime.symm.trans ht2)
  obtain rfl := Option.some.inj (g_order.symm.trans hg3)
  obtain rfl := Option.some.inj (t_order.symm.trans ht3)
  obtain rfl := Option.some.inj (g_coeff.symm.trans hg4)
  obtain rfl := Option.some.inj (t_coeff.symm.trans ht4)
  obtain rfl := Option.some.inj (g_baseX.symm.trans hg5)
  obtain rfl := Option.some.inj (t_baseX.symm.trans ht5)
  obtain rfl := Option.some.inj (g_baseY.symm.trans hg6)
  obtain rfl := Option.some.inj (t_baseY.symm.trans ht6)
  have k1 : ∀ (j : Nat) (z : Int), kTab[j]? = some z → W.cell? ⟨6, j, none⟩ = some (.int .u32 z) := cell_tab Tryd.underlying109 cellsR g_rounds hv1 hd1
  have k0 : ∀ (j : Nat) (z : Int), hTab[j]? = some z → W.cell? ⟨5, j, none⟩ = some (.int .u32 z) := cell_tab Tryd.underlying101 cellsS g_start hv0 hd0
  have hK : LaidK W := fun i hi => by
    obtain ⟨z, e⟩ : ∃ z, kTab[i]? = some z := ⟨_, List.getElem?_eq_getElem (by rw [kTab_eq.2.1]; exact hi)⟩
    have := k1 i _ e
    rw [this]
    have e2 : (kTab.map (Value.int .u32))[i]? = some (.int .u32 z) := by rw [List.getElem?_map, e]; rfl
    rw [kTab_eq.2.2, List.getElem?_map] at e2
    cases hq : TollSha.K[i]? with
    | none => rw [hq] at e2; cases e2
    | some q =>
      rw [hq] at e2
      rw [List.getD_eq_getElem?_getD, hq]
      exact e2.symm
  refine ⟨⟨cell_tabc g_baseX hv5 hd5 l_baseX, cell_tabc g_baseY hv6 hd6 l_baseY, cell_tabc g_order hv3 hd3 l_order, cell_tabc g_prime hv2 hd2 l_prime, cell_tabc g_coeff hv4 hd4 l_coeff⟩, hK, fun j v hj => ?_, World.block_lt_of_cell? _ _ (hK 0 (by omega))⟩
  rw [← hTab_eq, List.getElem?_map] at hj
  cases hq : hTab[j]? with
  | none => rw [hq] at hj; cases hj
  | some z =>
    rw [hq] at hj
    obtain rfl : Value.int .u32 z = v := by simpa using hj
    exact k0 j z hq
end Go.Proofs.YtafbhakmkbehiaaDoor
end
