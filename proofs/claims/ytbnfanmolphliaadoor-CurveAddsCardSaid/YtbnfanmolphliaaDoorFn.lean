import Derived.Test.YtbnfanmolphliaaDoorFm
import Derived.Test.YtbnfanmolphliaaDoorVp
namespace Go.Proofs.YtbnfanmolphliaaDoor
open Go.RowKit Go.Toll TollMont
open TollEc (F pp cb Jp Pt jdouble jadd smul add base nn neg)
set_option maxHeartbeats 4000000
set_option maxRecDepth 100000
theorem cv16 {n : Nat} (hn : n < 65536) (w : World) : (convert 36 3 (.int .u16 (n : Nat))).run Tryd.prog w = .ok (.int .i64 (n : Nat)) w := by
  unfold convert
  go_simp
  rw [IntWalk.i64_in _ (by omega)]
theorem cv16u {n : Nat} (hn : n < 65536) (w : World) : (convert 36 28 (.int .u16 (n : Nat))).run Tryd.prog w = .ok (.int .u64 (n : Nat)) w := by
  unfold convert
  go_simp
  rw [IntWalk.u64_in _ (by omega)]
theorem built24_inf : Tryd.prog.built 24 [] = some #[.int .u8 (byt (xv .inf) 0 : Nat), .int .u8 (byt (xv .inf) 1 : Nat), .int .u8 (byt (xv .inf) 2 : Nat), .int .u8 (byt (xv .inf) 3 : Nat), .int .u8 (byt (xv .inf) 4 : Nat), .int .u8 (byt (xv .inf) 5 : Nat), .int .u8 (byt (xv .inf) 6 : Nat), .int .u8 (byt (xv .inf) 7 : Nat), .int .u8 (byt (xv .inf) 8 : Nat), .int .u8 (byt (xv .inf) 9 : Nat), .int .u8 (byt (xv .inf) 10 : Nat), .int .u8 (byt (xv .inf) 11 : Nat), .int .u8 (byt (xv .inf) 12 : Nat), .int .u8 (byt (xv .inf) 13 : Nat), .int .u8 (byt (xv .inf) 14 : Nat), .int .u8 (byt (xv .inf) 15 : Nat), .int .u8 (byt (xv .inf) 16 : Nat), .int .u8 (byt (xv .inf) 17 : Nat), .int .u8 (byt (xv .inf) 18 : Nat), .int .u8 (byt (xv .inf) 19 : Nat), .int .u8 (byt (xv .inf) 20 : Nat), .int .u8 (byt (xv .inf) 21 : Nat), .int .u8 (byt (xv .inf) 22 : Nat), .int .u8 (byt (xv .inf) 23 : Nat), .int .u8 (byt (xv .inf) 24 : Nat), .int .u8 (byt (xv .inf) 25 : Nat), .int .u8 (byt (xv .inf) 26 : Nat), .int .u8 (byt (xv .inf) 27 : Nat), .int .u8 (byt (xv .inf) 28 : Nat), .int .u8 (byt (xv .inf) 29 : Nat), .int .u8 (byt (xv .inf) 30 : Nat), .int .u8 (byt (xv .inf) 31 : Nat), .int .u8 (byt (yv .inf) 0 : Nat), .int .u8 (byt (yv .inf) 1 : Nat), .int .u8 (byt (yv .inf) 2 : Nat), .int .u8 (byt (yv .inf) 3 : Nat), .int .u8 (byt (yv .inf) 4 : Nat), .int .u8 (byt (yv .inf) 5 : Nat), .int .u8 (byt (yv .inf) 6 : Nat), .int .u8 (byt (yv .inf) 7 : Nat), .int .u8 (byt (yv .inf) 8 : Nat), .int .u8 (byt (yv .inf) 9 : Nat), .int .u8 (byt (yv .inf) 10 : Nat), .int .u8 (byt (yv .inf) 11 : Nat), .int .u8 (byt (yv .inf) 12 : Nat), .int .u8 (byt (yv .inf) 13 : Nat), .int .u8 (byt (yv .inf) 14 : Nat), .int .u8 (byt (yv .inf) 15 : Nat), .int .u8 (byt (yv .inf) 16 : Nat), .int .u8 (byt (yv .inf) 17 : Nat), .int .u8 (byt (yv .inf) 18 : Nat), .int .u8 (byt (yv .inf) 19 : Nat), .int .u8 (byt (yv .inf) 20 : Nat), .int .u8 (byt (yv .inf) 21 : Nat), .int .u8 (byt (yv .inf) 22 : Nat), .int .u8 (byt (yv .inf) 23 : Nat), .int .u8 (byt (yv .inf) 24 : Nat), .int .u8 (byt (yv .inf) 25 : Nat), .int .u8 (byt (yv .inf) 26 : Nat), .int .u8 (byt (yv .inf) 27 : Nat), .int .u8 (byt (yv .inf) 28 : Nat), .int .u8 (byt (yv .inf) 29 : Nat), .int .u8 (byt (yv .inf) 30 : Nat), .int .u8 (byt (yv .inf) 31 : Nat)] := by kernel_rfl
theorem rsub_small {n : Nat} (hn : n < W) (w : World) : Calls Tryd.prog 23 #[.agg #[.int .u64 0, .int .u64 0, .int .u64 0, .int .u64 0], .agg #[.int .u64 (n : Nat), .int .u64 0, .int .u64 0, .int .u64 0], N nn] w fun e w' => e = .returned (N (subm nn 0 n)) ∧ Gw w w' := by
  have := rsub0 mdn (show n < R from Nat.lt_trans hn (by decide)) w; rw [N_small hn] at this; exact this
theorem lt16 {n : Nat} (h : n < 65536) : n < R := Nat.lt_trans h (by decide)
theorem adds_0 {n m : Nat} {k : Int} {u r : Value} {p q0 s : Pt} (hn : n < 65536) (hm : m < 65536) (hu : ∀ w, (convert 3 28 (.int .i64 k)).run Tryd.prog w = .ok u w) (hr : ∀ a b w, (do eqGuard .rem 28 a b u (.int .u64 4); binOp .rem 28 u (.int .u64 4) : Sem Value).run Tryd.prog w = .ok r w) (hj : ∀ w, (convert 28 3 r).run Tryd.prog w = .ok (.int .i64 0) w) (w : World) (hL : Laid w) (op : p.on) (oq : Pt.on q0) (os : s.on) (hp : smul n base = p) (hq : smul m base = q0) (h1 : add p q0 = s) (h2 : add q0 p = s) : Calls Tryd.prog 4 #[.int .u16 (n : Nat), .int .u16 (m : Nat), .int .i64 k] w fun e w' => e = .returned (.bool true) ∧ Gw w w' := by
  go_enter Tryd.func4, Tryd.ntmps4
  refine ve_go ?_
  simp only [List.map_cons, List.map_nil]
  refine vseq ?_
  apply vrp
  · apply VE.cons
    · exact ev_assign rfl (gn rfl)
    simp only [nm3, seval]
    exact VE.nil _
  · kernel_rfl
  change VOk _ _ _ _ _
  refine vseq ?_
  apply vrp
  · apply VE.cons
    · exact ev_move rfl (gn rfl)
    simp only [nm3, seval]
    apply VE.cons
    · exact ev_conv rfl (gn rfl) rfl (fun w => cv16 hn w)
    simp only [nm3, seval]
    apply VE.cons
    · exact ev_call rfl (gn rfl) rfl (en_of Tryd.func21 (by kernel_rfl) rfl) (fun w' hw' => small_ok (Nat.lt_trans hn (by decide)) w')
    simp only [nm3, seval]
    apply VE.cons
    · exact ev_call rfl (gn rfl) rfl (en_of Tryd.func20 (by kernel_rfl) rfl) (fun w' hw' => ofP (lt16 hn) hp w' (hL.gw hw'))
    simp only [nm3, seval]
    apply VE.cons
    · exact ev_move rfl (gn rfl)
    simp only [nm3, seval]
    apply VE.cons
    · exact ev_conv rfl (gn rfl) rfl (fun w => cv16 hm w)
    simp only [nm3, seval]
    apply VE.cons
    · exact ev_call rfl (gn rfl) rfl (en_of Tryd.func21 (by kernel_rfl) rfl) (fun w' hw' => small_ok (Nat.lt_trans hm (by decide)) w')
    simp only [nm3, seval]
    apply VE.cons
    · exact ev_call rfl (gn rfl) rfl (en_of Tryd.func20 (by kernel_rfl) rfl) (fun w' hw' => ofP (lt16 hm) hq w' (hL.gw hw'))
    simp only [nm3, seval]
    apply VE.cons
    · exact ev_alloc rfl rfl (gn rfl) Tryd.zeroValue24
    simp only [nm3, seval]
    apply VE.cons
    · exact ev_alloc rfl rfl (gn rfl) Tryd.zeroValue24
    simp only [nm3, seval]
    apply VE.cons
    · exact ev_store rfl (gn rfl) rfl rfl rfl Tryd.sizeOf24 rfl (by simp) rfl
    simp only [nm3, seval]
    apply VE.cons
    · exact ev_store rfl (gn rfl) rfl rfl rfl Tryd.sizeOf24 rfl (by simp) rfl
    simp only [nm3, seval]
    exact VE.nil _
  · kernel_rfl
  change VOk _ _ _ _ _
  refine vseq ?_
  refine vseq ?_
  apply vrp
  · apply VE.cons
    · exact ev_move rfl (gn rfl)
    simp only [nm3, seval]
    apply VE.cons
    · exact ev_conv rfl (gn rfl) rfl (fun w => hu w)
    simp only [nm3, seval]
    apply VE.cons
    · exact ev_bin rfl (gn rfl) rfl rfl (fun w => hr _ _ w)
    simp only [nm3, seval]
    apply VE.cons
    · exact ev_conv rfl (gn rfl) rfl (fun w => hj w)
    simp only [nm3, seval]
    exact VE.nil _
  · kernel_rfl
  change VOk _ _ _ _ _
  refine vblock ?_
  refine vseq ?_
  apply vrp
  · apply VE.cons
    · exact ev_eql (p := false) rfl (gn rfl) rfl rfl (by decide)
    simp only [nm3, seval]
    apply VE.cons
    · exact ev_assign rfl (gn rfl)
    simp only [nm3, seval]
    exact VE.nil _
  · kernel_rfl
  change VOk _ _ _ _ _
  refine vcond_f rfl ?_
  refine vseq ?_
  apply vrp
  · apply VE.cons
    · exact ev_eql (p := false) rfl (gn rfl) rfl rfl (by decide)
    simp only [nm3, seval]
    apply VE.cons
    · exact ev_assign rfl (gn rfl)
    simp only [nm3, seval]
    exact VE.nil _
  · kernel_rfl
  change VOk _ _ _ _ _
  refine vcond_f rfl ?_
  refine vseq ?_
  apply vrp
  · apply VE.cons
    · exact ev_eql (p := false) rfl (gn rfl) rfl rfl (by decide)
    simp only [nm3, seval]
    apply VE.cons
    · exact ev_assign rfl (gn rfl)
    simp only [nm3, seval]
    exact VE.nil _
  · kernel_rfl
  change VOk _ _ _ _ _
  refine vcond_f rfl ?_
  refine vskip ?_
  change VOk _ _ _ _ _
  refine vseq ?_
  apply vrp
  · apply VE.cons
    · first | exact ev_load rfl (gn rfl) rfl rfl Tryd.underlying24 rfl Tryd.sizeOf24 rfl rfl | exact ev_loadx rfl (gn rfl) rfl Tryd.underlying24 rfl Tryd.sizeOf24 (by assumption) rfl
    simp only [nm3, seval]
    apply VE.cons
    · first | exact ev_load rfl (gn rfl) rfl rfl Tryd.underlying24 rfl Tryd.sizeOf24 rfl rfl | exact ev_loadx rfl (gn rfl) rfl Tryd.underlying24 rfl Tryd.sizeOf24 (by assumption) rfl
    simp only [nm3, seval]
    apply VE.cons
    · exact ev_call rfl (gn rfl) rfl (en_of Tryd.func24 (by kernel_rfl) rfl) (fun w' hw' => AddE h1 op oq w' (hL.gw hw'))
    simp only [nm3, seval]
    apply VE.cons
    · exact ev_alloc rfl rfl (gn rfl) Tryd.zeroValue24
    simp only [nm3, seval]
    apply VE.cons
    · exact ev_store rfl (gn rfl) rfl rfl rfl Tryd.sizeOf24 rfl (by simp) rfl
    simp only [nm3, seval]
    exact VE.nil _
  · kernel_rfl
  change VOk _ _ _ _ _
  refine vseq ?_
  apply vrd (by kernel_rfl)
  · apply VE.cons
    · first | exact ev_field rfl (gn rfl) rfl Tryd.underlying24 rfl Tryd.sizeOf22 | exact ev_fieldx rfl (gn rfl) rfl Tryd.underlying24 rfl Tryd.sizeOf22
    simp only [nm3, seval]
    apply VE.cons
    · first | exact ev_load rfl (gn rfl) rfl rfl Tryd.underlying22 rfl Tryd.sizeOf22 rfl rfl | exact ev_loadx rfl (gn rfl) rfl Tryd.underlying22 rfl Tryd.sizeOf22 (by assumption) rfl
    simp only [nm3, seval]
    apply VE.cons
    · exact ev_call rfl (gn rfl) rfl (en_of Tryd.func19 (by kernel_rfl) rfl) (fun w' hw' => rofN _ (xv_lt p) w')
    simp only [nm3, seval]
    apply VE.cons
    · first | exact ev_field rfl (gn rfl) rfl Tryd.underlying24 rfl Tryd.sizeOf22 | exact ev_fieldx rfl (gn rfl) rfl Tryd.underlying24 rfl Tryd.sizeOf22
    simp only [nm3, seval]
    apply VE.cons
    · first | exact ev_load rfl (gn rfl) rfl rfl Tryd.underlying22 rfl Tryd.sizeOf22 rfl rfl | exact ev_loadx rfl (gn rfl) rfl Tryd.underlying22 rfl Tryd.sizeOf22 (by assumption) rfl
    simp only [nm3, seval]
    apply VE.cons
    · exact ev_call rfl (gn rfl) rfl (en_of Tryd.func19 (by kernel_rfl) rfl) (fun w' hw' => rofN _ (yv_lt p) w')
    simp only [nm3, seval]
    apply VE.cons
    · first | exact ev_field rfl (gn rfl) rfl Tryd.underlying24 rfl Tryd.sizeOf22 | exact ev_fieldx rfl (gn rfl) rfl Tryd.underlying24 rfl Tryd.sizeOf22
    simp only [nm3, seval]
    apply VE.cons
    · first | exact ev_load rfl (gn rfl) rfl rfl Tryd.underlying22 rfl Tryd.sizeOf22 rfl rfl | exact ev_loadx rfl (gn rfl) rfl Tryd.underlying22 rfl Tryd.sizeOf22 (by assumption) rfl
    simp only [nm3, seval]
    apply VE.cons
    · exact ev_call rfl (gn rfl) rfl (en_of Tryd.func19 (by kernel_rfl) rfl) (fun w' hw' => rofN _ (xv_lt q0) w')
    simp only [nm3, seval]
    apply VE.cons
    · first | exact ev_field rfl (gn rfl) rfl Tryd.underlying24 rfl Tryd.sizeOf22 | exact ev_fieldx rfl (gn rfl) rfl Tryd.underlying24 rfl Tryd.sizeOf22
    simp only [nm3, seval]
    apply VE.cons
    · first | exact ev_load rfl (gn rfl) rfl rfl Tryd.underlying22 rfl Tryd.sizeOf22 rfl rfl | exact ev_loadx rfl (gn rfl) rfl Tryd.underlying22 rfl Tryd.sizeOf22 (by assumption) rfl
    simp only [nm3, seval]
    apply VE.cons
    · exact ev_call rfl (gn rfl) rfl (en_of Tryd.func19 (by kernel_rfl) rfl) (fun w' hw' => rofN _ (yv_lt q0) w')
    simp only [nm3, seval]
    apply VE.cons
    · exact ev_call rfl (gn rfl) rfl (en_of Tryd.func25 (by kernel_rfl) rfl) (fun w' hw' => radd_pt h1 op oq w')
    simp only [nm3, seval]
    apply VE.cons
    · exact ev_move rfl (gn rfl)
    simp only [nm3, seval]
    apply VE.cons
    · exact ev_extract rfl (gn rfl) rfl rfl
    simp only [nm3, seval]
    apply VE.cons
    · exact ev_extract rfl (gn rfl) rfl rfl
    simp only [nm3, seval]
    apply VE.cons
    · exact ev_alloc rfl rfl (gn rfl) Tryd.zeroValue29
    simp only [nm3, seval]
    apply VE.cons
    · exact ev_alloc rfl rfl (gn rfl) Tryd.zeroValue29
    simp only [nm3, seval]
    apply VE.cons
    · exact ev_store rfl (gn rfl) rfl rfl rfl Tryd.sizeOf29 rfl (by simp) rfl
    simp only [nm3, seval]
    apply VE.cons
    · exact ev_store rfl (gn rfl) rfl rfl rfl Tryd.sizeOf29 rfl (by simp) rfl
    simp only [nm3, seval]
    exact VE.nil _
  · kernel_rfl
  change VOk _ _ _ _ _
  refine vseq ?_
  apply vrd (by kernel_rfl)
  · apply VE.cons
    · exact ev_call (v := .bool true) rfl (gn rfl) rfl (en_of Tryd.func11 (by kernel_rfl) rfl) (fun w' hw' => curves_ok w' (hL.gw hw'))
    simp only [nm3, seval]
    apply VE.cons
    · exact ev_move rfl (gn rfl)
    simp only [nm3, seval]
    apply VE.cons
    · first | exact Ev.skip (fun _ => rfl) | exact ev_field rfl (fun _ => rfl) rfl Tryd.underlying24 rfl Tryd.sizeOf22 | exact ev_fieldx rfl (fun _ => rfl) rfl Tryd.underlying24 rfl Tryd.sizeOf22
    simp only [nm3, seval]
    apply VE.cons
    · first | exact Ev.skip (fun _ => rfl) | exact ev_load rfl (fun _ => rfl) rfl rfl Tryd.underlying22 rfl Tryd.sizeOf22 rfl rfl | exact ev_loadx rfl (fun _ => rfl) rfl Tryd.underlying22 rfl Tryd.sizeOf22 (by assumption) rfl
    simp only [nm3, seval]
    apply VE.cons
    · first | exact Ev.skip (fun _ => rfl) | exact ev_load rfl (fun _ => rfl) rfl rfl Tryd.underlying29 rfl Tryd.sizeOf29 rfl rfl | exact ev_loadx rfl (fun _ => rfl) rfl Tryd.underlying29 rfl Tryd.sizeOf29 (by assumption) rfl
    simp only [nm3, seval]
    apply VE.cons
    · first | exact Ev.skip (fun _ => rfl) | exact ev_call rfl (fun _ => rfl) rfl (en_of Tryd.func12 (by kernel_rfl) rfl) (fun w' hw' => rbytes_ok (xv s) w')
    simp only [nm3, seval]
    apply VE.cons
    · first | exact Ev.skip (fun _ => rfl) | exact ev_bin (c := .bool true) rfl (fun _ => rfl) rfl rfl (fun w => eqb_self (xv_lt s) _ _ w)
    simp only [nm3, seval]
    apply VE.cons
    · first | exact ev_pick_t rfl (gn rfl) rfl rfl | exact ev_pick_f rfl (gn rfl) rfl rfl
    simp only [nm3, seval]
    apply VE.cons
    · exact ev_move rfl (gn rfl)
    simp only [nm3, seval]
    apply VE.cons
    · first | exact Ev.skip (fun _ => rfl) | exact ev_field rfl (fun _ => rfl) rfl Tryd.underlying24 rfl Tryd.sizeOf22 | exact ev_fieldx rfl (fun _ => rfl) rfl Tryd.underlying24 rfl Tryd.sizeOf22
    simp only [nm3, seval]
    apply VE.cons
    · first | exact Ev.skip (fun _ => rfl) | exact ev_load rfl (fun _ => rfl) rfl rfl Tryd.underlying22 rfl Tryd.sizeOf22 rfl rfl | exact ev_loadx rfl (fun _ => rfl) rfl Tryd.underlying22 rfl Tryd.sizeOf22 (by assumption) rfl
    simp only [nm3, seval]
    apply VE.cons
    · first | exact Ev.skip (fun _ => rfl) | exact ev_load rfl (fun _ => rfl) rfl rfl Tryd.underlying29 rfl Tryd.sizeOf29 rfl rfl | exact ev_loadx rfl (fun _ => rfl) rfl Tryd.underlying29 rfl Tryd.sizeOf29 (by assumption) rfl
    simp only [nm3, seval]
    apply VE.cons
    · first | exact Ev.skip (fun _ => rfl) | exact ev_call rfl (fun _ => rfl) rfl (en_of Tryd.func12 (by kernel_rfl) rfl) (fun w' hw' => rbytes_ok (yv s) w')
    simp only [nm3, seval]
    apply VE.cons
    · first | exact Ev.skip (fun _ => rfl) | exact ev_bin (c := .bool true) rfl (fun _ => rfl) rfl rfl (fun w => eqb_self (yv_lt s) _ _ w)
    simp only [nm3, seval]
    apply VE.cons
    · first | exact ev_pick_t rfl (gn rfl) rfl rfl | exact ev_pick_f rfl (gn rfl) rfl rfl
    simp only [nm3, seval]
    apply VE.cons
    · exact ev_move rfl (gn rfl)
    simp only [nm3, seval]
    apply VE.cons
    · first | exact Ev.skip (fun _ => rfl) | exact ev_load rfl (fun _ => rfl) rfl rfl Tryd.underlying24 rfl Tryd.sizeOf24 rfl rfl | exact ev_loadx rfl (fun _ => rfl) rfl Tryd.underlying24 rfl Tryd.sizeOf24 (by assumption) rfl
    simp only [nm3, seval]
    apply VE.cons
    · first | exact Ev.skip (fun _ => rfl) | exact ev_load rfl (fun _ => rfl) rfl rfl Tryd.underlying24 rfl Tryd.sizeOf24 rfl rfl | exact ev_loadx rfl (fun _ => rfl) rfl Tryd.underlying24 rfl Tryd.sizeOf24 (by assumption) rfl
    simp only [nm3, seval]
    apply VE.cons
    · first | exact Ev.skip (fun _ => rfl) | exact ev_call rfl (fun _ => rfl) rfl (en_of Tryd.func24 (by kernel_rfl) rfl) (fun w' hw' => AddE h2 oq op w' (hL.gw hw'))
    simp only [nm3, seval]
    apply VE.cons
    · first | exact Ev.skip (fun _ => rfl) | exact ev_load rfl (fun _ => rfl) rfl rfl Tryd.underlying24 rfl Tryd.sizeOf24 rfl rfl | exact ev_loadx rfl (fun _ => rfl) rfl Tryd.underlying24 rfl Tryd.sizeOf24 (by assumption) rfl
    simp only [nm3, seval]
    apply VE.cons
    · first | exact Ev.skip (fun _ => rfl) | exact ev_bin (c := .bool true) rfl (fun _ => rfl) rfl rfl (fun w => eqP_self _ _ _ w)
    simp only [nm3, seval]
    apply VE.cons
    · first | exact ev_pick_t rfl (gn rfl) rfl rfl | exact ev_pick_f rfl (gn rfl) rfl rfl
    simp only [nm3, seval]
    apply VE.cons
    · exact ev_move rfl (gn rfl)
    simp only [nm3, seval]
    apply VE.cons
    · first | exact Ev.skip (fun _ => rfl) | exact ev_load rfl (fun _ => rfl) rfl rfl Tryd.underlying24 rfl Tryd.sizeOf24 rfl rfl | exact ev_loadx rfl (fun _ => rfl) rfl Tryd.underlying24 rfl Tryd.sizeOf24 (by assumption) rfl
    simp only [nm3, seval]
    apply VE.cons
    · first | exact Ev.skip (fun _ => rfl) | exact ev_call (v := .bool true) rfl (fun _ => rfl) rfl (en_of Tryd.func17 (by kernel_rfl) rfl) (fun w' hw' => On_PV os w' (hL.gw hw'))
    simp only [nm3, seval]
    apply VE.cons
    · first | exact ev_pick_t rfl (gn rfl) rfl rfl | exact ev_pick_f rfl (gn rfl) rfl rfl
    simp only [nm3, seval]
    apply VE.cons
    · exact ev_assign rfl (gn rfl)
    simp only [nm3, seval]
    exact VE.nil _
  · kernel_rfl
  change VOk _ _ _ _ _
  refine vret ?_
  refine post_ret (res1 Tryd.results4 (rv_tmp rfl)) ?_
  intro w' hg
  exact ⟨rfl, hg⟩
theorem adds_1 {n m : Nat} {k : Int} {u r : Value} {p q0 s : Pt} (hn : n < 65536) (hm : m < 65536) (hu : ∀ w, (convert 3 28 (.int .i64 k)).run Tryd.prog w = .ok u w) (hr : ∀ a b w, (do eqGuard .rem 28 a b u (.int .u64 4); binOp .rem 28 u (.int .u64 4) : Sem Value).run Tryd.prog w = .ok r w) (hj : ∀ w, (convert 28 3 r).run Tryd.prog w = .ok (.int .i64 1) w) (w : World) (hL : Laid w) (op : p.on) (oq : Pt.on p) (os : s.on) (hp : smul n base = p) (hq : smul m base = q0) (h1 : add p p = s) (h2 : add p p = s) : Calls Tryd.prog 4 #[.int .u16 (n : Nat), .int .u16 (m : Nat), .int .i64 k] w fun e w' => e = .returned (.bool true) ∧ Gw w w' := by
  go_enter Tryd.func4, Tryd.ntmps4
  refine ve_go ?_
  simp only [List.map_cons, List.map_nil]
  refine vseq ?_
  apply vrp
  · apply VE.cons
    · exact ev_assign rfl (gn rfl)
    simp only [nm3, seval]
    exact VE.nil _
  · kernel_rfl
  change VOk _ _ _ _ _
  refine vseq ?_
  apply vrp
  · apply VE.cons
    · exact ev_move rfl (gn rfl)
    simp only [nm3, seval]
    apply VE.cons
    · exact ev_conv rfl (gn rfl) rfl (fun w => cv16 hn w)
    simp only [nm3, seval]
    apply VE.cons
    · exact ev_call rfl (gn rfl) rfl (en_of Tryd.func21 (by kernel_rfl) rfl) (fun w' hw' => small_ok (Nat.lt_trans hn (by decide)) w')
    simp only [nm3, seval]
    apply VE.cons
    · exact ev_call rfl (gn rfl) rfl (en_of Tryd.func20 (by kernel_rfl) rfl) (fun w' hw' => ofP (lt16 hn) hp w' (hL.gw hw'))
    simp only [nm3, seval]
    apply VE.cons
    · exact ev_move rfl (gn rfl)
    simp only [nm3, seval]
    apply VE.cons
    · exact ev_conv rfl (gn rfl) rfl (fun w => cv16 hm w)
    simp only [nm3, seval]
    apply VE.cons
    · exact ev_call rfl (gn rfl) rfl (en_of Tryd.func21 (by kernel_rfl) rfl) (fun w' hw' => small_ok (Nat.lt_trans hm (by decide)) w')
    simp only [nm3, seval]
    apply VE.cons
    · exact ev_call rfl (gn rfl) rfl (en_of Tryd.func20 (by kernel_rfl) rfl) (fun w' hw' => ofP (lt16 hm) hq w' (hL.gw hw'))
    simp only [nm3, seval]
    apply VE.cons
    · exact ev_alloc rfl rfl (gn rfl) Tryd.zeroValue24
    simp only [nm3, seval]
    apply VE.cons
    · exact ev_alloc rfl rfl (gn rfl) Tryd.zeroValue24
    simp only [nm3, seval]
    apply VE.cons
    · exact ev_store rfl (gn rfl) rfl rfl rfl Tryd.sizeOf24 rfl (by simp) rfl
    simp only [nm3, seval]
    apply VE.cons
    · exact ev_store rfl (gn rfl) rfl rfl rfl Tryd.sizeOf24 rfl (by simp) rfl
    simp only [nm3, seval]
    exact VE.nil _
  · kernel_rfl
  change VOk _ _ _ _ _
  refine vseq ?_
  refine vseq ?_
  apply vrp
  · apply VE.cons
    · exact ev_move rfl (gn rfl)
    simp only [nm3, seval]
    apply VE.cons
    · exact ev_conv rfl (gn rfl) rfl (fun w => hu w)
    simp only [nm3, seval]
    apply VE.cons
    · exact ev_bin rfl (gn rfl) rfl rfl (fun w => hr _ _ w)
    simp only [nm3, seval]
    apply VE.cons
    · exact ev_conv rfl (gn rfl) rfl (fun w => hj w)
    simp only [nm3, seval]
    exact VE.nil _
  · kernel_rfl
  change VOk _ _ _ _ _
  refine vblock ?_
  refine vseq ?_
  apply vrp
  · apply VE.cons
    · exact ev_eql (p := true) rfl (gn rfl) rfl rfl (by decide)
    simp only [nm3, seval]
    apply VE.cons
    · exact ev_assign rfl (gn rfl)
    simp only [nm3, seval]
    exact VE.nil _
  · kernel_rfl
  change VOk _ _ _ _ _
  refine vcond_t rfl ?_
  apply vrp
  · apply VE.cons
    · first | exact ev_load rfl (gn rfl) rfl rfl Tryd.underlying24 rfl Tryd.sizeOf24 rfl rfl | exact ev_loadx rfl (gn rfl) rfl Tryd.underlying24 rfl Tryd.sizeOf24 (by assumption) rfl
    simp only [nm3, seval]
    apply VE.cons
    · exact ev_store rfl (gn rfl) rfl rfl rfl Tryd.sizeOf24 rfl (by simp) rfl
    simp only [nm3, seval]
    exact VE.nil _
  · kernel_rfl
  change VOk _ _ _ _ _
  refine vseq ?_
  apply vrp
  · apply VE.cons
    · first | exact ev_load rfl (gn rfl) rfl rfl Tryd.underlying24 rfl Tryd.sizeOf24 rfl rfl | exact ev_loadx rfl (gn rfl) rfl Tryd.underlying24 rfl Tryd.sizeOf24 (by assumption) rfl
    simp only [nm3, seval]
    apply VE.cons
    · first | exact ev_load rfl (gn rfl) rfl rfl Tryd.underlying24 rfl Tryd.sizeOf24 rfl rfl | exact ev_loadx rfl (gn rfl) rfl Tryd.underlying24 rfl Tryd.sizeOf24 (by assumption) rfl
    simp only [nm3, seval]
    apply VE.cons
    · exact ev_call rfl (gn rfl) rfl (en_of Tryd.func24 (by kernel_rfl) rfl) (fun w' hw' => AddE h1 op oq w' (hL.gw hw'))
    simp only [nm3, seval]
    apply VE.cons
    · exact ev_alloc rfl rfl (gn rfl) Tryd.zeroValue24
    simp only [nm3, seval]
    apply VE.cons
    · exact ev_store rfl (gn rfl) rfl rfl rfl Tryd.sizeOf24 rfl (by simp) rfl
    simp only [nm3, seval]
    exact VE.nil _
  · kernel_rfl
  change VOk _ _ _ _ _
  refine vseq ?_
  apply vrd (by kernel_rfl)
  · apply VE.cons
    · first | exact ev_field rfl (gn rfl) rfl Tryd.underlying24 rfl Tryd.sizeOf22 | exact ev_fieldx rfl (gn rfl) rfl Tryd.underlying24 rfl Tryd.sizeOf22
    simp only [nm3, seval]
    apply VE.cons
    · first | exact ev_load rfl (gn rfl) rfl rfl Tryd.underlying22 rfl Tryd.sizeOf22 rfl rfl | exact ev_loadx rfl (gn rfl) rfl Tryd.underlying22 rfl Tryd.sizeOf22 (by assumption) rfl
    simp only [nm3, seval]
    apply VE.cons
    · exact ev_call rfl (gn rfl) rfl (en_of Tryd.func19 (by kernel_rfl) rfl) (fun w' hw' => rofN _ (xv_lt p) w')
    simp only [nm3, seval]
    apply VE.cons
    · first | exact ev_field rfl (gn rfl) rfl Tryd.underlying24 rfl Tryd.sizeOf22 | exact ev_fieldx rfl (gn rfl) rfl Tryd.underlying24 rfl Tryd.sizeOf22
    simp only [nm3, seval]
    apply VE.cons
    · first | exact ev_load rfl (gn rfl) rfl rfl Tryd.underlying22 rfl Tryd.sizeOf22 rfl rfl | exact ev_loadx rfl (gn rfl) rfl Tryd.underlying22 rfl Tryd.sizeOf22 (by assumption) rfl
    simp only [nm3, seval]
    apply VE.cons
    · exact ev_call rfl (gn rfl) rfl (en_of Tryd.func19 (by kernel_rfl) rfl) (fun w' hw' => rofN _ (yv_lt p) w')
    simp only [nm3, seval]
    apply VE.cons
    · first | exact ev_field rfl (gn rfl) rfl Tryd.underlying24 rfl Tryd.sizeOf22 | exact ev_fieldx rfl (gn rfl) rfl Tryd.underlying24 rfl Tryd.sizeOf22
    simp only [nm3, seval]
    apply VE.cons
    · first | exact ev_load rfl (gn rfl) rfl rfl Tryd.underlying22 rfl Tryd.sizeOf22 rfl rfl | exact ev_loadx rfl (gn rfl) rfl Tryd.underlying22 rfl Tryd.sizeOf22 (by assumption) rfl
    simp only [nm3, seval]
    apply VE.cons
    · exact ev_call rfl (gn rfl) rfl (en_of Tryd.func19 (by kernel_rfl) rfl) (fun w' hw' => rofN _ (xv_lt p) w')
    simp only [nm3, seval]
    apply VE.cons
    · first | exact ev_field rfl (gn rfl) rfl Tryd.underlying24 rfl Tryd.sizeOf22 | exact ev_fieldx rfl (gn rfl) rfl Tryd.underlying24 rfl Tryd.sizeOf22
    simp only [nm3, seval]
    apply VE.cons
    · first | exact ev_load rfl (gn rfl) rfl rfl Tryd.underlying22 rfl Tryd.sizeOf22 rfl rfl | exact ev_loadx rfl (gn rfl) rfl Tryd.underlying22 rfl Tryd.sizeOf22 (by assumption) rfl
    simp only [nm3, seval]
    apply VE.cons
    · exact ev_call rfl (gn rfl) rfl (en_of Tryd.func19 (by kernel_rfl) rfl) (fun w' hw' => rofN _ (yv_lt p) w')
    simp only [nm3, seval]
    apply VE.cons
    · exact ev_call rfl (gn rfl) rfl (en_of Tryd.func25 (by kernel_rfl) rfl) (fun w' hw' => radd_pt h1 op oq w')
    simp only [nm3, seval]
    apply VE.cons
    · exact ev_move rfl (gn rfl)
    simp only [nm3, seval]
    apply VE.cons
    · exact ev_extract rfl (gn rfl) rfl rfl
    simp only [nm3, seval]
    apply VE.cons
    · exact ev_extract rfl (gn rfl) rfl rfl
    simp only [nm3, seval]
    apply VE.cons
    · exact ev_alloc rfl rfl (gn rfl) Tryd.zeroValue29
    simp only [nm3, seval]
    apply VE.cons
    · exact ev_alloc rfl rfl (gn rfl) Tryd.zeroValue29
    simp only [nm3, seval]
    apply VE.cons
    · exact ev_store rfl (gn rfl) rfl rfl rfl Tryd.sizeOf29 rfl (by simp) rfl
    simp only [nm3, seval]
    apply VE.cons
    · exact ev_store rfl (gn rfl) rfl rfl rfl Tryd.sizeOf29 rfl (by simp) rfl
    simp only [nm3, seval]
    exact VE.nil _
  · kernel_rfl
  change VOk _ _ _ _ _
  refine vseq ?_
  apply vrd (by kernel_rfl)
  · apply VE.cons
    · exact ev_call (v := .bool true) rfl (gn rfl) rfl (en_of Tryd.func11 (by kernel_rfl) rfl) (fun w' hw' => curves_ok w' (hL.gw hw'))
    simp only [nm3, seval]
    apply VE.cons
    · exact ev_move rfl (gn rfl)
    simp only [nm3, seval]
    apply VE.cons
    · first | exact Ev.skip (fun _ => rfl) | exact ev_field rfl (fun _ => rfl) rfl Tryd.underlying24 rfl Tryd.sizeOf22 | exact ev_fieldx rfl (fun _ => rfl) rfl Tryd.underlying24 rfl Tryd.sizeOf22
    simp only [nm3, seval]
    apply VE.cons
    · first | exact Ev.skip (fun _ => rfl) | exact ev_load rfl (fun _ => rfl) rfl rfl Tryd.underlying22 rfl Tryd.sizeOf22 rfl rfl | exact ev_loadx rfl (fun _ => rfl) rfl Tryd.underlying22 rfl Tryd.sizeOf22 (by assumption) rfl
    simp only [nm3, seval]
    apply VE.cons
    · first | exact Ev.skip (fun _ => rfl) | exact ev_load rfl (fun _ => rfl) rfl rfl Tryd.underlying29 rfl Tryd.sizeOf29 rfl rfl | exact ev_loadx rfl (fun _ => rfl) rfl Tryd.underlying29 rfl Tryd.sizeOf29 (by assumption) rfl
    simp only [nm3, seval]
    apply VE.cons
    · first | exact Ev.skip (fun _ => rfl) | exact ev_call rfl (fun _ => rfl) rfl (en_of Tryd.func12 (by kernel_rfl) rfl) (fun w' hw' => rbytes_ok (xv s) w')
    simp only [nm3, seval]
    apply VE.cons
    · first | exact Ev.skip (fun _ => rfl) | exact ev_bin (c := .bool true) rfl (fun _ => rfl) rfl rfl (fun w => eqb_self (xv_lt s) _ _ w)
    simp only [nm3, seval]
    apply VE.cons
    · first | exact ev_pick_t rfl (gn rfl) rfl rfl | exact ev_pick_f rfl (gn rfl) rfl rfl
    simp only [nm3, seval]
    apply VE.cons
    · exact ev_move rfl (gn rfl)
    simp only [nm3, seval]
    apply VE.cons
    · first | exact Ev.skip (fun _ => rfl) | exact ev_field rfl (fun _ => rfl) rfl Tryd.underlying24 rfl Tryd.sizeOf22 | exact ev_fieldx rfl (fun _ => rfl) rfl Tryd.underlying24 rfl Tryd.sizeOf22
    simp only [nm3, seval]
    apply VE.cons
    · first | exact Ev.skip (fun _ => rfl) | exact ev_load rfl (fun _ => rfl) rfl rfl Tryd.underlying22 rfl Tryd.sizeOf22 rfl rfl | exact ev_loadx rfl (fun _ => rfl) rfl Tryd.underlying22 rfl Tryd.sizeOf22 (by assumption) rfl
    simp only [nm3, seval]
    apply VE.cons
    · first | exact Ev.skip (fun _ => rfl) | exact ev_load rfl (fun _ => rfl) rfl rfl Tryd.underlying29 rfl Tryd.sizeOf29 rfl rfl | exact ev_loadx rfl (fun _ => rfl) rfl Tryd.underlying29 rfl Tryd.sizeOf29 (by assumption) rfl
    simp only [nm3, seval]
    apply VE.cons
    · first | exact Ev.skip (fun _ => rfl) | exact ev_call rfl (fun _ => rfl) rfl (en_of Tryd.func12 (by kernel_rfl) rfl) (fun w' hw' => rbytes_ok (yv s) w')
    simp only [nm3, seval]
    apply VE.cons
    · first | exact Ev.skip (fun _ => rfl) | exact ev_bin (c := .bool true) rfl (fun _ => rfl) rfl rfl (fun w => eqb_self (yv_lt s) _ _ w)
    simp only [nm3, seval]
    apply VE.cons
    · first | exact ev_pick_t rfl (gn rfl) rfl rfl | exact ev_pick_f rfl (gn rfl) rfl rfl
    simp only [nm3, seval]
    apply VE.cons
    · exact ev_move rfl (gn rfl)
    simp only [nm3, seval]
    apply VE.cons
    · first | exact Ev.skip (fun _ => rfl) | exact ev_load rfl (fun _ => rfl) rfl rfl Tryd.underlying24 rfl Tryd.sizeOf24 rfl rfl | exact ev_loadx rfl (fun _ => rfl) rfl Tryd.underlying24 rfl Tryd.sizeOf24 (by assumption) rfl
    simp only [nm3, seval]
    apply VE.cons
    · first | exact Ev.skip (fun _ => rfl) | exact ev_load rfl (fun _ => rfl) rfl rfl Tryd.underlying24 rfl Tryd.sizeOf24 rfl rfl | exact ev_loadx rfl (fun _ => rfl) rfl Tryd.underlying24 rfl Tryd.sizeOf24 (by assumption) rfl
    simp only [nm3, seval]
    apply VE.cons
    · first | exact Ev.skip (fun _ => rfl) | exact ev_call rfl (fun _ => rfl) rfl (en_of Tryd.func24 (by kernel_rfl) rfl) (fun w' hw' => AddE h2 oq op w' (hL.gw hw'))
    simp only [nm3, seval]
    apply VE.cons
    · first | exact Ev.skip (fun _ => rfl) | exact ev_load rfl (fun _ => rfl) rfl rfl Tryd.underlying24 rfl Tryd.sizeOf24 rfl rfl | exact ev_loadx rfl (fun _ => rfl) rfl Tryd.underlying24 rfl Tryd.sizeOf24 (by assumption) rfl
    simp only [nm3, seval]
    apply VE.cons
    · first | exact Ev.skip (fun _ => rfl) | exact ev_bin (c := .bool true) rfl (fun _ => rfl) rfl rfl (fun w => eqP_self _ _ _ w)
    simp only [nm3, seval]
    apply VE.cons
    · first | exact ev_pick_t rfl (gn rfl) rfl rfl | exact ev_pick_f rfl (gn rfl) rfl rfl
    simp only [nm3, seval]
    apply VE.cons
    · exact ev_move rfl (gn rfl)
    simp only [nm3, seval]
    apply VE.cons
    · first | exact Ev.skip (fun _ => rfl) | exact ev_load rfl (fun _ => rfl) rfl rfl Tryd.underlying24 rfl Tryd.sizeOf24 rfl rfl | exact ev_loadx rfl (fun _ => rfl) rfl Tryd.underlying24 rfl Tryd.sizeOf24 (by assumption) rfl
    simp only [nm3, seval]
    apply VE.cons
    · first | exact Ev.skip (fun _ => rfl) | exact ev_call (v := .bool true) rfl (fun _ => rfl) rfl (en_of Tryd.func17 (by kernel_rfl) rfl) (fun w' hw' => On_PV os w' (hL.gw hw'))
    simp only [nm3, seval]
    apply VE.cons
    · first | exact ev_pick_t rfl (gn rfl) rfl rfl | exact ev_pick_f rfl (gn rfl) rfl rfl
    simp only [nm3, seval]
    apply VE.cons
    · exact ev_assign rfl (gn rfl)
    simp only [nm3, seval]
    exact VE.nil _
  · kernel_rfl
  change VOk _ _ _ _ _
  refine vret ?_
  refine post_ret (res1 Tryd.results4 (rv_tmp rfl)) ?_
  intro w' hg
  exact ⟨rfl, hg⟩
theorem adds_2 {n m : Nat} {k : Int} {u r : Value} {p q0 q s : Pt} (hn : n < 65536) (hm : m < 65536) (hu : ∀ w, (convert 3 28 (.int .i64 k)).run Tryd.prog w = .ok u w) (hr : ∀ a b w, (do eqGuard .rem 28 a b u (.int .u64 4); binOp .rem 28 u (.int .u64 4) : Sem Value).run Tryd.prog w = .ok r w) (hj : ∀ w, (convert 28 3 r).run Tryd.prog w = .ok (.int .i64 2) w) (w : World) (hL : Laid w) (op : p.on) (oq : Pt.on q) (os : s.on) (hp : smul n base = p) (hq : smul m base = q0) (h1 : add p q = s) (h2 : add q p = s) (hk : subm nn 0 n < R) (hkq : smul (subm nn 0 n) base = q) : Calls Tryd.prog 4 #[.int .u16 (n : Nat), .int .u16 (m : Nat), .int .i64 k] w fun e w' => e = .returned (.bool true) ∧ Gw w w' := by
  go_enter Tryd.func4, Tryd.ntmps4
  refine ve_go ?_
  simp only [List.map_cons, List.map_nil]
  refine vseq ?_
  apply vrp
  · apply VE.cons
    · exact ev_assign rfl (gn rfl)
    simp only [nm3, seval]
    exact VE.nil _
  · kernel_rfl
  change VOk _ _ _ _ _
  refine vseq ?_
  apply vrp
  · apply VE.cons
    · exact ev_move rfl (gn rfl)
    simp only [nm3, seval]
    apply VE.cons
    · exact ev_conv rfl (gn rfl) rfl (fun w => cv16 hn w)
    simp only [nm3, seval]
    apply VE.cons
    · exact ev_call rfl (gn rfl) rfl (en_of Tryd.func21 (by kernel_rfl) rfl) (fun w' hw' => small_ok (Nat.lt_trans hn (by decide)) w')
    simp only [nm3, seval]
    apply VE.cons
    · exact ev_call rfl (gn rfl) rfl (en_of Tryd.func20 (by kernel_rfl) rfl) (fun w' hw' => ofP (lt16 hn) hp w' (hL.gw hw'))
    simp only [nm3, seval]
    apply VE.cons
    · exact ev_move rfl (gn rfl)
    simp only [nm3, seval]
    apply VE.cons
    · exact ev_conv rfl (gn rfl) rfl (fun w => cv16 hm w)
    simp only [nm3, seval]
    apply VE.cons
    · exact ev_call rfl (gn rfl) rfl (en_of Tryd.func21 (by kernel_rfl) rfl) (fun w' hw' => small_ok (Nat.lt_trans hm (by decide)) w')
    simp only [nm3, seval]
    apply VE.cons
    · exact ev_call rfl (gn rfl) rfl (en_of Tryd.func20 (by kernel_rfl) rfl) (fun w' hw' => ofP (lt16 hm) hq w' (hL.gw hw'))
    simp only [nm3, seval]
    apply VE.cons
    · exact ev_alloc rfl rfl (gn rfl) Tryd.zeroValue24
    simp only [nm3, seval]
    apply VE.cons
    · exact ev_alloc rfl rfl (gn rfl) Tryd.zeroValue24
    simp only [nm3, seval]
    apply VE.cons
    · exact ev_store rfl (gn rfl) rfl rfl rfl Tryd.sizeOf24 rfl (by simp) rfl
    simp only [nm3, seval]
    apply VE.cons
    · exact ev_store rfl (gn rfl) rfl rfl rfl Tryd.sizeOf24 rfl (by simp) rfl
    simp only [nm3, seval]
    exact VE.nil _
  · kernel_rfl
  change VOk _ _ _ _ _
  refine vseq ?_
  refine vseq ?_
  apply vrp
  · apply VE.cons
    · exact ev_move rfl (gn rfl)
    simp only [nm3, seval]
    apply VE.cons
    · exact ev_conv rfl (gn rfl) rfl (fun w => hu w)
    simp only [nm3, seval]
    apply VE.cons
    · exact ev_bin rfl (gn rfl) rfl rfl (fun w => hr _ _ w)
    simp only [nm3, seval]
    apply VE.cons
    · exact ev_conv rfl (gn rfl) rfl (fun w => hj w)
    simp only [nm3, seval]
    exact VE.nil _
  · kernel_rfl
  change VOk _ _ _ _ _
  refine vblock ?_
  refine vseq ?_
  apply vrp
  · apply VE.cons
    · exact ev_eql (p := false) rfl (gn rfl) rfl rfl (by decide)
    simp only [nm3, seval]
    apply VE.cons
    · exact ev_assign rfl (gn rfl)
    simp only [nm3, seval]
    exact VE.nil _
  · kernel_rfl
  change VOk _ _ _ _ _
  refine vcond_f rfl ?_
  refine vseq ?_
  apply vrp
  · apply VE.cons
    · exact ev_eql (p := true) rfl (gn rfl) rfl rfl (by decide)
    simp only [nm3, seval]
    apply VE.cons
    · exact ev_assign rfl (gn rfl)
    simp only [nm3, seval]
    exact VE.nil _
  · kernel_rfl
  change VOk _ _ _ _ _
  refine vcond_t rfl ?_
  apply vrp
  · apply VE.cons
    · exact ev_build rfl (gn rfl) rfl built29_0
    simp only [nm3, seval]
    apply VE.cons
    · exact ev_move rfl (gn rfl)
    simp only [nm3, seval]
    apply VE.cons
    · exact ev_conv rfl (gn rfl) rfl (fun w => cv16u hn w)
    simp only [nm3, seval]
    apply VE.cons
    · exact ev_build rfl (gn rfl) rfl (built29_1 _)
    simp only [nm3, seval]
    apply VE.cons
    · exact ev_call rfl (gn rfl) rfl (en_of Tryd.func16 (by kernel_rfl) rfl) (fun w' hw' => c_N w')
    simp only [nm3, seval]
    apply VE.cons
    · exact ev_call rfl (gn rfl) rfl (en_of Tryd.func23 (by kernel_rfl) rfl) (fun w' hw' => rsub_small (Nat.lt_trans hn (by decide)) w')
    simp only [nm3, seval]
    apply VE.cons
    · exact ev_call rfl (gn rfl) rfl (en_of Tryd.func12 (by kernel_rfl) rfl) (fun w' hw' => rbytes_ok (subm nn 0 n) w')
    simp only [nm3, seval]
    apply VE.cons
    · exact ev_call rfl (gn rfl) rfl (en_of Tryd.func10 (by kernel_rfl) rfl) (fun w' hw' => baseP w' (hL.gw hw'))
    simp only [nm3, seval]
    apply VE.cons
    · exact ev_call rfl (gn rfl) rfl (en_of Tryd.func22 (by kernel_rfl) rfl) (fun w' hw' => TimesE hk hkq TollEc.base_on w' (hL.gw hw'))
    simp only [nm3, seval]
    apply VE.cons
    · exact ev_store rfl (gn rfl) rfl rfl rfl Tryd.sizeOf24 rfl (by simp) rfl
    simp only [nm3, seval]
    exact VE.nil _
  · kernel_rfl
  change VOk _ _ _ _ _
  refine vseq ?_
  apply vrp
  · apply VE.cons
    · first | exact ev_load rfl (gn rfl) rfl rfl Tryd.underlying24 rfl Tryd.sizeOf24 rfl rfl | exact ev_loadx rfl (gn rfl) rfl Tryd.underlying24 rfl Tryd.sizeOf24 (by assumption) rfl
    simp only [nm3, seval]
    apply VE.cons
    · first | exact ev_load rfl (gn rfl) rfl rfl Tryd.underlying24 rfl Tryd.sizeOf24 rfl rfl | exact ev_loadx rfl (gn rfl) rfl Tryd.underlying24 rfl Tryd.sizeOf24 (by assumption) rfl
    simp only [nm3, seval]
    apply VE.cons
    · exact ev_call rfl (gn rfl) rfl (en_of Tryd.func24 (by kernel_rfl) rfl) (fun w' hw' => AddE h1 op oq w' (hL.gw hw'))
    simp only [nm3, seval]
    apply VE.cons
    · exact ev_alloc rfl rfl (gn rfl) Tryd.zeroValue24
    simp only [nm3, seval]
    apply VE.cons
    · exact ev_store rfl (gn rfl) rfl rfl rfl Tryd.sizeOf24 rfl (by simp) rfl
    simp only [nm3, seval]
    exact VE.nil _
  · kernel_rfl
  change VOk _ _ _ _ _
  refine vseq ?_
  apply vrd (by kernel_rfl)
  · apply VE.cons
    · first | exact ev_field rfl (gn rfl) rfl Tryd.underlying24 rfl Tryd.sizeOf22 | exact ev_fieldx rfl (gn rfl) rfl Tryd.underlying24 rfl Tryd.sizeOf22
    simp only [nm3, seval]
    apply VE.cons
    · first | exact ev_load rfl (gn rfl) rfl rfl Tryd.underlying22 rfl Tryd.sizeOf22 rfl rfl | exact ev_loadx rfl (gn rfl) rfl Tryd.underlying22 rfl Tryd.sizeOf22 (by assumption) rfl
    simp only [nm3, seval]
    apply VE.cons
    · exact ev_call rfl (gn rfl) rfl (en_of Tryd.func19 (by kernel_rfl) rfl) (fun w' hw' => rofN _ (xv_lt p) w')
    simp only [nm3, seval]
    apply VE.cons
    · first | exact ev_field rfl (gn rfl) rfl Tryd.underlying24 rfl Tryd.sizeOf22 | exact ev_fieldx rfl (gn rfl) rfl Tryd.underlying24 rfl Tryd.sizeOf22
    simp only [nm3, seval]
    apply VE.cons
    · first | exact ev_load rfl (gn rfl) rfl rfl Tryd.underlying22 rfl Tryd.sizeOf22 rfl rfl | exact ev_loadx rfl (gn rfl) rfl Tryd.underlying22 rfl Tryd.sizeOf22 (by assumption) rfl
    simp only [nm3, seval]
    apply VE.cons
    · exact ev_call rfl (gn rfl) rfl (en_of Tryd.func19 (by kernel_rfl) rfl) (fun w' hw' => rofN _ (yv_lt p) w')
    simp only [nm3, seval]
    apply VE.cons
    · first | exact ev_field rfl (gn rfl) rfl Tryd.underlying24 rfl Tryd.sizeOf22 | exact ev_fieldx rfl (gn rfl) rfl Tryd.underlying24 rfl Tryd.sizeOf22
    simp only [nm3, seval]
    apply VE.cons
    · first | exact ev_load rfl (gn rfl) rfl rfl Tryd.underlying22 rfl Tryd.sizeOf22 rfl rfl | exact ev_loadx rfl (gn rfl) rfl Tryd.underlying22 rfl Tryd.sizeOf22 (by assumption) rfl
    simp only [nm3, seval]
    apply VE.cons
    · exact ev_call rfl (gn rfl) rfl (en_of Tryd.func19 (by kernel_rfl) rfl) (fun w' hw' => rofN _ (xv_lt q) w')
    simp only [nm3, seval]
    apply VE.cons
    · first | exact ev_field rfl (gn rfl) rfl Tryd.underlying24 rfl Tryd.sizeOf22 | exact ev_fieldx rfl (gn rfl) rfl Tryd.underlying24 rfl Tryd.sizeOf22
    simp only [nm3, seval]
    apply VE.cons
    · first | exact ev_load rfl (gn rfl) rfl rfl Tryd.underlying22 rfl Tryd.sizeOf22 rfl rfl | exact ev_loadx rfl (gn rfl) rfl Tryd.underlying22 rfl Tryd.sizeOf22 (by assumption) rfl
    simp only [nm3, seval]
    apply VE.cons
    · exact ev_call rfl (gn rfl) rfl (en_of Tryd.func19 (by kernel_rfl) rfl) (fun w' hw' => rofN _ (yv_lt q) w')
    simp only [nm3, seval]
    apply VE.cons
    · exact ev_call rfl (gn rfl) rfl (en_of Tryd.func25 (by kernel_rfl) rfl) (fun w' hw' => radd_pt h1 op oq w')
    simp only [nm3, seval]
    apply VE.cons
    · exact ev_move rfl (gn rfl)
    simp only [nm3, seval]
    apply VE.cons
    · exact ev_extract rfl (gn rfl) rfl rfl
    simp only [nm3, seval]
    apply VE.cons
    · exact ev_extract rfl (gn rfl) rfl rfl
    simp only [nm3, seval]
    apply VE.cons
    · exact ev_alloc rfl rfl (gn rfl) Tryd.zeroValue29
    simp only [nm3, seval]
    apply VE.cons
    · exact ev_alloc rfl rfl (gn rfl) Tryd.zeroValue29
    simp only [nm3, seval]
    apply VE.cons
    · exact ev_store rfl (gn rfl) rfl rfl rfl Tryd.sizeOf29 rfl (by simp) rfl
    simp only [nm3, seval]
    apply VE.cons
    · exact ev_store rfl (gn rfl) rfl rfl rfl Tryd.sizeOf29 rfl (by simp) rfl
    simp only [nm3, seval]
    exact VE.nil _
  · kernel_rfl
  change VOk _ _ _ _ _
  refine vseq ?_
  apply vrd (by kernel_rfl)
  · apply VE.cons
    · exact ev_call (v := .bool true) rfl (gn rfl) rfl (en_of Tryd.func11 (by kernel_rfl) rfl) (fun w' hw' => curves_ok w' (hL.gw hw'))
    simp only [nm3, seval]
    apply VE.cons
    · exact ev_move rfl (gn rfl)
    simp only [nm3, seval]
    apply VE.cons
    · first | exact Ev.skip (fun _ => rfl) | exact ev_field rfl (fun _ => rfl) rfl Tryd.underlying24 rfl Tryd.sizeOf22 | exact ev_fieldx rfl (fun _ => rfl) rfl Tryd.underlying24 rfl Tryd.sizeOf22
    simp only [nm3, seval]
    apply VE.cons
    · first | exact Ev.skip (fun _ => rfl) | exact ev_load rfl (fun _ => rfl) rfl rfl Tryd.underlying22 rfl Tryd.sizeOf22 rfl rfl | exact ev_loadx rfl (fun _ => rfl) rfl Tryd.underlying22 rfl Tryd.sizeOf22 (by assumption) rfl
    simp only [nm3, seval]
    apply VE.cons
    · first | exact Ev.skip (fun _ => rfl) | exact ev_load rfl (fun _ => rfl) rfl rfl Tryd.underlying29 rfl Tryd.sizeOf29 rfl rfl | exact ev_loadx rfl (fun _ => rfl) rfl Tryd.underlying29 rfl Tryd.sizeOf29 (by assumption) rfl
    simp only [nm3, seval]
    apply VE.cons
    · first | exact Ev.skip (fun _ => rfl) | exact ev_call rfl (fun _ => rfl) rfl (en_of Tryd.func12 (by kernel_rfl) rfl) (fun w' hw' => rbytes_ok (xv s) w')
    simp only [nm3, seval]
    apply VE.cons
    · first | exact Ev.skip (fun _ => rfl) | exact ev_bin (c := .bool true) rfl (fun _ => rfl) rfl rfl (fun w => eqb_self (xv_lt s) _ _ w)
    simp only [nm3, seval]
    apply VE.cons
    · first | exact ev_pick_t rfl (gn rfl) rfl rfl | exact ev_pick_f rfl (gn rfl) rfl rfl
    simp only [nm3, seval]
    apply VE.cons
    · exact ev_move rfl (gn rfl)
    simp only [nm3, seval]
    apply VE.cons
    · first | exact Ev.skip (fun _ => rfl) | exact ev_field rfl (fun _ => rfl) rfl Tryd.underlying24 rfl Tryd.sizeOf22 | exact ev_fieldx rfl (fun _ => rfl) rfl Tryd.underlying24 rfl Tryd.sizeOf22
    simp only [nm3, seval]
    apply VE.cons
    · first | exact Ev.skip (fun _ => rfl) | exact ev_load rfl (fun _ => rfl) rfl rfl Tryd.underlying22 rfl Tryd.sizeOf22 rfl rfl | exact ev_loadx rfl (fun _ => rfl) rfl Tryd.underlying22 rfl Tryd.sizeOf22 (by assumption) rfl
    simp only [nm3, seval]
    apply VE.cons
    · first | exact Ev.skip (fun _ => rfl) | exact ev_load rfl (fun _ => rfl) rfl rfl Tryd.underlying29 rfl Tryd.sizeOf29 rfl rfl | exact ev_loadx rfl (fun _ => rfl) rfl Tryd.underlying29 rfl Tryd.sizeOf29 (by assumption) rfl
    simp only [nm3, seval]
    apply VE.cons
    · first | exact Ev.skip (fun _ => rfl) | exact ev_call rfl (fun _ => rfl) rfl (en_of Tryd.func12 (by kernel_rfl) rfl) (fun w' hw' => rbytes_ok (yv s) w')
    simp only [nm3, seval]
    apply VE.cons
    · first | exact Ev.skip (fun _ => rfl) | exact ev_bin (c := .bool true) rfl (fun _ => rfl) rfl rfl (fun w => eqb_self (yv_lt s) _ _ w)
    simp only [nm3, seval]
    apply VE.cons
    · first | exact ev_pick_t rfl (gn rfl) rfl rfl | exact ev_pick_f rfl (gn rfl) rfl rfl
    simp only [nm3, seval]
    apply VE.cons
    · exact ev_move rfl (gn rfl)
    simp only [nm3, seval]
    apply VE.cons
    · first | exact Ev.skip (fun _ => rfl) | exact ev_load rfl (fun _ => rfl) rfl rfl Tryd.underlying24 rfl Tryd.sizeOf24 rfl rfl | exact ev_loadx rfl (fun _ => rfl) rfl Tryd.underlying24 rfl Tryd.sizeOf24 (by assumption) rfl
    simp only [nm3, seval]
    apply VE.cons
    · first | exact Ev.skip (fun _ => rfl) | exact ev_load rfl (fun _ => rfl) rfl rfl Tryd.underlying24 rfl Tryd.sizeOf24 rfl rfl | exact ev_loadx rfl (fun _ => rfl) rfl Tryd.underlying24 rfl Tryd.sizeOf24 (by assumption) rfl
    simp only [nm3, seval]
    apply VE.cons
    · first | exact Ev.skip (fun _ => rfl) | exact ev_call rfl (fun _ => rfl) rfl (en_of Tryd.func24 (by kernel_rfl) rfl) (fun w' hw' => AddE h2 oq op w' (hL.gw hw'))
    simp only [nm3, seval]
    apply VE.cons
    · first | exact Ev.skip (fun _ => rfl) | exact ev_load rfl (fun _ => rfl) rfl rfl Tryd.underlying24 rfl Tryd.sizeOf24 rfl rfl | exact ev_loadx rfl (fun _ => rfl) rfl Tryd.underlying24 rfl Tryd.sizeOf24 (by assumption) rfl
    simp only [nm3, seval]
    apply VE.cons
    · first | exact Ev.skip (fun _ => rfl) | exact ev_bin (c := .bool true) rfl (fun _ => rfl) rfl rfl (fun w => eqP_self _ _ _ w)
    simp only [nm3, seval]
    apply VE.cons
    · first | exact ev_pick_t rfl (gn rfl) rfl rfl | exact ev_pick_f rfl (gn rfl) rfl rfl
    simp only [nm3, seval]
    apply VE.cons
    · exact ev_move rfl (gn rfl)
    simp only [nm3, seval]
    apply VE.cons
    · first | exact Ev.skip (fun _ => rfl) | exact ev_load rfl (fun _ => rfl) rfl rfl Tryd.underlying24 rfl Tryd.sizeOf24 rfl rfl | exact ev_loadx rfl (fun _ => rfl) rfl Tryd.underlying24 rfl Tryd.sizeOf24 (by assumption) rfl
    simp only [nm3, seval]
    apply VE.cons
    · first | exact Ev.skip (fun _ => rfl) | exact ev_call (v := .bool true) rfl (fun _ => rfl) rfl (en_of Tryd.func17 (by kernel_rfl) rfl) (fun w' hw' => On_PV os w' (hL.gw hw'))
    simp only [nm3, seval]
    apply VE.cons
    · first | exact ev_pick_t rfl (gn rfl) rfl rfl | exact ev_pick_f rfl (gn rfl) rfl rfl
    simp only [nm3, seval]
    apply VE.cons
    · exact ev_assign rfl (gn rfl)
    simp only [nm3, seval]
    exact VE.nil _
  · kernel_rfl
  change VOk _ _ _ _ _
  refine vret ?_
  refine post_ret (res1 Tryd.results4 (rv_tmp rfl)) ?_
  intro w' hg
  exact ⟨rfl, hg⟩
theorem adds_3 {n m : Nat} {k : Int} {u r : Value} {p q0 s : Pt} (hn : n < 65536) (hm : m < 65536) (hu : ∀ w, (convert 3 28 (.int .i64 k)).run Tryd.prog w = .ok u w) (hr : ∀ a b w, (do eqGuard .rem 28 a b u (.int .u64 4); binOp .rem 28 u (.int .u64 4) : Sem Value).run Tryd.prog w = .ok r w) (hj : ∀ w, (convert 28 3 r).run Tryd.prog w = .ok (.int .i64 3) w) (w : World) (hL : Laid w) (op : p.on) (oq : Pt.on .inf) (os : s.on) (hp : smul n base = p) (hq : smul m base = q0) (h1 : add p .inf = s) (h2 : add .inf p = s) : Calls Tryd.prog 4 #[.int .u16 (n : Nat), .int .u16 (m : Nat), .int .i64 k] w fun e w' => e = .returned (.bool true) ∧ Gw w w' := by
  go_enter Tryd.func4, Tryd.ntmps4
  refine ve_go ?_
  simp only [List.map_cons, List.map_nil]
  refine vseq ?_
  apply vrp
  · apply VE.cons
    · exact ev_assign rfl (gn rfl)
    simp only [nm3, seval]
    exact VE.nil _
  · kernel_rfl
  change VOk _ _ _ _ _
  refine vseq ?_
  apply vrp
  · apply VE.cons
    · exact ev_move rfl (gn rfl)
    simp only [nm3, seval]
    apply VE.cons
    · exact ev_conv rfl (gn rfl) rfl (fun w => cv16 hn w)
    simp only [nm3, seval]
    apply VE.cons
    · exact ev_call rfl (gn rfl) rfl (en_of Tryd.func21 (by kernel_rfl) rfl) (fun w' hw' => small_ok (Nat.lt_trans hn (by decide)) w')
    simp only [nm3, seval]
    apply VE.cons
    · exact ev_call rfl (gn rfl) rfl (en_of Tryd.func20 (by kernel_rfl) rfl) (fun w' hw' => ofP (lt16 hn) hp w' (hL.gw hw'))
    simp only [nm3, seval]
    apply VE.cons
    · exact ev_move rfl (gn rfl)
    simp only [nm3, seval]
    apply VE.cons
    · exact ev_conv rfl (gn rfl) rfl (fun w => cv16 hm w)
    simp only [nm3, seval]
    apply VE.cons
    · exact ev_call rfl (gn rfl) rfl (en_of Tryd.func21 (by kernel_rfl) rfl) (fun w' hw' => small_ok (Nat.lt_trans hm (by decide)) w')
    simp only [nm3, seval]
    apply VE.cons
    · exact ev_call rfl (gn rfl) rfl (en_of Tryd.func20 (by kernel_rfl) rfl) (fun w' hw' => ofP (lt16 hm) hq w' (hL.gw hw'))
    simp only [nm3, seval]
    apply VE.cons
    · exact ev_alloc rfl rfl (gn rfl) Tryd.zeroValue24
    simp only [nm3, seval]
    apply VE.cons
    · exact ev_alloc rfl rfl (gn rfl) Tryd.zeroValue24
    simp only [nm3, seval]
    apply VE.cons
    · exact ev_store rfl (gn rfl) rfl rfl rfl Tryd.sizeOf24 rfl (by simp) rfl
    simp only [nm3, seval]
    apply VE.cons
    · exact ev_store rfl (gn rfl) rfl rfl rfl Tryd.sizeOf24 rfl (by simp) rfl
    simp only [nm3, seval]
    exact VE.nil _
  · kernel_rfl
  change VOk _ _ _ _ _
  refine vseq ?_
  refine vseq ?_
  apply vrp
  · apply VE.cons
    · exact ev_move rfl (gn rfl)
    simp only [nm3, seval]
    apply VE.cons
    · exact ev_conv rfl (gn rfl) rfl (fun w => hu w)
    simp only [nm3, seval]
    apply VE.cons
    · exact ev_bin rfl (gn rfl) rfl rfl (fun w => hr _ _ w)
    simp only [nm3, seval]
    apply VE.cons
    · exact ev_conv rfl (gn rfl) rfl (fun w => hj w)
    simp only [nm3, seval]
    exact VE.nil _
  · kernel_rfl
  change VOk _ _ _ _ _
  refine vblock ?_
  refine vseq ?_
  apply vrp
  · apply VE.cons
    · exact ev_eql (p := false) rfl (gn rfl) rfl rfl (by decide)
    simp only [nm3, seval]
    apply VE.cons
    · exact ev_assign rfl (gn rfl)
    simp only [nm3, seval]
    exact VE.nil _
  · kernel_rfl
  change VOk _ _ _ _ _
  refine vcond_f rfl ?_
  refine vseq ?_
  apply vrp
  · apply VE.cons
    · exact ev_eql (p := false) rfl (gn rfl) rfl rfl (by decide)
    simp only [nm3, seval]
    apply VE.cons
    · exact ev_assign rfl (gn rfl)
    simp only [nm3, seval]
    exact VE.nil _
  · kernel_rfl
  change VOk _ _ _ _ _
  refine vcond_f rfl ?_
  refine vseq ?_
  apply vrp
  · apply VE.cons
    · exact ev_eql (p := true) rfl (gn rfl) rfl rfl (by decide)
    simp only [nm3, seval]
    apply VE.cons
    · exact ev_assign rfl (gn rfl)
    simp only [nm3, seval]
    exact VE.nil _
  · kernel_rfl
  change VOk _ _ _ _ _
  refine vcond_t rfl ?_
  apply vrp
  · apply VE.cons
    · exact ev_build rfl (gn rfl) rfl built24_inf
    simp only [nm3, seval]
    apply VE.cons
    · exact ev_store rfl (gn rfl) rfl rfl rfl Tryd.sizeOf24 rfl (by simp) rfl
    simp only [nm3, seval]
    exact VE.nil _
  · kernel_rfl
  change VOk _ _ _ _ _
  refine vseq ?_
  apply vrp
  · apply VE.cons
    · first | exact ev_load rfl (gn rfl) rfl rfl Tryd.underlying24 rfl Tryd.sizeOf24 rfl rfl | exact ev_loadx rfl (gn rfl) rfl Tryd.underlying24 rfl Tryd.sizeOf24 (by assumption) rfl
    simp only [nm3, seval]
    apply VE.cons
    · first | exact ev_load rfl (gn rfl) rfl rfl Tryd.underlying24 rfl Tryd.sizeOf24 rfl rfl | exact ev_loadx rfl (gn rfl) rfl Tryd.underlying24 rfl Tryd.sizeOf24 (by assumption) rfl
    simp only [nm3, seval]
    apply VE.cons
    · exact ev_call rfl (gn rfl) rfl (en_of Tryd.func24 (by kernel_rfl) rfl) (fun w' hw' => AddE h1 op oq w' (hL.gw hw'))
    simp only [nm3, seval]
    apply VE.cons
    · exact ev_alloc rfl rfl (gn rfl) Tryd.zeroValue24
    simp only [nm3, seval]
    apply VE.cons
    · exact ev_store rfl (gn rfl) rfl rfl rfl Tryd.sizeOf24 rfl (by simp) rfl
    simp only [nm3, seval]
    exact VE.nil _
  · kernel_rfl
  change VOk _ _ _ _ _
  refine vseq ?_
  apply vrd (by kernel_rfl)
  · apply VE.cons
    · first | exact ev_field rfl (gn rfl) rfl Tryd.underlying24 rfl Tryd.sizeOf22 | exact ev_fieldx rfl (gn rfl) rfl Tryd.underlying24 rfl Tryd.sizeOf22
    simp only [nm3, seval]
    apply VE.cons
    · first | exact ev_load rfl (gn rfl) rfl rfl Tryd.underlying22 rfl Tryd.sizeOf22 rfl rfl | exact ev_loadx rfl (gn rfl) rfl Tryd.underlying22 rfl Tryd.sizeOf22 (by assumption) rfl
    simp only [nm3, seval]
    apply VE.cons
    · exact ev_call rfl (gn rfl) rfl (en_of Tryd.func19 (by kernel_rfl) rfl) (fun w' hw' => rofN _ (xv_lt p) w')
    simp only [nm3, seval]
    apply VE.cons
    · first | exact ev_field rfl (gn rfl) rfl Tryd.underlying24 rfl Tryd.sizeOf22 | exact ev_fieldx rfl (gn rfl) rfl Tryd.underlying24 rfl Tryd.sizeOf22
    simp only [nm3, seval]
    apply VE.cons
    · first | exact ev_load rfl (gn rfl) rfl rfl Tryd.underlying22 rfl Tryd.sizeOf22 rfl rfl | exact ev_loadx rfl (gn rfl) rfl Tryd.underlying22 rfl Tryd.sizeOf22 (by assumption) rfl
    simp only [nm3, seval]
    apply VE.cons
    · exact ev_call rfl (gn rfl) rfl (en_of Tryd.func19 (by kernel_rfl) rfl) (fun w' hw' => rofN _ (yv_lt p) w')
    simp only [nm3, seval]
    apply VE.cons
    · first | exact ev_field rfl (gn rfl) rfl Tryd.underlying24 rfl Tryd.sizeOf22 | exact ev_fieldx rfl (gn rfl) rfl Tryd.underlying24 rfl Tryd.sizeOf22
    simp only [nm3, seval]
    apply VE.cons
    · first | exact ev_load rfl (gn rfl) rfl rfl Tryd.underlying22 rfl Tryd.sizeOf22 rfl rfl | exact ev_loadx rfl (gn rfl) rfl Tryd.underlying22 rfl Tryd.sizeOf22 (by assumption) rfl
    simp only [nm3, seval]
    apply VE.cons
    · exact ev_call rfl (gn rfl) rfl (en_of Tryd.func19 (by kernel_rfl) rfl) (fun w' hw' => rofN _ (xv_lt .inf) w')
    simp only [nm3, seval]
    apply VE.cons
    · first | exact ev_field rfl (gn rfl) rfl Tryd.underlying24 rfl Tryd.sizeOf22 | exact ev_fieldx rfl (gn rfl) rfl Tryd.underlying24 rfl Tryd.sizeOf22
    simp only [nm3, seval]
    apply VE.cons
    · first | exact ev_load rfl (gn rfl) rfl rfl Tryd.underlying22 rfl Tryd.sizeOf22 rfl rfl | exact ev_loadx rfl (gn rfl) rfl Tryd.underlying22 rfl Tryd.sizeOf22 (by assumption) rfl
    simp only [nm3, seval]
    apply VE.cons
    · exact ev_call rfl (gn rfl) rfl (en_of Tryd.func19 (by kernel_rfl) rfl) (fun w' hw' => rofN _ (yv_lt .inf) w')
    simp only [nm3, seval]
    apply VE.cons
    · exact ev_call rfl (gn rfl) rfl (en_of Tryd.func25 (by kernel_rfl) rfl) (fun w' hw' => radd_pt h1 op oq w')
    simp only [nm3, seval]
    apply VE.cons
    · exact ev_move rfl (gn rfl)
    simp only [nm3, seval]
    apply VE.cons
    · exact ev_extract rfl (gn rfl) rfl rfl
    simp only [nm3, seval]
    apply VE.cons
    · exact ev_extract rfl (gn rfl) rfl rfl
    simp only [nm3, seval]
    apply VE.cons
    · exact ev_alloc rfl rfl (gn rfl) Tryd.zeroValue29
    simp only [nm3, seval]
    apply VE.cons
    · exact ev_alloc rfl rfl (gn rfl) Tryd.zeroValue29
    simp only [nm3, seval]
    apply VE.cons
    · exact ev_store rfl (gn rfl) rfl rfl rfl Tryd.sizeOf29 rfl (by simp) rfl
    simp only [nm3, seval]
    apply VE.cons
    · exact ev_store rfl (gn rfl) rfl rfl rfl Tryd.sizeOf29 rfl (by simp) rfl
    simp only [nm3, seval]
    exact VE.nil _
  · kernel_rfl
  change VOk _ _ _ _ _
  refine vseq ?_
  apply vrd (by kernel_rfl)
  · apply VE.cons
    · exact ev_call (v := .bool true) rfl (gn rfl) rfl (en_of Tryd.func11 (by kernel_rfl) rfl) (fun w' hw' => curves_ok w' (hL.gw hw'))
    simp only [nm3, seval]
    apply VE.cons
    · exact ev_move rfl (gn rfl)
    simp only [nm3, seval]
    apply VE.cons
    · first | exact Ev.skip (fun _ => rfl) | exact ev_field rfl (fun _ => rfl) rfl Tryd.underlying24 rfl Tryd.sizeOf22 | exact ev_fieldx rfl (fun _ => rfl) rfl Tryd.underlying24 rfl Tryd.sizeOf22
    simp only [nm3, seval]
    apply VE.cons
    · first | exact Ev.skip (fun _ => rfl) | exact ev_load rfl (fun _ => rfl) rfl rfl Tryd.underlying22 rfl Tryd.sizeOf22 rfl rfl | exact ev_loadx rfl (fun _ => rfl) rfl Tryd.underlying22 rfl Tryd.sizeOf22 (by assumption) rfl
    simp only [nm3, seval]
    apply VE.cons
    · first | exact Ev.skip (fun _ => rfl) | exact ev_load rfl (fun _ => rfl) rfl rfl Tryd.underlying29 rfl Tryd.sizeOf29 rfl rfl | exact ev_loadx rfl (fun _ => rfl) rfl Tryd.underlying29 rfl Tryd.sizeOf29 (by assumption) rfl
    simp only [nm3, seval]
    apply VE.cons
    · first | exact Ev.skip (fun _ => rfl) | exact ev_call rfl (fun _ => rfl) rfl (en_of Tryd.func12 (by kernel_rfl) rfl) (fun w' hw' => rbytes_ok (xv s) w')
    simp only [nm3, seval]
    apply VE.cons
    · first | exact Ev.skip (fun _ => rfl) | exact ev_bin (c := .bool true) rfl (fun _ => rfl) rfl rfl (fun w => eqb_self (xv_lt s) _ _ w)
    simp only [nm3, seval]
    apply VE.cons
    · first | exact ev_pick_t rfl (gn rfl) rfl rfl | exact ev_pick_f rfl (gn rfl) rfl rfl
    simp only [nm3, seval]
    apply VE.cons
    · exact ev_move rfl (gn rfl)
    simp only [nm3, seval]
    apply VE.cons
    · first | exact Ev.skip (fun _ => rfl) | exact ev_field rfl (fun _ => rfl) rfl Tryd.underlying24 rfl Tryd.sizeOf22 | exact ev_fieldx rfl (fun _ => rfl) rfl Tryd.underlying24 rfl Tryd.sizeOf22
    simp only [nm3, seval]
    apply VE.cons
    · first | exact Ev.skip (fun _ => rfl) | exact ev_load rfl (fun _ => rfl) rfl rfl Tryd.underlying22 rfl Tryd.sizeOf22 rfl rfl | exact ev_loadx rfl (fun _ => rfl) rfl Tryd.underlying22 rfl Tryd.sizeOf22 (by assumption) rfl
    simp only [nm3, seval]
    apply VE.cons
    · first | exact Ev.skip (fun _ => rfl) | exact ev_load rfl (fun _ => rfl) rfl rfl Tryd.underlying29 rfl Tryd.sizeOf29 rfl rfl | exact ev_loadx rfl (fun _ => rfl) rfl Tryd.underlying29 rfl Tryd.sizeOf29 (by assumption) rfl
    simp only [nm3, seval]
    apply VE.cons
    · first | exact Ev.skip (fun _ => rfl) | exact ev_call rfl (fun _ => rfl) rfl (en_of Tryd.func12 (by kernel_rfl) rfl) (fun w' hw' => rbytes_ok (yv s) w')
    simp only [nm3, seval]
    apply VE.cons
    · first | exact Ev.skip (fun _ => rfl) | exact ev_bin (c := .bool true) rfl (fun _ => rfl) rfl rfl (fun w => eqb_self (yv_lt s) _ _ w)
    simp only [nm3, seval]
    apply VE.cons
    · first | exact ev_pick_t rfl (gn rfl) rfl rfl | exact ev_pick_f rfl (gn rfl) rfl rfl
    simp only [nm3, seval]
    apply VE.cons
    · exact ev_move rfl (gn rfl)
    simp only [nm3, seval]
    apply VE.cons
    · first | exact Ev.skip (fun _ => rfl) | exact ev_load rfl (fun _ => rfl) rfl rfl Tryd.underlying24 rfl Tryd.sizeOf24 rfl rfl | exact ev_loadx rfl (fun _ => rfl) rfl Tryd.underlying24 rfl Tryd.sizeOf24 (by assumption) rfl
    simp only [nm3, seval]
    apply VE.cons
    · first | exact Ev.skip (fun _ => rfl) | exact ev_load rfl (fun _ => rfl) rfl rfl Tryd.underlying24 rfl Tryd.sizeOf24 rfl rfl | exact ev_loadx rfl (fun _ => rfl) rfl Tryd.underlying24 rfl Tryd.sizeOf24 (by assumption) rfl
    simp only [nm3, seval]
    apply VE.cons
    · first | exact Ev.skip (fun _ => rfl) | exact ev_call rfl (fun _ => rfl) rfl (en_of Tryd.func24 (by kernel_rfl) rfl) (fun w' hw' => AddE h2 oq op w' (hL.gw hw'))
    simp only [nm3, seval]
    apply VE.cons
    · first | exact Ev.skip (fun _ => rfl) | exact ev_load rfl (fun _ => rfl) rfl rfl Tryd.underlying24 rfl Tryd.sizeOf24 rfl rfl | exact ev_loadx rfl (fun _ => rfl) rfl Tryd.underlying24 rfl Tryd.sizeOf24 (by assumption) rfl
    simp only [nm3, seval]
    apply VE.cons
    · first | exact Ev.skip (fun _ => rfl) | exact ev_bin (c := .bool true) rfl (fun _ => rfl) rfl rfl (fun w => eqP_self _ _ _ w)
    simp only [nm3, seval]
    apply VE.cons
    · first | exact ev_pick_t rfl (gn rfl) rfl rfl | exact ev_pick_f rfl (gn rfl) rfl rfl
    simp only [nm3, seval]
    apply VE.cons
    · exact ev_move rfl (gn rfl)
    simp only [nm3, seval]
    apply VE.cons
    · first | exact Ev.skip (fun _ => rfl) | exact ev_load rfl (fun _ => rfl) rfl rfl Tryd.underlying24 rfl Tryd.sizeOf24 rfl rfl | exact ev_loadx rfl (fun _ => rfl) rfl Tryd.underlying24 rfl Tryd.sizeOf24 (by assumption) rfl
    simp only [nm3, seval]
    apply VE.cons
    · first | exact Ev.skip (fun _ => rfl) | exact ev_call (v := .bool true) rfl (fun _ => rfl) rfl (en_of Tryd.func17 (by kernel_rfl) rfl) (fun w' hw' => On_PV os w' (hL.gw hw'))
    simp only [nm3, seval]
    apply VE.cons
    · first | exact ev_pick_t rfl (gn rfl) rfl rfl | exact ev_pick_f rfl (gn rfl) rfl rfl
    simp only [nm3, seval]
    apply VE.cons
    · exact ev_assign rfl (gn rfl)
    simp only [nm3, seval]
    exact VE.nil _
  · kernel_rfl
  change VOk _ _ _ _ _
  refine vret ?_
  refine post_ret (res1 Tryd.results4 (rv_tmp rfl)) ?_
  intro w' hg
  exact ⟨rfl, hg⟩
theorem cv_any {k : Int} (w : World) : (convert 3 28 (.int .i64 k)).run Tryd.prog w = .ok (.int .u64 ((k % 18446744073709551616).toNat : Nat)) w := by
  unfold convert
  go_simp
  rw [IntKind.wrap_u64]; omega
theorem rem4 (x : Nat) (hx : x < 18446744073709551616) (a b : Operand) (w : World) : (do eqGuard .rem 28 a b (.int .u64 (x : Nat)) (.int .u64 4); binOp .rem 28 (.int .u64 (x : Nat)) (.int .u64 4) : Sem Value).run Tryd.prog w = .ok (.int .u64 ((x % 4 : Nat) : Nat)) w := by
  go_simp
  rw [Int.tmod_eq_emod_of_nonneg (Int.natCast_nonneg _)]
theorem cv_back {x j : Nat} (h : x = j) (hj : j < 4) (w : World) : (convert 28 3 (.int .u64 (x : Nat))).run Tryd.prog w = .ok (.int .i64 (j : Nat)) w := by
  subst h
  unfold convert
  go_simp
  rw [IntWalk.i64_in _ (by omega)]
theorem adds_law {n m : Nat} {k : Int} (hn : n < 65536) (hm : m < 65536) (w : World) (hL : Laid w) : Calls Tryd.prog 4 #[.int .u16 (n : Nat), .int .u16 (m : Nat), .int .i64 k] w fun e w' => e = .returned (.bool true) ∧ Gw w w' := by
  have op := TollEc.smul_on TollEc.base_on n
  have oq := TollEc.smul_on TollEc.base_on m
  have key := rem4 ((k % 18446744073709551616).toNat) (by omega)
  have hcases : (k % 18446744073709551616).toNat % 4 = 0 ∨ (k % 18446744073709551616).toNat % 4 = 1 ∨ (k % 18446744073709551616).toNat % 4 = 2 ∨ (k % 18446744073709551616).toNat % 4 = 3 := by omega
  have hk : subm nn 0 n < R := Nat.lt_trans (subm_lt (by decide)) (by decide)
  rcases hcases with h | h | h | h
  · exact adds_0 hn hm cv_any key (cv_back h (by decide)) w hL op oq (TollEc.on_add op oq) rfl rfl rfl (TollEc.add_comm _ _ oq op)
  · exact adds_1 hn hm cv_any key (cv_back h (by decide)) w hL op op (TollEc.on_add op op) rfl rfl rfl rfl
  · exact adds_2 hn hm cv_any key (cv_back h (by decide)) w hL op (TollEc.smul_on TollEc.base_on _) (TollEc.on_add op (TollEc.smul_on TollEc.base_on _)) rfl rfl rfl (TollEc.add_comm _ _ (TollEc.smul_on TollEc.base_on _) op) hk rfl
  · exact adds_3 hn hm cv_any key (cv_back h (by decide)) w hL op (show Pt.on .inf from True.intro) (TollEc.on_add op (show Pt.on .inf from True.intro)) rfl rfl rfl (TollEc.add_comm _ _ (show Pt.on .inf from True.intro) op)
end Go.Proofs.YtbnfanmolphliaaDoor
