import Derived.Test.YtcbddldodpdikaaProg
import Derived.Test.YtcbddldodpdikaaVo
namespace Go.Proofs.Ytcbddldodpdikaa
open Go.RowKit Go.Toll
set_option maxHeartbeats 4000000
set_option maxRecDepth 100000
theorem right_even (l : Nat → Nat → Nat) (m : Nat) (w : World) (hp : ∀ (p q : Operand) (w : World), (do eqGuard .rem 22 p q (.int .u64 ((l m 0) : Nat)) (.int .u64 2); binOp .rem 22 (.int .u64 ((l m 0) : Nat)) (.int .u64 2) : Sem Value).run Try.prog w = .ok (.int .u64 0) w) :
  Calls Try.prog 11 #[.agg #[.int .u64 (l m 0 : Nat), .int .u64 (l m 1 : Nat), .int .u64 (l m 2 : Nat), .int .u64 (l m 3 : Nat)]] w fun e w' => e = .returned (.bool false) ∧ Gw w w' := by
  go_enter Try.func11, Try.ntmps11
  refine ve_go ?_
  simp only [List.map_cons, List.map_nil]
  refine vseq ?_
  apply vrp
  · apply VE.cons
    · exact ev_box rfl rfl (gn rfl) rfl
    simp only [nm, seval]
    apply VE.cons
    · exact ev_assign rfl (gn rfl)
    simp only [nm, seval]
    exact VE.nil _
  · kernel_rfl
  change VOk _ _ _ _ _
  refine vseq ?_
  apply vrp
  · apply VE.cons
    · first | exact ev_index rfl (gn rfl) rfl rfl Try.underlying24 Try.sizeOf22 (by decide) (by decide) | exact ev_indexx rfl (gn rfl) rfl rfl Try.underlying24 Try.sizeOf22 (by decide) (by decide)
    simp only [nm, seval]
    apply VE.cons
    · first | exact ev_load1 rfl (gn rfl) rfl rfl Try.underlying22 rfl rfl | exact ev_loadx1 rfl (gn rfl) rfl Try.underlying22 rfl (by first | assumption | exact hm 0 _ rfl | exact hm 1 _ rfl | exact hm 2 _ rfl | exact hm 3 _ rfl)
    simp only [nm, seval]
    apply VE.cons
    · exact ev_bin rfl (gn rfl) rfl rfl (fun w => hp  _ _ w)
    simp only [nm, seval]
    apply VE.cons
    · refine ev_pure' (gn rfl) (fun ρ w => by simp only [VS.act, SV.c, List.map_cons, List.map_nil]; go_simp; exact rfl) (fun _ _ => rfl)
    simp only [nm, seval]
    apply VE.cons
    · exact ev_move rfl (gn rfl)
    simp only [nm, seval]
    apply VE.cons
    · first | exact Ev.skip (fun _ => rfl) | exact ev_load rfl (fun _ => rfl) rfl rfl Try.underlying24 rfl Try.sizeOf24 rfl rfl | exact ev_loadx rfl (fun _ => rfl) rfl Try.underlying24 rfl Try.sizeOf24 (by assumption) rfl
    simp only [nm, seval]
    apply VE.cons
    · first | exact Ev.skip (fun _ => rfl) | refine ev_pure' (fun _ => rfl) (fun ρ w => by simp only [VS.act, SV.c, List.map_cons, List.map_nil]; go_simp; exact rfl) (fun _ _ => rfl)
    simp only [nm, seval]
    apply VE.cons
    · first | exact Ev.skip (fun _ => rfl) | refine ev_pure' (fun _ => rfl) (fun ρ w => by simp only [VS.act, SV.c, List.map_cons, List.map_nil]; go_simp; exact rfl) (fun _ _ => rfl)
    simp only [nm, seval]
    apply VE.cons
    · refine ev_pure' (gn rfl) (fun ρ w => by simp only [VS.act, SV.c, List.map_cons, List.map_nil]; go_simp; exact rfl) (fun _ _ => rfl)
    simp only [nm, seval]
    apply VE.cons
    · exact ev_assign rfl (gn rfl)
    simp only [nm, seval]
    exact VE.nil _
  · kernel_rfl
  change VOk _ _ _ _ _
  refine vret ?_
  refine post_ret (res1 Try.results11 (rv_tmp rfl)) ?_
  intro w' hg
  exact ⟨rfl, hg⟩
theorem right_one (l : Nat → Nat → Nat) (m : Nat) (w : World) (hp : ∀ (p q : Operand) (w : World), (do eqGuard .rem 22 p q (.int .u64 ((l m 0) : Nat)) (.int .u64 2); binOp .rem 22 (.int .u64 ((l m 0) : Nat)) (.int .u64 2) : Sem Value).run Try.prog w = .ok (.int .u64 1) w) (hn : ∀ (p q : Operand) (w : World), (do eqGuard .neq 24 p q (.agg #[.int .u64 (l m 0 : Nat), .int .u64 (l m 1 : Nat), .int .u64 (l m 2 : Nat), .int .u64 (l m 3 : Nat)]) (.agg #[.int .u64 1, .int .u64 0, .int .u64 0, .int .u64 0]); binOp .neq 24 (.agg #[.int .u64 (l m 0 : Nat), .int .u64 (l m 1 : Nat), .int .u64 (l m 2 : Nat), .int .u64 (l m 3 : Nat)]) (.agg #[.int .u64 1, .int .u64 0, .int .u64 0, .int .u64 0]) : Sem Value).run Try.prog w = .ok (.bool false) w) :
  Calls Try.prog 11 #[.agg #[.int .u64 (l m 0 : Nat), .int .u64 (l m 1 : Nat), .int .u64 (l m 2 : Nat), .int .u64 (l m 3 : Nat)]] w fun e w' => e = .returned (.bool false) ∧ Gw w w' := by
  go_enter Try.func11, Try.ntmps11
  refine ve_go ?_
  simp only [List.map_cons, List.map_nil]
  refine vseq ?_
  apply vrp
  · apply VE.cons
    · exact ev_box rfl rfl (gn rfl) rfl
    simp only [nm, seval]
    apply VE.cons
    · exact ev_assign rfl (gn rfl)
    simp only [nm, seval]
    exact VE.nil _
  · kernel_rfl
  change VOk _ _ _ _ _
  refine vseq ?_
  apply vrp
  · apply VE.cons
    · first | exact ev_index rfl (gn rfl) rfl rfl Try.underlying24 Try.sizeOf22 (by decide) (by decide) | exact ev_indexx rfl (gn rfl) rfl rfl Try.underlying24 Try.sizeOf22 (by decide) (by decide)
    simp only [nm, seval]
    apply VE.cons
    · first | exact ev_load1 rfl (gn rfl) rfl rfl Try.underlying22 rfl rfl | exact ev_loadx1 rfl (gn rfl) rfl Try.underlying22 rfl (by first | assumption | exact hm 0 _ rfl | exact hm 1 _ rfl | exact hm 2 _ rfl | exact hm 3 _ rfl)
    simp only [nm, seval]
    apply VE.cons
    · exact ev_bin rfl (gn rfl) rfl rfl (fun w => hp  _ _ w)
    simp only [nm, seval]
    apply VE.cons
    · refine ev_pure' (gn rfl) (fun ρ w => by simp only [VS.act, SV.c, List.map_cons, List.map_nil]; go_simp; exact rfl) (fun _ _ => rfl)
    simp only [nm, seval]
    apply VE.cons
    · exact ev_move rfl (gn rfl)
    simp only [nm, seval]
    apply VE.cons
    · first | exact Ev.skip (fun _ => rfl) | exact ev_load rfl (fun _ => rfl) rfl rfl Try.underlying24 rfl Try.sizeOf24 rfl rfl | exact ev_loadx rfl (fun _ => rfl) rfl Try.underlying24 rfl Try.sizeOf24 (by assumption) rfl
    simp only [nm, seval]
    apply VE.cons
    · first | exact Ev.skip (fun _ => rfl) | refine ev_pure' (fun _ => rfl) (fun ρ w => by simp only [VS.act, SV.c, List.map_cons, List.map_nil]; go_simp; exact rfl) (fun _ _ => rfl)
    simp only [nm, seval]
    apply VE.cons
    · first | exact Ev.skip (fun _ => rfl) | exact ev_bin rfl (fun _ => rfl) rfl rfl (fun w => hn  _ _ w)
    simp only [nm, seval]
    apply VE.cons
    · refine ev_pure' (gn rfl) (fun ρ w => by simp only [VS.act, SV.c, List.map_cons, List.map_nil]; go_simp; exact rfl) (fun _ _ => rfl)
    simp only [nm, seval]
    apply VE.cons
    · exact ev_assign rfl (gn rfl)
    simp only [nm, seval]
    exact VE.nil _
  · kernel_rfl
  change VOk _ _ _ _ _
  refine vret ?_
  refine post_ret (res1 Try.results11 (rv_tmp rfl)) ?_
  intro w' hg
  exact ⟨rfl, hg⟩
theorem right_odd (l : Nat → Nat → Nat) (m : Nat) (w : World) (hp : ∀ (p q : Operand) (w : World), (do eqGuard .rem 22 p q (.int .u64 ((l m 0) : Nat)) (.int .u64 2); binOp .rem 22 (.int .u64 ((l m 0) : Nat)) (.int .u64 2) : Sem Value).run Try.prog w = .ok (.int .u64 1) w) (hn : ∀ (p q : Operand) (w : World), (do eqGuard .neq 24 p q (.agg #[.int .u64 (l m 0 : Nat), .int .u64 (l m 1 : Nat), .int .u64 (l m 2 : Nat), .int .u64 (l m 3 : Nat)]) (.agg #[.int .u64 1, .int .u64 0, .int .u64 0, .int .u64 0]); binOp .neq 24 (.agg #[.int .u64 (l m 0 : Nat), .int .u64 (l m 1 : Nat), .int .u64 (l m 2 : Nat), .int .u64 (l m 3 : Nat)]) (.agg #[.int .u64 1, .int .u64 0, .int .u64 0, .int .u64 0]) : Sem Value).run Try.prog w = .ok (.bool true) w) :
  Calls Try.prog 11 #[.agg #[.int .u64 (l m 0 : Nat), .int .u64 (l m 1 : Nat), .int .u64 (l m 2 : Nat), .int .u64 (l m 3 : Nat)]] w fun e w' => e = .returned (.bool true) ∧ Gw w w' := by
  go_enter Try.func11, Try.ntmps11
  refine ve_go ?_
  simp only [List.map_cons, List.map_nil]
  refine vseq ?_
  apply vrp
  · apply VE.cons
    · exact ev_box rfl rfl (gn rfl) rfl
    simp only [nm, seval]
    apply VE.cons
    · exact ev_assign rfl (gn rfl)
    simp only [nm, seval]
    exact VE.nil _
  · kernel_rfl
  change VOk _ _ _ _ _
  refine vseq ?_
  apply vrp
  · apply VE.cons
    · first | exact ev_index rfl (gn rfl) rfl rfl Try.underlying24 Try.sizeOf22 (by decide) (by decide) | exact ev_indexx rfl (gn rfl) rfl rfl Try.underlying24 Try.sizeOf22 (by decide) (by decide)
    simp only [nm, seval]
    apply VE.cons
    · first | exact ev_load1 rfl (gn rfl) rfl rfl Try.underlying22 rfl rfl | exact ev_loadx1 rfl (gn rfl) rfl Try.underlying22 rfl (by first | assumption | exact hm 0 _ rfl | exact hm 1 _ rfl | exact hm 2 _ rfl | exact hm 3 _ rfl)
    simp only [nm, seval]
    apply VE.cons
    · exact ev_bin rfl (gn rfl) rfl rfl (fun w => hp  _ _ w)
    simp only [nm, seval]
    apply VE.cons
    · refine ev_pure' (gn rfl) (fun ρ w => by simp only [VS.act, SV.c, List.map_cons, List.map_nil]; go_simp; exact rfl) (fun _ _ => rfl)
    simp only [nm, seval]
    apply VE.cons
    · exact ev_move rfl (gn rfl)
    simp only [nm, seval]
    apply VE.cons
    · first | exact Ev.skip (fun _ => rfl) | exact ev_load rfl (fun _ => rfl) rfl rfl Try.underlying24 rfl Try.sizeOf24 rfl rfl | exact ev_loadx rfl (fun _ => rfl) rfl Try.underlying24 rfl Try.sizeOf24 (by assumption) rfl
    simp only [nm, seval]
    apply VE.cons
    · first | exact Ev.skip (fun _ => rfl) | refine ev_pure' (fun _ => rfl) (fun ρ w => by simp only [VS.act, SV.c, List.map_cons, List.map_nil]; go_simp; exact rfl) (fun _ _ => rfl)
    simp only [nm, seval]
    apply VE.cons
    · first | exact Ev.skip (fun _ => rfl) | exact ev_bin rfl (fun _ => rfl) rfl rfl (fun w => hn  _ _ w)
    simp only [nm, seval]
    apply VE.cons
    · refine ev_pure' (gn rfl) (fun ρ w => by simp only [VS.act, SV.c, List.map_cons, List.map_nil]; go_simp; exact rfl) (fun _ _ => rfl)
    simp only [nm, seval]
    apply VE.cons
    · exact ev_assign rfl (gn rfl)
    simp only [nm, seval]
    exact VE.nil _
  · kernel_rfl
  change VOk _ _ _ _ _
  refine vret ?_
  refine post_ret (res1 Try.results11 (rv_tmp rfl)) ?_
  intro w' hg
  exact ⟨rfl, hg⟩
theorem none_core (w : World) : Calls Try.prog 16 #[] w fun e w' => e = .returned (.pointer none) ∧ Gw w w' := by
  go_enter Try.func16, Try.ntmps16
  refine ve_go ?_
  simp only [List.map_cons, List.map_nil]
  refine vseq ?_
  apply vrp
  · apply VE.cons
    · exact ev_assign rfl (gn rfl)
    simp only [nm, seval]
    exact VE.nil _
  · kernel_rfl
  change VOk _ _ _ _ _
  refine vseq ?_
  apply vrp
  · apply VE.cons
    · exact ev_assign rfl (gn rfl)
    simp only [nm, seval]
    exact VE.nil _
  · kernel_rfl
  change VOk _ _ _ _ _
  refine vret ?_
  refine post_ret (res1 Try.results16 (rv_tmp rfl)) ?_
  intro w' hg
  exact ⟨rfl, hg⟩
theorem madd_nil (l : Nat → Nat → Nat) (x y : Nat) (w : World) : Calls Try.prog 17 #[.pointer none, .agg #[.int .u64 (l x 0 : Nat), .int .u64 (l x 1 : Nat), .int .u64 (l x 2 : Nat), .int .u64 (l x 3 : Nat)], .agg #[.int .u64 (l y 0 : Nat), .int .u64 (l y 1 : Nat), .int .u64 (l y 2 : Nat), .int .u64 (l y 3 : Nat)]] w fun e w' => e = .returned (.agg #[.int .u64 0, .int .u64 0, .int .u64 0, .int .u64 0]) ∧ Gw w w' := by
  go_enter Try.func17, Try.ntmps17
  refine ve_go ?_
  simp only [List.map_cons, List.map_nil]
  refine vseq ?_
  apply vrp
  · apply VE.cons
    · exact ev_box rfl rfl (gn rfl) rfl
    simp only [nm, seval]
    apply VE.cons
    · exact ev_box rfl rfl (gn rfl) rfl
    simp only [nm, seval]
    apply VE.cons
    · exact ev_alloc rfl rfl (gn rfl) Try.zeroValue24
    simp only [nm, seval]
    exact VE.nil _
  · kernel_rfl
  change VOk _ _ _ _ _
  refine vseq ?_
  refine vseq ?_
  apply vrp
  · apply VE.cons
    · exact ev_move rfl (gn rfl)
    simp only [nm, seval]
    apply VE.cons
    · refine ev_pure' (gn rfl) (fun ρ w => by simp only [VS.act, SV.c, List.map_cons, List.map_nil]; go_simp; exact rfl) (fun _ _ => rfl)
    simp only [nm, seval]
    exact VE.nil _
  · kernel_rfl
  change VOk _ _ _ _ _
  refine vcond_t rfl ?_
  refine vseq ?_
  apply vrp
  · apply VE.cons
    · refine ev_pure' (gn rfl) (fun ρ w => by simp only [VS.act, SV.c, List.map_cons, List.map_nil]; go_simp; exact rfl) (fun _ _ => rfl)
    simp only [nm, seval]
    apply VE.cons
    · exact ev_store rfl (gn rfl) rfl rfl rfl Try.sizeOf24 rfl (by simp) rfl
    simp only [nm, seval]
    exact VE.nil _
  · kernel_rfl
  change VOk _ _ _ _ _
  refine vret ?_
  refine post_ret (res1 Try.results17 (rv_cell rfl rfl Try.underlying24 rfl Try.sizeOf24 rfl rfl)) ?_
  intro w' hg
  exact ⟨rfl, hg⟩
theorem rest_nil (l : Nat → Nat → Nat) (x : Nat) (w : World) : Calls Try.prog 14 #[.pointer none, .agg #[.int .u64 (l x 0 : Nat), .int .u64 (l x 1 : Nat), .int .u64 (l x 2 : Nat), .int .u64 (l x 3 : Nat)]] w fun e w' => e = .returned (.agg #[.int .u64 0, .int .u64 0, .int .u64 0, .int .u64 0]) ∧ Gw w w' := by
  go_enter Try.func14, Try.ntmps14
  refine ve_go ?_
  simp only [List.map_cons, List.map_nil]
  refine vseq ?_
  apply vrp
  · apply VE.cons
    · exact ev_box rfl rfl (gn rfl) rfl
    simp only [nm, seval]
    apply VE.cons
    · exact ev_alloc rfl rfl (gn rfl) Try.zeroValue24
    simp only [nm, seval]
    exact VE.nil _
  · kernel_rfl
  change VOk _ _ _ _ _
  refine vseq ?_
  refine vseq ?_
  apply vrp
  · apply VE.cons
    · exact ev_move rfl (gn rfl)
    simp only [nm, seval]
    apply VE.cons
    · refine ev_pure' (gn rfl) (fun ρ w => by simp only [VS.act, SV.c, List.map_cons, List.map_nil]; go_simp; exact rfl) (fun _ _ => rfl)
    simp only [nm, seval]
    exact VE.nil _
  · kernel_rfl
  change VOk _ _ _ _ _
  refine vcond_t rfl ?_
  refine vseq ?_
  apply vrp
  · apply VE.cons
    · refine ev_pure' (gn rfl) (fun ρ w => by simp only [VS.act, SV.c, List.map_cons, List.map_nil]; go_simp; exact rfl) (fun _ _ => rfl)
    simp only [nm, seval]
    apply VE.cons
    · exact ev_store rfl (gn rfl) rfl rfl rfl Try.sizeOf24 rfl (by simp) rfl
    simp only [nm, seval]
    exact VE.nil _
  · kernel_rfl
  change VOk _ _ _ _ _
  refine vret ?_
  refine post_ret (res1 Try.results14 (rv_cell rfl rfl Try.underlying24 rfl Try.sizeOf24 rfl rfl)) ?_
  intro w' hg
  exact ⟨rfl, hg⟩
theorem seven_core (c0 c1 c2 c3 c4 c5 c6 c7 c8 c9 c10 c11 c12 : Value) (w : World) (h1 : ∀ w', Gw w w' → Calls Try.prog 9 #[.agg #[.int .u64 7, .int .u64 0, .int .u64 0, .int .u64 0]] w' fun e w'' => ∃ g, w'.heap.size ≤ g ∧ e = .returned (.tuple #[.pointer (some ⟨g, 0, none⟩), .int .i64 0]) ∧ w''.heap[g]? = some (.cells #[c0, c1, c2, c3, c4, c5, c6, c7, c8, c9, c10, c11, c12] 50 (0, 0)) ∧ Gw w' w'') (h2 : ∀ (w' : World) (g : Nat), (∀ (j : Nat) (v : Value), ([c0, c1, c2, c3, c4, c5, c6, c7, c8, c9, c10, c11, c12] : List Value)[j]? = some v → w'.cell? ⟨g, 0 + j, none⟩ = some v) → Calls Try.prog 15 #[.pointer (some ⟨g, 0, none⟩), .agg #[.int .u64 3, .int .u64 0, .int .u64 0, .int .u64 0]] w' fun e w'' => e = .returned (.tuple #[.agg #[.int .u64 5, .int .u64 0, .int .u64 0, .int .u64 0], .int .i64 0]) ∧ Gw w' w'') (h3 : ∀ (w' : World) (g : Nat), (∀ (j : Nat) (v : Value), ([c0, c1, c2, c3, c4, c5, c6, c7, c8, c9, c10, c11, c12] : List Value)[j]? = some v → w'.cell? ⟨g, 0 + j, none⟩ = some v) → Calls Try.prog 20 #[.pointer (some ⟨g, 0, none⟩), .agg #[.int .u64 3, .int .u64 0, .int .u64 0, .int .u64 0], .agg #[.int .u64 5, .int .u64 0, .int .u64 0, .int .u64 0]] w' fun e w'' => e = .returned (.agg #[.int .u64 5, .int .u64 0, .int .u64 0, .int .u64 0]) ∧ Gw w' w'')
  (he : ∀ (p q : Operand) (w : World), (do eqGuard .eql 24 p q (.agg #[.int .u64 5, .int .u64 0, .int .u64 0, .int .u64 0]) (.agg #[.int .u64 5, .int .u64 0, .int .u64 0, .int .u64 0]); binOp .eql 24 (.agg #[.int .u64 5, .int .u64 0, .int .u64 0, .int .u64 0]) (.agg #[.int .u64 5, .int .u64 0, .int .u64 0, .int .u64 0]) : Sem Value).run Try.prog w = .ok (.bool true) w) (hn : ∀ (g : Nat) (p q : Operand) (w : World), (do eqGuard .eql 25 p q (.pointer (some ⟨g, 0, none⟩)) (.pointer none); binOp .eql 25 (.pointer (some ⟨g, 0, none⟩)) (.pointer none) : Sem Value).run Try.prog w = .ok (.bool false) w) :
  Calls Try.prog 10 #[] w fun e w' => e = .returned (.bool true) ∧ Gw w w' := by
  go_enter Try.func10, Try.ntmps10
  refine ve_go ?_
  simp only [List.map_cons, List.map_nil]
  refine vseq ?_
  apply vrp
  · apply VE.cons
    · exact ev_assign rfl (gn rfl)
    simp only [nm, seval]
    exact VE.nil _
  · kernel_rfl
  change VOk _ _ _ _ _
  refine vseq ?_
  apply vrp
  · apply VE.cons
    · refine ev_pure' (gn rfl) (fun ρ w => by simp only [VS.act, SV.c, List.map_cons, List.map_nil]; go_simp; exact rfl) (fun _ _ => rfl)
    simp only [nm, seval]
    apply VE.cons
    · exact ev_callnew rfl rfl (gn rfl) rfl (en_of Try.func9 (by kernel_rfl) rfl) [c0, c1, c2, c3, c4, c5, c6, c7, c8, c9, c10, c11, c12] 50 (h1)
    simp only [nm, seval]
    apply VE.cons
    · exact ev_move rfl (gn rfl)
    simp only [nm, seval]
    apply VE.cons
    · exact ev_extract_p rfl (gn rfl) rfl
    simp only [nm, seval]
    apply VE.cons
    · exact ev_extract_y rfl (gn rfl) rfl
    simp only [nm, seval]
    apply VE.cons
    · exact ev_assign rfl (gn rfl)
    simp only [nm, seval]
    apply VE.cons
    · exact ev_assign rfl (gn rfl)
    simp only [nm, seval]
    exact VE.nil _
  · kernel_rfl
  change VOk _ _ _ _ _
  refine vseq ?_
  refine vseq ?_
  apply vrp
  · apply VE.cons
    · exact ev_move rfl (gn rfl)
    simp only [nm, seval]
    apply VE.cons
    · refine ev_pure' (gn rfl) (fun ρ w => by simp only [VS.act, SV.c, List.map_cons, List.map_nil]; go_simp; exact rfl) (fun _ _ => rfl)
    simp only [nm, seval]
    apply VE.cons
    · exact ev_move rfl (gn rfl)
    simp only [nm, seval]
    apply VE.cons
    · first | exact Ev.skip (fun _ => rfl) | exact ev_move rfl (fun _ => rfl)
    simp only [nm, seval]
    apply VE.cons
    · first | exact Ev.skip (fun _ => rfl) | exact ev_eqnil rfl (fun _ => rfl) rfl rfl (fun g w => hn g _ _ w)
    simp only [nm, seval]
    apply VE.cons
    · refine ev_pure' (gn rfl) (fun ρ w => by simp only [VS.act, SV.c, List.map_cons, List.map_nil]; go_simp; exact rfl) (fun _ _ => rfl)
    simp only [nm, seval]
    exact VE.nil _
  · kernel_rfl
  change VOk _ _ _ _ _
  refine vcond_f rfl ?_
  refine vskip ?_
  change VOk _ _ _ _ _
  refine vseq ?_
  apply vrp
  · apply VE.cons
    · exact ev_move rfl (gn rfl)
    simp only [nm, seval]
    apply VE.cons
    · refine ev_pure' (gn rfl) (fun ρ w => by simp only [VS.act, SV.c, List.map_cons, List.map_nil]; go_simp; exact rfl) (fun _ _ => rfl)
    simp only [nm, seval]
    apply VE.cons
    · exact ev_callp [7] rfl (gn rfl) rfl (en_of Try.func15 (by kernel_rfl) rfl) (fun ρ w' hs' => h2 w' (ρ 7) (sees_cells hs' (by simp) rfl 0 _ rfl))
    simp only [nm, seval]
    apply VE.cons
    · exact ev_move rfl (gn rfl)
    simp only [nm, seval]
    apply VE.cons
    · exact ev_extract rfl (gn rfl) rfl rfl
    simp only [nm, seval]
    apply VE.cons
    · exact ev_extract rfl (gn rfl) rfl rfl
    simp only [nm, seval]
    apply VE.cons
    · exact ev_alloc rfl rfl (gn rfl) Try.zeroValue24
    simp only [nm, seval]
    apply VE.cons
    · exact ev_store rfl (gn rfl) rfl rfl rfl Try.sizeOf24 rfl (by simp) rfl
    simp only [nm, seval]
    apply VE.cons
    · exact ev_assign rfl (gn rfl)
    simp only [nm, seval]
    exact VE.nil _
  · kernel_rfl
  change VOk _ _ _ _ _
  refine vseq ?_
  apply vrp
  · apply VE.cons
    · exact ev_move rfl (gn rfl)
    simp only [nm, seval]
    apply VE.cons
    · refine ev_pure' (gn rfl) (fun ρ w => by simp only [VS.act, SV.c, List.map_cons, List.map_nil]; go_simp; exact rfl) (fun _ _ => rfl)
    simp only [nm, seval]
    apply VE.cons
    · exact ev_move rfl (gn rfl)
    simp only [nm, seval]
    apply VE.cons
    · first | exact Ev.skip (fun _ => rfl) | exact ev_load rfl (fun _ => rfl) rfl rfl Try.underlying24 rfl Try.sizeOf24 rfl rfl | exact ev_loadx rfl (fun _ => rfl) rfl Try.underlying24 rfl Try.sizeOf24 (by assumption) rfl
    simp only [nm, seval]
    apply VE.cons
    · first | exact Ev.skip (fun _ => rfl) | refine ev_pure' (fun _ => rfl) (fun ρ w => by simp only [VS.act, SV.c, List.map_cons, List.map_nil]; go_simp; exact rfl) (fun _ _ => rfl)
    simp only [nm, seval]
    apply VE.cons
    · first | exact Ev.skip (fun _ => rfl) | exact ev_bin rfl (fun _ => rfl) rfl rfl (fun w => he  _ _ w)
    simp only [nm, seval]
    apply VE.cons
    · refine ev_pure' (gn rfl) (fun ρ w => by simp only [VS.act, SV.c, List.map_cons, List.map_nil]; go_simp; exact rfl) (fun _ _ => rfl)
    simp only [nm, seval]
    apply VE.cons
    · exact ev_move rfl (gn rfl)
    simp only [nm, seval]
    apply VE.cons
    · first | exact Ev.skip (fun _ => rfl) | exact ev_move rfl (fun _ => rfl)
    simp only [nm, seval]
    apply VE.cons
    · first | exact Ev.skip (fun _ => rfl) | refine ev_pure' (fun _ => rfl) (fun ρ w => by simp only [VS.act, SV.c, List.map_cons, List.map_nil]; go_simp; exact rfl) (fun _ _ => rfl)
    simp only [nm, seval]
    apply VE.cons
    · first | exact Ev.skip (fun _ => rfl) | refine ev_pure' (fun _ => rfl) (fun ρ w => by simp only [VS.act, SV.c, List.map_cons, List.map_nil]; go_simp; exact rfl) (fun _ _ => rfl)
    simp only [nm, seval]
    apply VE.cons
    · first | exact Ev.skip (fun _ => rfl) | exact ev_callp [7] rfl (fun _ => rfl) rfl (en_of Try.func20 (by kernel_rfl) rfl) (fun ρ w' hs' => h3 w' (ρ 7) (sees_cells hs' (by simp) rfl 0 _ rfl))
    simp only [nm, seval]
    apply VE.cons
    · first | exact Ev.skip (fun _ => rfl) | refine ev_pure' (fun _ => rfl) (fun ρ w => by simp only [VS.act, SV.c, List.map_cons, List.map_nil]; go_simp; exact rfl) (fun _ _ => rfl)
    simp only [nm, seval]
    apply VE.cons
    · first | exact Ev.skip (fun _ => rfl) | exact ev_bin rfl (fun _ => rfl) rfl rfl (fun w => he  _ _ w)
    simp only [nm, seval]
    apply VE.cons
    · refine ev_pure' (gn rfl) (fun ρ w => by simp only [VS.act, SV.c, List.map_cons, List.map_nil]; go_simp; exact rfl) (fun _ _ => rfl)
    simp only [nm, seval]
    apply VE.cons
    · exact ev_assign rfl (gn rfl)
    simp only [nm, seval]
    exact VE.nil _
  · kernel_rfl
  change VOk _ _ _ _ _
  refine vret ?_
  refine post_ret (res1 Try.results10 (rv_tmp rfl)) ?_
  intro w' hg
  exact ⟨rfl, hg⟩
end Go.Proofs.Ytcbddldodpdikaa
