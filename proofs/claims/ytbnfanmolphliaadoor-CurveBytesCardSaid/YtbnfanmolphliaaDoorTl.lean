import Derived.Test.YtbnfanmolphliaaDoorProg
import Derived.Test.YtbnfanmolphliaaDoorVo
namespace Go.Proofs.YtbnfanmolphliaaDoor
open Go.RowKit Go.Toll
set_option maxHeartbeats 4000000
set_option maxRecDepth 100000
theorem new_even (l : Nat → Nat → Nat) (m : Nat) (w : World) (hand : ∀ (p q : Operand) (w : World), (do eqGuard .and 28 p q (.int .u64 ((l m 0) : Nat)) (.int .u64 1); binOp .and 28 (.int .u64 ((l m 0) : Nat)) (.int .u64 1) : Sem Value).run Tryd.prog w = .ok (.int .u64 0) w) :
  Calls Tryd.prog 51 #[.agg #[.int .u64 (l m 0 : Nat), .int .u64 (l m 1 : Nat), .int .u64 (l m 2 : Nat), .int .u64 (l m 3 : Nat)]] w fun e w' => e = .returned (.tuple #[.pointer none, .int .i64 1]) ∧ Gw w w' := by
  go_enter Tryd.func51, Tryd.ntmps51
  refine ve_go ?_
  simp only [List.map_cons, List.map_nil]
  refine vseq ?_
  apply vrp
  · apply VE.cons
    · exact ev_box rfl rfl (gn rfl) rfl
    simp only [nm, seval]
    apply VE.cons
    · exact ev_assign rfl (gn rfl)
    simp only [nm, seval]
    apply VE.cons
    · exact ev_assign rfl (gn rfl)
    simp only [nm, seval]
    exact VE.nil _
  · kernel_rfl
  change VOk _ _ _ _ _
  refine vseq ?_
  refine vseq ?_
  apply vrp
  · apply VE.cons
    · first | exact ev_index rfl (gn rfl) rfl rfl Tryd.underlying59 Tryd.sizeOf28 (by decide) (by decide) | exact ev_indexx rfl (gn rfl) rfl rfl Tryd.underlying59 Tryd.sizeOf28 (by decide) (by decide)
    simp only [nm, seval]
    apply VE.cons
    · first | exact ev_load1 rfl (gn rfl) rfl rfl Tryd.underlying28 rfl rfl | exact ev_loadx1 rfl (gn rfl) rfl Tryd.underlying28 rfl (by first | assumption | exact hm 0 _ rfl | exact hm 1 _ rfl | exact hm 2 _ rfl | exact hm 3 _ rfl)
    simp only [nm, seval]
    apply VE.cons
    · exact ev_bin rfl (gn rfl) rfl rfl (fun w => hand  _ _ w)
    simp only [nm, seval]
    apply VE.cons
    · refine ev_pure' (gn rfl) (fun ρ w => by simp only [VS.act, SV.c, List.map_cons, List.map_nil]; go_simp; exact rfl) (fun _ _ => rfl)
    simp only [nm, seval]
    apply VE.cons
    · exact ev_move rfl (gn rfl)
    simp only [nm, seval]
    apply VE.cons
    · first | exact Ev.skip (fun _ => rfl) | exact ev_load rfl (fun _ => rfl) rfl rfl Tryd.underlying59 rfl Tryd.sizeOf59 rfl rfl | exact ev_loadx rfl (fun _ => rfl) rfl Tryd.underlying59 rfl Tryd.sizeOf59 (by assumption) rfl
    simp only [nm, seval]
    apply VE.cons
    · first | exact Ev.skip (fun _ => rfl) | refine ev_pure' (fun _ => rfl) (fun ρ w => by simp only [VS.act, SV.c, List.map_cons, List.map_nil]; go_simp; exact rfl) (fun _ _ => rfl)
    simp only [nm, seval]
    apply VE.cons
    · first | exact Ev.skip (fun _ => rfl) | refine ev_pure' (fun _ => rfl) (fun ρ w => by simp only [VS.act, SV.c, List.map_cons, List.map_nil]; go_simp; exact rfl) (fun _ _ => rfl)
    simp only [nm, seval]
    apply VE.cons
    · refine ev_pure' (gn rfl) (fun ρ w => by simp only [VS.act, SV.c, List.map_cons, List.map_nil]; go_simp; exact rfl) (fun _ _ => rfl)
    simp only [nm, seval]
    exact VE.nil _
  · kernel_rfl
  change VOk _ _ _ _ _
  refine vcond_t rfl ?_
  refine vseq ?_
  apply vrp
  · apply VE.cons
    · exact ev_assign rfl (gn rfl)
    simp only [nm, seval]
    apply VE.cons
    · exact ev_assign rfl (gn rfl)
    simp only [nm, seval]
    exact VE.nil _
  · kernel_rfl
  change VOk _ _ _ _ _
  refine vret ?_
  refine post_ret (res2 Tryd.results51 (rv_tmp rfl) (rv_tmp rfl)) ?_
  intro w' hg
  exact ⟨rfl, hg⟩
theorem new_one (l : Nat → Nat → Nat) (m : Nat) (w : World) (hand : ∀ (p q : Operand) (w : World), (do eqGuard .and 28 p q (.int .u64 ((l m 0) : Nat)) (.int .u64 1); binOp .and 28 (.int .u64 ((l m 0) : Nat)) (.int .u64 1) : Sem Value).run Tryd.prog w = .ok (.int .u64 1) w) (hone : ∀ (p q : Operand) (w : World), (do eqGuard .eql 59 p q (.agg #[.int .u64 (l m 0 : Nat), .int .u64 (l m 1 : Nat), .int .u64 (l m 2 : Nat), .int .u64 (l m 3 : Nat)]) (.agg #[.int .u64 1, .int .u64 0, .int .u64 0, .int .u64 0]); binOp .eql 59 (.agg #[.int .u64 (l m 0 : Nat), .int .u64 (l m 1 : Nat), .int .u64 (l m 2 : Nat), .int .u64 (l m 3 : Nat)]) (.agg #[.int .u64 1, .int .u64 0, .int .u64 0, .int .u64 0]) : Sem Value).run Tryd.prog w = .ok (.bool true) w) :
  Calls Tryd.prog 51 #[.agg #[.int .u64 (l m 0 : Nat), .int .u64 (l m 1 : Nat), .int .u64 (l m 2 : Nat), .int .u64 (l m 3 : Nat)]] w fun e w' => e = .returned (.tuple #[.pointer none, .int .i64 1]) ∧ Gw w w' := by
  go_enter Tryd.func51, Tryd.ntmps51
  refine ve_go ?_
  simp only [List.map_cons, List.map_nil]
  refine vseq ?_
  apply vrp
  · apply VE.cons
    · exact ev_box rfl rfl (gn rfl) rfl
    simp only [nm, seval]
    apply VE.cons
    · exact ev_assign rfl (gn rfl)
    simp only [nm, seval]
    apply VE.cons
    · exact ev_assign rfl (gn rfl)
    simp only [nm, seval]
    exact VE.nil _
  · kernel_rfl
  change VOk _ _ _ _ _
  refine vseq ?_
  refine vseq ?_
  apply vrp
  · apply VE.cons
    · first | exact ev_index rfl (gn rfl) rfl rfl Tryd.underlying59 Tryd.sizeOf28 (by decide) (by decide) | exact ev_indexx rfl (gn rfl) rfl rfl Tryd.underlying59 Tryd.sizeOf28 (by decide) (by decide)
    simp only [nm, seval]
    apply VE.cons
    · first | exact ev_load1 rfl (gn rfl) rfl rfl Tryd.underlying28 rfl rfl | exact ev_loadx1 rfl (gn rfl) rfl Tryd.underlying28 rfl (by first | assumption | exact hm 0 _ rfl | exact hm 1 _ rfl | exact hm 2 _ rfl | exact hm 3 _ rfl)
    simp only [nm, seval]
    apply VE.cons
    · exact ev_bin rfl (gn rfl) rfl rfl (fun w => hand  _ _ w)
    simp only [nm, seval]
    apply VE.cons
    · refine ev_pure' (gn rfl) (fun ρ w => by simp only [VS.act, SV.c, List.map_cons, List.map_nil]; go_simp; exact rfl) (fun _ _ => rfl)
    simp only [nm, seval]
    apply VE.cons
    · exact ev_move rfl (gn rfl)
    simp only [nm, seval]
    apply VE.cons
    · first | exact Ev.skip (fun _ => rfl) | exact ev_load rfl (fun _ => rfl) rfl rfl Tryd.underlying59 rfl Tryd.sizeOf59 rfl rfl | exact ev_loadx rfl (fun _ => rfl) rfl Tryd.underlying59 rfl Tryd.sizeOf59 (by assumption) rfl
    simp only [nm, seval]
    apply VE.cons
    · first | exact Ev.skip (fun _ => rfl) | refine ev_pure' (fun _ => rfl) (fun ρ w => by simp only [VS.act, SV.c, List.map_cons, List.map_nil]; go_simp; exact rfl) (fun _ _ => rfl)
    simp only [nm, seval]
    apply VE.cons
    · first | exact Ev.skip (fun _ => rfl) | exact ev_bin rfl (fun _ => rfl) rfl rfl (fun w => hone  _ _ w)
    simp only [nm, seval]
    apply VE.cons
    · refine ev_pure' (gn rfl) (fun ρ w => by simp only [VS.act, SV.c, List.map_cons, List.map_nil]; go_simp; exact rfl) (fun _ _ => rfl)
    simp only [nm, seval]
    exact VE.nil _
  · kernel_rfl
  change VOk _ _ _ _ _
  refine vcond_t rfl ?_
  refine vseq ?_
  apply vrp
  · apply VE.cons
    · exact ev_assign rfl (gn rfl)
    simp only [nm, seval]
    apply VE.cons
    · exact ev_assign rfl (gn rfl)
    simp only [nm, seval]
    exact VE.nil _
  · kernel_rfl
  change VOk _ _ _ _ _
  refine vret ?_
  refine post_ret (res2 Tryd.results51 (rv_tmp rfl) (rv_tmp rfl)) ?_
  intro w' hg
  exact ⟨rfl, hg⟩
theorem new_core (l : Nat → Nat → Nat) (m x0 zr ng : Nat) (w : World) (mu s2 : Nat → Nat) (mm : Nat → Nat → Nat) (sm cy dbl : Nat → Nat) (R : Nat → Nat → Nat → Prop) (hzero : l zr 0 = 0 ∧ l zr 1 = 0 ∧ l zr 2 = 0 ∧ l zr 3 = 0)
  (hand : ∀ (p q : Operand) (w : World), (do eqGuard .and 28 p q (.int .u64 ((l m 0) : Nat)) (.int .u64 1); binOp .and 28 (.int .u64 ((l m 0) : Nat)) (.int .u64 1) : Sem Value).run Tryd.prog w = .ok (.int .u64 1) w) (hone : ∀ (p q : Operand) (w : World), (do eqGuard .eql 59 p q (.agg #[.int .u64 (l m 0 : Nat), .int .u64 (l m 1 : Nat), .int .u64 (l m 2 : Nat), .int .u64 (l m 3 : Nat)]) (.agg #[.int .u64 1, .int .u64 0, .int .u64 0, .int .u64 0]); binOp .eql 59 (.agg #[.int .u64 (l m 0 : Nat), .int .u64 (l m 1 : Nat), .int .u64 (l m 2 : Nat), .int .u64 (l m 3 : Nat)]) (.agg #[.int .u64 1, .int .u64 0, .int .u64 0, .int .u64 0]) : Sem Value).run Tryd.prog w = .ok (.bool false) w)
  (hmu : ∀ (x : Nat) (p q : Operand) (w : World), (do eqGuard .mul 28 p q (.int .u64 ((l m 0) : Nat)) (.int .u64 (x : Nat)); binOp .mul 28 (.int .u64 ((l m 0) : Nat)) (.int .u64 (x : Nat)) : Sem Value).run Tryd.prog w = .ok (.int .u64 (mu x : Nat)) w)
  (_hmu1 : ∀ (p q : Operand) (w : World), (do eqGuard .mul 28 p q (.int .u64 ((l m 0) : Nat)) (.int .u64 1); binOp .mul 28 (.int .u64 ((l m 0) : Nat)) (.int .u64 1) : Sem Value).run Tryd.prog w = .ok (.int .u64 (mu 1 : Nat)) w)
  (hs2b : ∀ (x : Nat) (p q : Operand) (w : World), (do eqGuard .sub 28 p q (.int .u64 2) (.int .u64 (x : Nat)); binOp .sub 28 (.int .u64 2) (.int .u64 (x : Nat)) : Sem Value).run Tryd.prog w = .ok (.int .u64 (s2 x : Nat)) w)
  (hmm : ∀ (x y : Nat) (p q : Operand) (w : World), (do eqGuard .mul 28 p q (.int .u64 (x : Nat)) (.int .u64 (y : Nat)); binOp .mul 28 (.int .u64 (x : Nat)) (.int .u64 (y : Nat)) : Sem Value).run Tryd.prog w = .ok (.int .u64 (mm x y : Nat)) w)
  (_hmm1 : ∀ (y : Nat) (p q : Operand) (w : World), (do eqGuard .mul 28 p q (.int .u64 1) (.int .u64 (y : Nat)); binOp .mul 28 (.int .u64 1) (.int .u64 (y : Nat)) : Sem Value).run Tryd.prog w = .ok (.int .u64 (mm 1 y : Nat)) w)
  (hng : ∀ w : World, (Op.unary .neg (.int .u64 ((mm (mm (mm (mm (mm (mm 1 (s2 (mu 1))) (s2 (mu (mm 1 (s2 (mu 1)))))) (s2 (mu (mm (mm 1 (s2 (mu 1))) (s2 (mu (mm 1 (s2 (mu 1))))))))) (s2 (mu (mm (mm (mm 1 (s2 (mu 1))) (s2 (mu (mm 1 (s2 (mu 1)))))) (s2 (mu (mm (mm 1 (s2 (mu 1))) (s2 (mu (mm 1 (s2 (mu 1)))))))))))) (s2 (mu (mm (mm (mm (mm 1 (s2 (mu 1))) (s2 (mu (mm 1 (s2 (mu 1)))))) (s2 (mu (mm (mm 1 (s2 (mu 1))) (s2 (mu (mm 1 (s2 (mu 1))))))))) (s2 (mu (mm (mm (mm 1 (s2 (mu 1))) (s2 (mu (mm 1 (s2 (mu 1)))))) (s2 (mu (mm (mm 1 (s2 (mu 1))) (s2 (mu (mm 1 (s2 (mu 1))))))))))))))) (s2 (mu (mm (mm (mm (mm (mm 1 (s2 (mu 1))) (s2 (mu (mm 1 (s2 (mu 1)))))) (s2 (mu (mm (mm 1 (s2 (mu 1))) (s2 (mu (mm 1 (s2 (mu 1))))))))) (s2 (mu (mm (mm (mm 1 (s2 (mu 1))) (s2 (mu (mm 1 (s2 (mu 1)))))) (s2 (mu (mm (mm 1 (s2 (mu 1))) (s2 (mu (mm 1 (s2 (mu 1)))))))))))) (s2 (mu (mm (mm (mm (mm 1 (s2 (mu 1))) (s2 (mu (mm 1 (s2 (mu 1)))))) (s2 (mu (mm (mm 1 (s2 (mu 1))) (s2 (mu (mm 1 (s2 (mu 1))))))))) (s2 (mu (mm (mm (mm 1 (s2 (mu 1))) (s2 (mu (mm 1 (s2 (mu 1)))))) (s2 (mu (mm (mm 1 (s2 (mu 1))) (s2 (mu (mm 1 (s2 (mu 1)))))))))))))))))) : Nat))).run Tryd.prog w = .ok (.int .u64 (ng : Nat)) w)
  (hs0 : ∀ (w' : World) (g : Nat), (∀ (j : Nat) (v : Value), [.int .u64 (l m 0 : Nat), .int .u64 (l m 1 : Nat), .int .u64 (l m 2 : Nat), .int .u64 (l m 3 : Nat)][j]? = some v → w'.cell? ⟨g, 0 + j, none⟩ = some v) → Calls Tryd.prog 59 #[.pointer (some ⟨g, 0, none⟩), .agg #[.int .u64 1, .int .u64 0, .int .u64 0, .int .u64 0], .int .u64 0] w' fun e w'' => e = .returned (.agg #[.int .u64 (l x0 0 : Nat), .int .u64 (l x0 1 : Nat), .int .u64 (l x0 2 : Nat), .int .u64 (l x0 3 : Nat)]) ∧ Gw w' w'')
  (had : ∀ i x o, i < 512 → R i x o → ∀ w', Gw w w' → Calls Tryd.prog 60 #[.agg #[.int .u64 (l x 0 : Nat), .int .u64 (l x 1 : Nat), .int .u64 (l x 2 : Nat), .int .u64 (l x 3 : Nat)], .agg #[.int .u64 (l x 0 : Nat), .int .u64 (l x 1 : Nat), .int .u64 (l x 2 : Nat), .int .u64 (l x 3 : Nat)]] w' fun e w'' => e = .returned (.tuple #[.agg #[.int .u64 (l (sm x) 0 : Nat), .int .u64 (l (sm x) 1 : Nat), .int .u64 (l (sm x) 2 : Nat), .int .u64 (l (sm x) 3 : Nat)], .int .u64 (cy x : Nat)]) ∧ Gw w' w'')
  (hsh : ∀ i x o, i < 512 → R i x o → ∀ (w' : World) (g : Nat), (∀ (j : Nat) (v : Value), [.int .u64 (l m 0 : Nat), .int .u64 (l m 1 : Nat), .int .u64 (l m 2 : Nat), .int .u64 (l m 3 : Nat)][j]? = some v → w'.cell? ⟨g, 0 + j, none⟩ = some v) → Calls Tryd.prog 59 #[.pointer (some ⟨g, 0, none⟩), .agg #[.int .u64 (l (sm x) 0 : Nat), .int .u64 (l (sm x) 1 : Nat), .int .u64 (l (sm x) 2 : Nat), .int .u64 (l (sm x) 3 : Nat)], .int .u64 (cy x : Nat)] w' fun e w'' => e = .returned (.agg #[.int .u64 (l (dbl x) 0 : Nat), .int .u64 (l (dbl x) 1 : Nat), .int .u64 (l (dbl x) 2 : Nat), .int .u64 (l (dbl x) 3 : Nat)]) ∧ Gw w' w'')
  (hR : R 0 x0 zr)
  (hs : ∀ i x o, i < 512 → i ≠ 256 → R i x o → R (i + 1) (dbl x) o)
  (hs2 : ∀ x o, R 256 x o → R 257 (dbl x) x) :
  Calls Tryd.prog 51 #[.agg #[.int .u64 (l m 0 : Nat), .int .u64 (l m 1 : Nat), .int .u64 (l m 2 : Nat), .int .u64 (l m 3 : Nat)]] w fun e w' => ∃ x o g, R 512 x o ∧ w.heap.size ≤ g ∧ w'.heap[g]? = some (.cells #[.int .u64 (l m 0 : Nat), .int .u64 (l m 1 : Nat), .int .u64 (l m 2 : Nat), .int .u64 (l m 3 : Nat), .int .u64 (ng : Nat), .int .u64 (l o 0 : Nat), .int .u64 (l o 1 : Nat), .int .u64 (l o 2 : Nat), .int .u64 (l o 3 : Nat), .int .u64 (l x 0 : Nat), .int .u64 (l x 1 : Nat), .int .u64 (l x 2 : Nat), .int .u64 (l x 3 : Nat)] 83 (0, 0)) ∧ e = .returned (.tuple #[.pointer (some ⟨g, 0, none⟩), .int .i64 0]) ∧ Gw w w' := by
  go_enter Tryd.func51, Tryd.ntmps51
  refine ve_go ?_
  simp only [List.map_cons, List.map_nil]
  refine vseq ?_
  apply vrp
  · apply VE.cons
    · exact ev_box rfl rfl (gn rfl) rfl
    simp only [nm, seval]
    apply VE.cons
    · exact ev_assign rfl (gn rfl)
    simp only [nm, seval]
    apply VE.cons
    · exact ev_assign rfl (gn rfl)
    simp only [nm, seval]
    exact VE.nil _
  · kernel_rfl
  change VOk _ _ _ _ _
  refine vseq ?_
  refine vseq ?_
  apply vrp
  · apply VE.cons
    · first | exact ev_index rfl (gn rfl) rfl rfl Tryd.underlying59 Tryd.sizeOf28 (by decide) (by decide) | exact ev_indexx rfl (gn rfl) rfl rfl Tryd.underlying59 Tryd.sizeOf28 (by decide) (by decide)
    simp only [nm, seval]
    apply VE.cons
    · first | exact ev_load1 rfl (gn rfl) rfl rfl Tryd.underlying28 rfl rfl | exact ev_loadx1 rfl (gn rfl) rfl Tryd.underlying28 rfl (by first | assumption | exact hm 0 _ rfl | exact hm 1 _ rfl | exact hm 2 _ rfl | exact hm 3 _ rfl)
    simp only [nm, seval]
    apply VE.cons
    · exact ev_bin rfl (gn rfl) rfl rfl (fun w => hand  _ _ w)
    simp only [nm, seval]
    apply VE.cons
    · refine ev_pure' (gn rfl) (fun ρ w => by simp only [VS.act, SV.c, List.map_cons, List.map_nil]; go_simp; exact rfl) (fun _ _ => rfl)
    simp only [nm, seval]
    apply VE.cons
    · exact ev_move rfl (gn rfl)
    simp only [nm, seval]
    apply VE.cons
    · first | exact Ev.skip (fun _ => rfl) | exact ev_load rfl (fun _ => rfl) rfl rfl Tryd.underlying59 rfl Tryd.sizeOf59 rfl rfl | exact ev_loadx rfl (fun _ => rfl) rfl Tryd.underlying59 rfl Tryd.sizeOf59 (by assumption) rfl
    simp only [nm, seval]
    apply VE.cons
    · first | exact Ev.skip (fun _ => rfl) | refine ev_pure' (fun _ => rfl) (fun ρ w => by simp only [VS.act, SV.c, List.map_cons, List.map_nil]; go_simp; exact rfl) (fun _ _ => rfl)
    simp only [nm, seval]
    apply VE.cons
    · first | exact Ev.skip (fun _ => rfl) | exact ev_bin rfl (fun _ => rfl) rfl rfl (fun w => hone  _ _ w)
    simp only [nm, seval]
    apply VE.cons
    · refine ev_pure' (gn rfl) (fun ρ w => by simp only [VS.act, SV.c, List.map_cons, List.map_nil]; go_simp; exact rfl) (fun _ _ => rfl)
    simp only [nm, seval]
    exact VE.nil _
  · kernel_rfl
  change VOk _ _ _ _ _
  refine vcond_f rfl ?_
  refine vskip ?_
  change VOk _ _ _ _ _
  refine vseq ?_
  apply vrp
  · apply VE.cons
    · first | exact ev_load rfl (gn rfl) rfl rfl Tryd.underlying59 rfl Tryd.sizeOf59 rfl rfl | exact ev_loadx rfl (gn rfl) rfl Tryd.underlying59 rfl Tryd.sizeOf59 (by assumption) rfl
    simp only [nm, seval]
    apply VE.cons
    · refine ev_pure' (gn rfl) (fun ρ w => by simp only [VS.act, SV.c, List.map_cons, List.map_nil]; go_simp; exact rfl) (fun _ _ => rfl)
    simp only [nm, seval]
    apply VE.cons
    · exact ev_box rfl rfl (gn rfl) rfl
    simp only [nm, seval]
    apply VE.cons
    · exact ev_assign rfl (gn rfl)
    simp only [nm, seval]
    exact VE.nil _
  · kernel_rfl
  change VOk _ _ _ _ _
  refine vseq ?_
  apply vrp
  · apply VE.cons
    · exact ev_assign rfl (gn rfl)
    simp only [nm, seval]
    exact VE.nil _
  · kernel_rfl
  change VOk _ _ _ _ _
  refine vseq ?_
  refine vseq ?_
  apply vrp
  · apply VE.cons
    · exact ev_move rfl (gn rfl)
    simp only [nm, seval]
    exact VE.nil _
  · kernel_rfl
  change VOk _ _ _ _ _
  refine vblock ?_
  refine vloop 7 ?_
  change VOk _ _ _ _ _
  refine vseq ?_
  apply vrp
  · apply VE.cons
    · refine ev_pure' (gn rfl) (fun ρ w => by simp only [VS.act, SV.c, List.map_cons, List.map_nil]; go_simp; exact rfl) (fun _ _ => rfl)
    simp only [nm, seval]
    exact VE.nil _
  · kernel_rfl
  change VOk _ _ _ _ _
  refine vseq ?_
  refine vcond_t rfl ?_
  refine vskip ?_
  change VOk _ _ _ _ _
  refine vseq ?_
  refine vblock ?_
  apply vrp
  · apply VE.cons
    · exact ev_move rfl (gn rfl)
    simp only [nm, seval]
    apply VE.cons
    · first | exact ev_index rfl (gn rfl) rfl rfl Tryd.underlying59 Tryd.sizeOf28 (by decide) (by decide) | exact ev_indexx rfl (gn rfl) rfl rfl Tryd.underlying59 Tryd.sizeOf28 (by decide) (by decide)
    simp only [nm, seval]
    apply VE.cons
    · first | exact ev_load1 rfl (gn rfl) rfl rfl Tryd.underlying28 rfl rfl | exact ev_loadx1 rfl (gn rfl) rfl Tryd.underlying28 rfl (by first | assumption | exact hm 0 _ rfl | exact hm 1 _ rfl | exact hm 2 _ rfl | exact hm 3 _ rfl)
    simp only [nm, seval]
    apply VE.cons
    · exact ev_move rfl (gn rfl)
    simp only [nm, seval]
    apply VE.cons
    · first | exact ev_bin rfl (gn rfl) rfl rfl (fun w => hmu _ _ _ w) | exact ev_bin rfl (gn rfl) rfl rfl (fun w => hmu1 _ _ w)
    simp only [nm, seval]
    apply VE.cons
    · exact ev_bin rfl (gn rfl) rfl rfl (fun w => hs2b _  _ _ w)
    simp only [nm, seval]
    apply VE.cons
    · first | exact ev_bin rfl (gn rfl) rfl rfl (fun w => hmm _ _ _ _ w) | exact ev_bin rfl (gn rfl) rfl rfl (fun w => hmm1 _ _ _ w)
    simp only [nm, seval]
    apply VE.cons
    · exact ev_assign rfl (gn rfl)
    simp only [nm, seval]
    exact VE.nil _
  · kernel_rfl
  change VOk _ _ _ _ _
  apply vrp
  · apply VE.cons
    · refine ev_pure' (gn rfl) (fun ρ w => by simp only [VS.act, SV.c, List.map_cons, List.map_nil]; go_simp; exact rfl) (fun _ _ => rfl)
    simp only [nm, seval]
    apply VE.cons
    · exact ev_move rfl (gn rfl)
    simp only [nm, seval]
    exact VE.nil _
  · kernel_rfl
  change VOk _ _ _ _ _
  refine vseq ?_
  apply vrp
  · apply VE.cons
    · refine ev_pure' (gn rfl) (fun ρ w => by simp only [VS.act, SV.c, List.map_cons, List.map_nil]; go_simp; exact rfl) (fun _ _ => rfl)
    simp only [nm, seval]
    exact VE.nil _
  · kernel_rfl
  change VOk _ _ _ _ _
  refine vseq ?_
  refine vcond_t rfl ?_
  refine vskip ?_
  change VOk _ _ _ _ _
  refine vseq ?_
  refine vblock ?_
  apply vrp
  · apply VE.cons
    · exact ev_move rfl (gn rfl)
    simp only [nm, seval]
    apply VE.cons
    · first | exact ev_index rfl (gn rfl) rfl rfl Tryd.underlying59 Tryd.sizeOf28 (by decide) (by decide) | exact ev_indexx rfl (gn rfl) rfl rfl Tryd.underlying59 Tryd.sizeOf28 (by decide) (by decide)
    simp only [nm, seval]
    apply VE.cons
    · first | exact ev_load1 rfl (gn rfl) rfl rfl Tryd.underlying28 rfl rfl | exact ev_loadx1 rfl (gn rfl) rfl Tryd.underlying28 rfl (by first | assumption | exact hm 0 _ rfl | exact hm 1 _ rfl | exact hm 2 _ rfl | exact hm 3 _ rfl)
    simp only [nm, seval]
    apply VE.cons
    · exact ev_move rfl (gn rfl)
    simp only [nm, seval]
    apply VE.cons
    · first | exact ev_bin rfl (gn rfl) rfl rfl (fun w => hmu _ _ _ w) | exact ev_bin rfl (gn rfl) rfl rfl (fun w => hmu1 _ _ w)
    simp only [nm, seval]
    apply VE.cons
    · exact ev_bin rfl (gn rfl) rfl rfl (fun w => hs2b _  _ _ w)
    simp only [nm, seval]
    apply VE.cons
    · first | exact ev_bin rfl (gn rfl) rfl rfl (fun w => hmm _ _ _ _ w) | exact ev_bin rfl (gn rfl) rfl rfl (fun w => hmm1 _ _ _ w)
    simp only [nm, seval]
    apply VE.cons
    · exact ev_assign rfl (gn rfl)
    simp only [nm, seval]
    exact VE.nil _
  · kernel_rfl
  change VOk _ _ _ _ _
  apply vrp
  · apply VE.cons
    · refine ev_pure' (gn rfl) (fun ρ w => by simp only [VS.act, SV.c, List.map_cons, List.map_nil]; go_simp; exact rfl) (fun _ _ => rfl)
    simp only [nm, seval]
    apply VE.cons
    · exact ev_move rfl (gn rfl)
    simp only [nm, seval]
    exact VE.nil _
  · kernel_rfl
  change VOk _ _ _ _ _
  refine vseq ?_
  apply vrp
  · apply VE.cons
    · refine ev_pure' (gn rfl) (fun ρ w => by simp only [VS.act, SV.c, List.map_cons, List.map_nil]; go_simp; exact rfl) (fun _ _ => rfl)
    simp only [nm, seval]
    exact VE.nil _
  · kernel_rfl
  change VOk _ _ _ _ _
  refine vseq ?_
  refine vcond_t rfl ?_
  refine vskip ?_
  change VOk _ _ _ _ _
  refine vseq ?_
  refine vblock ?_
  apply vrp
  · apply VE.cons
    · exact ev_move rfl (gn rfl)
    simp only [nm, seval]
    apply VE.cons
    · first | exact ev_index rfl (gn rfl) rfl rfl Tryd.underlying59 Tryd.sizeOf28 (by decide) (by decide) | exact ev_indexx rfl (gn rfl) rfl rfl Tryd.underlying59 Tryd.sizeOf28 (by decide) (by decide)
    simp only [nm, seval]
    apply VE.cons
    · first | exact ev_load1 rfl (gn rfl) rfl rfl Tryd.underlying28 rfl rfl | exact ev_loadx1 rfl (gn rfl) rfl Tryd.underlying28 rfl (by first | assumption | exact hm 0 _ rfl | exact hm 1 _ rfl | exact hm 2 _ rfl | exact hm 3 _ rfl)
    simp only [nm, seval]
    apply VE.cons
    · exact ev_move rfl (gn rfl)
    simp only [nm, seval]
    apply VE.cons
    · first | exact ev_bin rfl (gn rfl) rfl rfl (fun w => hmu _ _ _ w) | exact ev_bin rfl (gn rfl) rfl rfl (fun w => hmu1 _ _ w)
    simp only [nm, seval]
    apply VE.cons
    · exact ev_bin rfl (gn rfl) rfl rfl (fun w => hs2b _  _ _ w)
    simp only [nm, seval]
    apply VE.cons
    · first | exact ev_bin rfl (gn rfl) rfl rfl (fun w => hmm _ _ _ _ w) | exact ev_bin rfl (gn rfl) rfl rfl (fun w => hmm1 _ _ _ w)
    simp only [nm, seval]
    apply VE.cons
    · exact ev_assign rfl (gn rfl)
    simp only [nm, seval]
    exact VE.nil _
  · kernel_rfl
  change VOk _ _ _ _ _
  apply vrp
  · apply VE.cons
    · refine ev_pure' (gn rfl) (fun ρ w => by simp only [VS.act, SV.c, List.map_cons, List.map_nil]; go_simp; exact rfl) (fun _ _ => rfl)
    simp only [nm, seval]
    apply VE.cons
    · exact ev_move rfl (gn rfl)
    simp only [nm, seval]
    exact VE.nil _
  · kernel_rfl
  change VOk _ _ _ _ _
  refine vseq ?_
  apply vrp
  · apply VE.cons
    · refine ev_pure' (gn rfl) (fun ρ w => by simp only [VS.act, SV.c, List.map_cons, List.map_nil]; go_simp; exact rfl) (fun _ _ => rfl)
    simp only [nm, seval]
    exact VE.nil _
  · kernel_rfl
  change VOk _ _ _ _ _
  refine vseq ?_
  refine vcond_t rfl ?_
  refine vskip ?_
  change VOk _ _ _ _ _
  refine vseq ?_
  refine vblock ?_
  apply vrp
  · apply VE.cons
    · exact ev_move rfl (gn rfl)
    simp only [nm, seval]
    apply VE.cons
    · first | exact ev_index rfl (gn rfl) rfl rfl Tryd.underlying59 Tryd.sizeOf28 (by decide) (by decide) | exact ev_indexx rfl (gn rfl) rfl rfl Tryd.underlying59 Tryd.sizeOf28 (by decide) (by decide)
    simp only [nm, seval]
    apply VE.cons
    · first | exact ev_load1 rfl (gn rfl) rfl rfl Tryd.underlying28 rfl rfl | exact ev_loadx1 rfl (gn rfl) rfl Tryd.underlying28 rfl (by first | assumption | exact hm 0 _ rfl | exact hm 1 _ rfl | exact hm 2 _ rfl | exact hm 3 _ rfl)
    simp only [nm, seval]
    apply VE.cons
    · exact ev_move rfl (gn rfl)
    simp only [nm, seval]
    apply VE.cons
    · first | exact ev_bin rfl (gn rfl) rfl rfl (fun w => hmu _ _ _ w) | exact ev_bin rfl (gn rfl) rfl rfl (fun w => hmu1 _ _ w)
    simp only [nm, seval]
    apply VE.cons
    · exact ev_bin rfl (gn rfl) rfl rfl (fun w => hs2b _  _ _ w)
    simp only [nm, seval]
    apply VE.cons
    · first | exact ev_bin rfl (gn rfl) rfl rfl (fun w => hmm _ _ _ _ w) | exact ev_bin rfl (gn rfl) rfl rfl (fun w => hmm1 _ _ _ w)
    simp only [nm, seval]
    apply VE.cons
    · exact ev_assign rfl (gn rfl)
    simp only [nm, seval]
    exact VE.nil _
  · kernel_rfl
  change VOk _ _ _ _ _
  apply vrp
  · apply VE.cons
    · refine ev_pure' (gn rfl) (fun ρ w => by simp only [VS.act, SV.c, List.map_cons, List.map_nil]; go_simp; exact rfl) (fun _ _ => rfl)
    simp only [nm, seval]
    apply VE.cons
    · exact ev_move rfl (gn rfl)
    simp only [nm, seval]
    exact VE.nil _
  · kernel_rfl
  change VOk _ _ _ _ _
  refine vseq ?_
  apply vrp
  · apply VE.cons
    · refine ev_pure' (gn rfl) (fun ρ w => by simp only [VS.act, SV.c, List.map_cons, List.map_nil]; go_simp; exact rfl) (fun _ _ => rfl)
    simp only [nm, seval]
    exact VE.nil _
  · kernel_rfl
  change VOk _ _ _ _ _
  refine vseq ?_
  refine vcond_t rfl ?_
  refine vskip ?_
  change VOk _ _ _ _ _
  refine vseq ?_
  refine vblock ?_
  apply vrp
  · apply VE.cons
    · exact ev_move rfl (gn rfl)
    simp only [nm, seval]
    apply VE.cons
    · first | exact ev_index rfl (gn rfl) rfl rfl Tryd.underlying59 Tryd.sizeOf28 (by decide) (by decide) | exact ev_indexx rfl (gn rfl) rfl rfl Tryd.underlying59 Tryd.sizeOf28 (by decide) (by decide)
    simp only [nm, seval]
    apply VE.cons
    · first | exact ev_load1 rfl (gn rfl) rfl rfl Tryd.underlying28 rfl rfl | exact ev_loadx1 rfl (gn rfl) rfl Tryd.underlying28 rfl (by first | assumption | exact hm 0 _ rfl | exact hm 1 _ rfl | exact hm 2 _ rfl | exact hm 3 _ rfl)
    simp only [nm, seval]
    apply VE.cons
    · exact ev_move rfl (gn rfl)
    simp only [nm, seval]
    apply VE.cons
    · first | exact ev_bin rfl (gn rfl) rfl rfl (fun w => hmu _ _ _ w) | exact ev_bin rfl (gn rfl) rfl rfl (fun w => hmu1 _ _ w)
    simp only [nm, seval]
    apply VE.cons
    · exact ev_bin rfl (gn rfl) rfl rfl (fun w => hs2b _  _ _ w)
    simp only [nm, seval]
    apply VE.cons
    · first | exact ev_bin rfl (gn rfl) rfl rfl (fun w => hmm _ _ _ _ w) | exact ev_bin rfl (gn rfl) rfl rfl (fun w => hmm1 _ _ _ w)
    simp only [nm, seval]
    apply VE.cons
    · exact ev_assign rfl (gn rfl)
    simp only [nm, seval]
    exact VE.nil _
  · kernel_rfl
  change VOk _ _ _ _ _
  apply vrp
  · apply VE.cons
    · refine ev_pure' (gn rfl) (fun ρ w => by simp only [VS.act, SV.c, List.map_cons, List.map_nil]; go_simp; exact rfl) (fun _ _ => rfl)
    simp only [nm, seval]
    apply VE.cons
    · exact ev_move rfl (gn rfl)
    simp only [nm, seval]
    exact VE.nil _
  · kernel_rfl
  change VOk _ _ _ _ _
  refine vseq ?_
  apply vrp
  · apply VE.cons
    · refine ev_pure' (gn rfl) (fun ρ w => by simp only [VS.act, SV.c, List.map_cons, List.map_nil]; go_simp; exact rfl) (fun _ _ => rfl)
    simp only [nm, seval]
    exact VE.nil _
  · kernel_rfl
  change VOk _ _ _ _ _
  refine vseq ?_
  refine vcond_t rfl ?_
  refine vskip ?_
  change VOk _ _ _ _ _
  refine vseq ?_
  refine vblock ?_
  apply vrp
  · apply VE.cons
    · exact ev_move rfl (gn rfl)
    simp only [nm, seval]
    apply VE.cons
    · first | exact ev_index rfl (gn rfl) rfl rfl Tryd.underlying59 Tryd.sizeOf28 (by decide) (by decide) | exact ev_indexx rfl (gn rfl) rfl rfl Tryd.underlying59 Tryd.sizeOf28 (by decide) (by decide)
    simp only [nm, seval]
    apply VE.cons
    · first | exact ev_load1 rfl (gn rfl) rfl rfl Tryd.underlying28 rfl rfl | exact ev_loadx1 rfl (gn rfl) rfl Tryd.underlying28 rfl (by first | assumption | exact hm 0 _ rfl | exact hm 1 _ rfl | exact hm 2 _ rfl | exact hm 3 _ rfl)
    simp only [nm, seval]
    apply VE.cons
    · exact ev_move rfl (gn rfl)
    simp only [nm, seval]
    apply VE.cons
    · first | exact ev_bin rfl (gn rfl) rfl rfl (fun w => hmu _ _ _ w) | exact ev_bin rfl (gn rfl) rfl rfl (fun w => hmu1 _ _ w)
    simp only [nm, seval]
    apply VE.cons
    · exact ev_bin rfl (gn rfl) rfl rfl (fun w => hs2b _  _ _ w)
    simp only [nm, seval]
    apply VE.cons
    · first | exact ev_bin rfl (gn rfl) rfl rfl (fun w => hmm _ _ _ _ w) | exact ev_bin rfl (gn rfl) rfl rfl (fun w => hmm1 _ _ _ w)
    simp only [nm, seval]
    apply VE.cons
    · exact ev_assign rfl (gn rfl)
    simp only [nm, seval]
    exact VE.nil _
  · kernel_rfl
  change VOk _ _ _ _ _
  apply vrp
  · apply VE.cons
    · refine ev_pure' (gn rfl) (fun ρ w => by simp only [VS.act, SV.c, List.map_cons, List.map_nil]; go_simp; exact rfl) (fun _ _ => rfl)
    simp only [nm, seval]
    apply VE.cons
    · exact ev_move rfl (gn rfl)
    simp only [nm, seval]
    exact VE.nil _
  · kernel_rfl
  change VOk _ _ _ _ _
  refine vseq ?_
  apply vrp
  · apply VE.cons
    · refine ev_pure' (gn rfl) (fun ρ w => by simp only [VS.act, SV.c, List.map_cons, List.map_nil]; go_simp; exact rfl) (fun _ _ => rfl)
    simp only [nm, seval]
    exact VE.nil _
  · kernel_rfl
  change VOk _ _ _ _ _
  refine vseq ?_
  refine vcond_f rfl ?_
  refine vexit ?_
  change VOk _ _ _ _ _
  refine vseq ?_
  apply vrp
  · apply VE.cons
    · exact ev_move rfl (gn rfl)
    simp only [nm, seval]
    apply VE.cons
    · exact ev_move rfl (gn rfl)
    simp only [nm, seval]
    apply VE.cons
    · exact ev_un rfl (gn rfl) rfl (fun w => hng w)
    simp only [nm, seval]
    apply VE.cons
    · first | exact ev_nil rfl (gn rfl) rfl | exact ev_nilx rfl (gn rfl) rfl
    simp only [nm, seval]
    apply VE.cons
    · first | exact ev_field rfl (gn rfl) rfl Tryd.underlying83 rfl Tryd.sizeOf28 | exact ev_fieldx rfl (gn rfl) rfl Tryd.underlying83 rfl Tryd.sizeOf28
    simp only [nm, seval]
    apply VE.cons
    · exact ev_store rfl (gn rfl) rfl rfl rfl Tryd.sizeOf28 rfl (by simp) rfl
    simp only [nm, seval]
    exact VE.nil _
  · kernel_rfl
  change VOk _ _ _ _ _
  refine vseq ?_
  apply vrp
  · apply VE.cons
    · exact ev_move rfl (gn rfl)
    simp only [nm, seval]
    apply VE.cons
    · refine ev_pure' (gn rfl) (fun ρ w => by simp only [VS.act, SV.c, List.map_cons, List.map_nil]; go_simp; exact rfl) (fun _ _ => rfl)
    simp only [nm, seval]
    apply VE.cons
    · exact ev_callp [21] rfl (gn rfl) rfl (en_of Tryd.func59 (by kernel_rfl) rfl) (fun ρ w' hs' => hs0 w' (ρ 21) (sees_cells hs' (by simp) rfl 0 _ rfl))
    simp only [nm, seval]
    apply VE.cons
    · exact ev_alloc rfl rfl (gn rfl) Tryd.zeroValue59
    simp only [nm, seval]
    apply VE.cons
    · exact ev_store rfl (gn rfl) rfl rfl rfl Tryd.sizeOf59 rfl (by simp) rfl
    simp only [nm, seval]
    exact VE.nil _
  · kernel_rfl
  change VOk _ _ _ _ _
  refine vseq ?_
  refine vseq ?_
  apply vrp
  · apply VE.cons
    · exact ev_move rfl (gn rfl)
    simp only [nm, seval]
    exact VE.nil _
  · kernel_rfl
  change VOk _ _ _ _ _
  refine vforget (fun i => i == 0 || i == 1 || i == 2 || i == 3 || i == 4 || i == 6 || i == 40) 999 fun f0 => ?_
  refine vblock ?_
  refine vloop_inv (fun n s => ∃ (f : Nat → Value) (i x o : Nat), n + i = 512 ∧ R i x o ∧ s.fr = [.v (.agg #[.int .u64 (l m 0 : Nat), .int .u64 (l m 1 : Nat), .int .u64 (l m 2 : Nat), .int .u64 (l m 3 : Nat)]), .p 1 0, .v (.pointer none), .v (.int .i64 0), .p 21 0, .v (f 5), .p 6 0, .v (f 7), .v (f 8), .v (f 9), .v (f 10), .v (f 11), .v (f 12), .v (f 13), .v (f 14), .v (f 15), .v (f 16), .v (f 17), .v (f 18), .v (f 19), .v (f 20), .v (f 21), .v (f 22), .v (f 23), .v (f 24), .v (f 25), .v (f 26), .v (f 27), .v (f 28), .v (f 29), .v (f 30), .v (f 31), .v (f 32), .v (f 33), .v (f 34), .v (f 35), .v (f 36), .v (f 37), .v (f 38), .v (f 39), .v (.int .i64 (i : Nat)), .v (f 41), .v (f 42), .v (f 43), .v (f 44), .v (f 45), .v (f 46), .v (f 47), .v (f 48), .v (f 49), .v (f 50), .v (f 51), .v (f 52), .v (f 53), .v (f 54), .v (f 55), .v (f 56), .v (f 57), .v (f 58), .v (f 59), .v (f 60), .v (f 61), .v (f 62), .v (f 63), .v (f 64)] ∧ s.mem = memOf [(6, ([.v (.int .u64 (l x 0 : Nat)), .v (.int .u64 (l x 1 : Nat)), .v (.int .u64 (l x 2 : Nat)), .v (.int .u64 (l x 3 : Nat))], 59)), (21, ([.v (.int .u64 (l m 0 : Nat)), .v (.int .u64 (l m 1 : Nat)), .v (.int .u64 (l m 2 : Nat)), .v (.int .u64 (l m 3 : Nat)), .v (.int .u64 (ng : Nat)), .v (.int .u64 (l o 0 : Nat)), .v (.int .u64 (l o 1 : Nat)), .v (.int .u64 (l o 2 : Nat)), .v (.int .u64 (l o 3 : Nat)), .v (.int .u64 0), .v (.int .u64 0), .v (.int .u64 0), .v (.int .u64 0)], 83)), (1, ([.v (.int .u64 (l m 0 : Nat)), .v (.int .u64 (l m 1 : Nat)), .v (.int .u64 (l m 2 : Nat)), .v (.int .u64 (l m 3 : Nat))], 59))]) ?_ 512 ?_
  rotate_left
  · exact ⟨f0, 0, x0, zr, rfl, hR, rfl, by simp only [hzero]; exact memOf_skip rfl⟩
  rintro n ⟨fr, mm'⟩ ⟨f, i, x, o, hn, hRn, hfr, hmm'⟩
  simp only at hfr hmm'
  subst hfr hmm'
  by_cases hlt : i < 512
  · have hdec : decide ((i : Int) < 512) = true := decide_eq_true (by omega)
    have hadd : IntKind.i64.wrap ((i : Int) + 1) = ((i + 1 : Nat) : Int) := by rw [i64w (by omega) (by omega)]; omega
    refine vweak (fun i => i == 0 || i == 1 || i == 2 || i == 3 || i == 4 || i == 6 || i == 40) 8 ?_
    by_cases h256 : i = 256
    · have hdq : decide ((i : Int) = 256) = true := decide_eq_true (by omega)
      refine vseq ?_
      apply vrp
      · apply VE.cons
        · exact ev_lss rfl (gn rfl) rfl rfl hdec
        simp only [nm, seval]
        exact VE.nil _
      · kernel_rfl
      change VOk _ _ _ _ _
      refine vseq ?_
      refine vcond_t rfl ?_
      refine vskip ?_
      change VOk _ _ _ _ _
      refine vseq ?_
      refine vblock ?_
      refine vseq ?_
      apply vrp
      · apply VE.cons
        · exact ev_move rfl (gn rfl)
        simp only [nm, seval]
        apply VE.cons
        · exact ev_assign rfl (gn rfl)
        simp only [nm, seval]
        exact VE.nil _
      · kernel_rfl
      change VOk _ _ _ _ _
      refine vseq ?_
      refine vseq ?_
      apply vrp
      · apply VE.cons
        · exact ev_move rfl (gn rfl)
        simp only [nm, seval]
        apply VE.cons
        · exact ev_eql rfl (gn rfl) rfl rfl hdq
        simp only [nm, seval]
        exact VE.nil _
      · kernel_rfl
      change VOk _ _ _ _ _
      refine vcond_t rfl ?_
      apply vrp
      · apply VE.cons
        · exact ev_move rfl (gn rfl)
        simp only [nm, seval]
        apply VE.cons
        · first | exact ev_load rfl (gn rfl) rfl rfl Tryd.underlying59 rfl Tryd.sizeOf59 rfl rfl | exact ev_loadx rfl (gn rfl) rfl Tryd.underlying59 rfl Tryd.sizeOf59 (by assumption) rfl
        simp only [nm, seval]
        apply VE.cons
        · first | exact ev_nil rfl (gn rfl) rfl | exact ev_nilx rfl (gn rfl) rfl
        simp only [nm, seval]
        apply VE.cons
        · first | exact ev_field rfl (gn rfl) rfl Tryd.underlying83 rfl Tryd.sizeOf59 | exact ev_fieldx rfl (gn rfl) rfl Tryd.underlying83 rfl Tryd.sizeOf59
        simp only [nm, seval]
        apply VE.cons
        · exact ev_store rfl (gn rfl) rfl rfl rfl Tryd.sizeOf59 rfl (by simp) rfl
        simp only [nm, seval]
        exact VE.nil _
      · kernel_rfl
      change VOk _ _ _ _ _
      refine vseq ?_
      apply vrp
      · apply VE.cons
        · first | exact ev_load rfl (gn rfl) rfl rfl Tryd.underlying59 rfl Tryd.sizeOf59 rfl rfl | exact ev_loadx rfl (gn rfl) rfl Tryd.underlying59 rfl Tryd.sizeOf59 (by assumption) rfl
        simp only [nm, seval]
        apply VE.cons
        · first | exact ev_load rfl (gn rfl) rfl rfl Tryd.underlying59 rfl Tryd.sizeOf59 rfl rfl | exact ev_loadx rfl (gn rfl) rfl Tryd.underlying59 rfl Tryd.sizeOf59 (by assumption) rfl
        simp only [nm, seval]
        apply VE.cons
        · exact ev_call rfl (gn rfl) rfl (en_of Tryd.func60 (by kernel_rfl) rfl) (had _ _ _ hlt hRn)
        simp only [nm, seval]
        apply VE.cons
        · exact ev_move rfl (gn rfl)
        simp only [nm, seval]
        apply VE.cons
        · exact ev_extract rfl (gn rfl) rfl rfl
        simp only [nm, seval]
        apply VE.cons
        · exact ev_extract rfl (gn rfl) rfl rfl
        simp only [nm, seval]
        apply VE.cons
        · exact ev_alloc rfl rfl (gn rfl) Tryd.zeroValue59
        simp only [nm, seval]
        apply VE.cons
        · exact ev_store rfl (gn rfl) rfl rfl rfl Tryd.sizeOf59 rfl (by simp) rfl
        simp only [nm, seval]
        apply VE.cons
        · exact ev_assign rfl (gn rfl)
        simp only [nm, seval]
        exact VE.nil _
      · kernel_rfl
      change VOk _ _ _ _ _
      apply vrp
      · apply VE.cons
        · exact ev_move rfl (gn rfl)
        simp only [nm, seval]
        apply VE.cons
        · first | exact ev_load rfl (gn rfl) rfl rfl Tryd.underlying59 rfl Tryd.sizeOf59 rfl rfl | exact ev_loadx rfl (gn rfl) rfl Tryd.underlying59 rfl Tryd.sizeOf59 (by assumption) rfl
        simp only [nm, seval]
        apply VE.cons
        · exact ev_move rfl (gn rfl)
        simp only [nm, seval]
        apply VE.cons
        · exact ev_callp [21] rfl (gn rfl) rfl (en_of Tryd.func59 (by kernel_rfl) rfl) (fun ρ w' hs' => hsh _ _ _ hlt hRn w' (ρ 21) (sees_cells hs' (by simp) rfl 0 _ rfl))
        simp only [nm, seval]
        apply VE.cons
        · exact ev_store rfl (gn rfl) rfl rfl rfl Tryd.sizeOf59 rfl (by simp) rfl
        simp only [nm, seval]
        exact VE.nil _
      · kernel_rfl
      change VOk _ _ _ _ _
      apply vrp
      · apply VE.cons
        · exact ev_add rfl (gn rfl) rfl rfl hadd
        simp only [nm, seval]
        apply VE.cons
        · exact ev_move rfl (gn rfl)
        simp only [nm, seval]
        exact VE.nil _
      · kernel_rfl
      intro f'
      subst h256
      exact ⟨n - 1, by omega, f', _, _, _, by omega, hs2 _ _ hRn, rfl, memOf_drop rfl⟩
    · have hdq : decide ((i : Int) = 256) = false := decide_eq_false (by omega)
      refine vseq ?_
      apply vrp
      · apply VE.cons
        · exact ev_lss rfl (gn rfl) rfl rfl hdec
        simp only [nm, seval]
        exact VE.nil _
      · kernel_rfl
      change VOk _ _ _ _ _
      refine vseq ?_
      refine vcond_t rfl ?_
      refine vskip ?_
      change VOk _ _ _ _ _
      refine vseq ?_
      refine vblock ?_
      refine vseq ?_
      apply vrp
      · apply VE.cons
        · exact ev_move rfl (gn rfl)
        simp only [nm, seval]
        apply VE.cons
        · exact ev_assign rfl (gn rfl)
        simp only [nm, seval]
        exact VE.nil _
      · kernel_rfl
      change VOk _ _ _ _ _
      refine vseq ?_
      refine vseq ?_
      apply vrp
      · apply VE.cons
        · exact ev_move rfl (gn rfl)
        simp only [nm, seval]
        apply VE.cons
        · exact ev_eql rfl (gn rfl) rfl rfl hdq
        simp only [nm, seval]
        exact VE.nil _
      · kernel_rfl
      change VOk _ _ _ _ _
      refine vcond_f rfl ?_
      refine vskip ?_
      change VOk _ _ _ _ _
      refine vseq ?_
      apply vrp
      · apply VE.cons
        · first | exact ev_load rfl (gn rfl) rfl rfl Tryd.underlying59 rfl Tryd.sizeOf59 rfl rfl | exact ev_loadx rfl (gn rfl) rfl Tryd.underlying59 rfl Tryd.sizeOf59 (by assumption) rfl
        simp only [nm, seval]
        apply VE.cons
        · first | exact ev_load rfl (gn rfl) rfl rfl Tryd.underlying59 rfl Tryd.sizeOf59 rfl rfl | exact ev_loadx rfl (gn rfl) rfl Tryd.underlying59 rfl Tryd.sizeOf59 (by assumption) rfl
        simp only [nm, seval]
        apply VE.cons
        · exact ev_call rfl (gn rfl) rfl (en_of Tryd.func60 (by kernel_rfl) rfl) (had _ _ _ hlt hRn)
        simp only [nm, seval]
        apply VE.cons
        · exact ev_move rfl (gn rfl)
        simp only [nm, seval]
        apply VE.cons
        · exact ev_extract rfl (gn rfl) rfl rfl
        simp only [nm, seval]
        apply VE.cons
        · exact ev_extract rfl (gn rfl) rfl rfl
        simp only [nm, seval]
        apply VE.cons
        · exact ev_alloc rfl rfl (gn rfl) Tryd.zeroValue59
        simp only [nm, seval]
        apply VE.cons
        · exact ev_store rfl (gn rfl) rfl rfl rfl Tryd.sizeOf59 rfl (by simp) rfl
        simp only [nm, seval]
        apply VE.cons
        · exact ev_assign rfl (gn rfl)
        simp only [nm, seval]
        exact VE.nil _
      · kernel_rfl
      change VOk _ _ _ _ _
      apply vrp
      · apply VE.cons
        · exact ev_move rfl (gn rfl)
        simp only [nm, seval]
        apply VE.cons
        · first | exact ev_load rfl (gn rfl) rfl rfl Tryd.underlying59 rfl Tryd.sizeOf59 rfl rfl | exact ev_loadx rfl (gn rfl) rfl Tryd.underlying59 rfl Tryd.sizeOf59 (by assumption) rfl
        simp only [nm, seval]
        apply VE.cons
        · exact ev_move rfl (gn rfl)
        simp only [nm, seval]
        apply VE.cons
        · exact ev_callp [21] rfl (gn rfl) rfl (en_of Tryd.func59 (by kernel_rfl) rfl) (fun ρ w' hs' => hsh _ _ _ hlt hRn w' (ρ 21) (sees_cells hs' (by simp) rfl 0 _ rfl))
        simp only [nm, seval]
        apply VE.cons
        · exact ev_store rfl (gn rfl) rfl rfl rfl Tryd.sizeOf59 rfl (by simp) rfl
        simp only [nm, seval]
        exact VE.nil _
      · kernel_rfl
      change VOk _ _ _ _ _
      apply vrp
      · apply VE.cons
        · exact ev_add rfl (gn rfl) rfl rfl hadd
        simp only [nm, seval]
        apply VE.cons
        · exact ev_move rfl (gn rfl)
        simp only [nm, seval]
        exact VE.nil _
      · kernel_rfl
      intro f'
      exact ⟨n - 1, by omega, f', _, _, _, by omega, hs _ _ _ hlt h256 hRn, rfl, memOf_drop rfl⟩
  · obtain rfl : i = 512 := by omega
    refine vseq ?_
    apply vrp
    · apply VE.cons
      · exact ev_lss (p := false) rfl (gn rfl) rfl rfl (by decide)
      simp only [nm, seval]
      exact VE.nil _
    · kernel_rfl
    change VOk _ _ _ _ _
    refine vseq ?_
    refine vcond_f rfl ?_
    refine vexit ?_
    change VOk _ _ _ _ _
    change VOk _ _ _ _ _
    refine vseq ?_
    apply vrp
    · apply VE.cons
      · exact ev_move rfl (gn rfl)
      simp only [nm, seval]
      apply VE.cons
      · first | exact ev_load rfl (gn rfl) rfl rfl Tryd.underlying59 rfl Tryd.sizeOf59 rfl rfl | exact ev_loadx rfl (gn rfl) rfl Tryd.underlying59 rfl Tryd.sizeOf59 (by assumption) rfl
      simp only [nm, seval]
      apply VE.cons
      · first | exact ev_nil rfl (gn rfl) rfl | exact ev_nilx rfl (gn rfl) rfl
      simp only [nm, seval]
      apply VE.cons
      · first | exact ev_field rfl (gn rfl) rfl Tryd.underlying83 rfl Tryd.sizeOf59 | exact ev_fieldx rfl (gn rfl) rfl Tryd.underlying83 rfl Tryd.sizeOf59
      simp only [nm, seval]
      apply VE.cons
      · exact ev_store rfl (gn rfl) rfl rfl rfl Tryd.sizeOf59 rfl (by simp) rfl
      simp only [nm, seval]
      exact VE.nil _
    · kernel_rfl
    change VOk _ _ _ _ _
    refine vseq ?_
    apply vrp
    · apply VE.cons
      · exact ev_move rfl (gn rfl)
      simp only [nm, seval]
      apply VE.cons
      · exact ev_assign rfl (gn rfl)
      simp only [nm, seval]
      apply VE.cons
      · exact ev_assign rfl (gn rfl)
      simp only [nm, seval]
      exact VE.nil _
    · kernel_rfl
    change VOk _ _ _ _ _
    refine vret ?_
    refine post_newp rfl rfl rfl rfl rfl ?_
    intro g w' h1 h2 h3
    exact ⟨_, _, _, hRn, h1, h2, rfl, h3⟩
end Go.Proofs.YtbnfanmolphliaaDoor
