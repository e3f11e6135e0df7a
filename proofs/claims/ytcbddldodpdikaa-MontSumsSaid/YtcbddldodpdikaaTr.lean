import Derived.Test.YtcbddldodpdikaaProg
import Derived.Test.YtcbddldodpdikaaVo
namespace Go.Proofs.Ytcbddldodpdikaa
open Go.RowKit Go.Toll
set_option maxHeartbeats 4000000
set_option maxRecDepth 100000
theorem law_MontSums_bad (l : Nat → Nat → Nat) (m x y : Nat) (hz : ∀ (p q : Operand) (w : World), (do eqGuard .neq 24 p q (.agg #[.int .u64 0, .int .u64 0, .int .u64 0, .int .u64 0]) (.agg #[.int .u64 0, .int .u64 0, .int .u64 0, .int .u64 0]); binOp .neq 24 (.agg #[.int .u64 0, .int .u64 0, .int .u64 0, .int .u64 0]) (.agg #[.int .u64 0, .int .u64 0, .int .u64 0, .int .u64 0]) : Sem Value).run Try.prog w = .ok (.bool false) w) (w : World)
  (hsev : ∀ w', Gw w w' → Calls Try.prog 10 #[] w' fun e w'' => e = .returned (.bool true) ∧ Gw w' w'')
  (hrf : ∀ w', Gw w w' → Calls Try.prog 11 #[.agg #[.int .u64 (l m 0 : Nat), .int .u64 (l m 1 : Nat), .int .u64 (l m 2 : Nat), .int .u64 (l m 3 : Nat)]] w' fun e w'' => e = .returned (.bool false) ∧ Gw w' w'')
  (hnil : ∀ w', Gw w w' → Calls Try.prog 9 #[.agg #[.int .u64 (l m 0 : Nat), .int .u64 (l m 1 : Nat), .int .u64 (l m 2 : Nat), .int .u64 (l m 3 : Nat)]] w' fun e w'' => e = .returned (.tuple #[.pointer none, .int .i64 1]) ∧ Gw w' w'')
  (hnone : ∀ w', Gw w w' → Calls Try.prog 16 #[] w' fun e w'' => e = .returned (.pointer none) ∧ Gw w' w'')
  (hna : ∀ w', Gw w w' → Calls Try.prog 17 #[.pointer none, .agg #[.int .u64 (l x 0 : Nat), .int .u64 (l x 1 : Nat), .int .u64 (l x 2 : Nat), .int .u64 (l x 3 : Nat)], .agg #[.int .u64 (l y 0 : Nat), .int .u64 (l y 1 : Nat), .int .u64 (l y 2 : Nat), .int .u64 (l y 3 : Nat)]] w' fun e w'' => e = .returned (.agg #[.int .u64 0, .int .u64 0, .int .u64 0, .int .u64 0]) ∧ Gw w' w'')
  (hnr : ∀ w', Gw w w' → Calls Try.prog 14 #[.pointer none, .agg #[.int .u64 (l x 0 : Nat), .int .u64 (l x 1 : Nat), .int .u64 (l x 2 : Nat), .int .u64 (l x 3 : Nat)]] w' fun e w'' => e = .returned (.agg #[.int .u64 0, .int .u64 0, .int .u64 0, .int .u64 0]) ∧ Gw w' w'')
  (_e24 : ∀ (x : Nat) (p q : Operand) (w : World), (do eqGuard .eql 24 p q (.agg #[.int .u64 (l x 0 : Nat), .int .u64 (l x 1 : Nat), .int .u64 (l x 2 : Nat), .int .u64 (l x 3 : Nat)]) (.agg #[.int .u64 (l x 0 : Nat), .int .u64 (l x 1 : Nat), .int .u64 (l x 2 : Nat), .int .u64 (l x 3 : Nat)]); binOp .eql 24 (.agg #[.int .u64 (l x 0 : Nat), .int .u64 (l x 1 : Nat), .int .u64 (l x 2 : Nat), .int .u64 (l x 3 : Nat)]) (.agg #[.int .u64 (l x 0 : Nat), .int .u64 (l x 1 : Nat), .int .u64 (l x 2 : Nat), .int .u64 (l x 3 : Nat)]) : Sem Value).run Try.prog w = .ok (.bool true) w) (_e23 : ∀ (x : Nat) (p q : Operand) (w : World), (do eqGuard .eql 23 p q (.agg #[.int .u64 (l x 0 : Nat), .int .u64 (l x 1 : Nat), .int .u64 (l x 2 : Nat), .int .u64 (l x 3 : Nat)]) (.agg #[.int .u64 (l x 0 : Nat), .int .u64 (l x 1 : Nat), .int .u64 (l x 2 : Nat), .int .u64 (l x 3 : Nat)]); binOp .eql 23 (.agg #[.int .u64 (l x 0 : Nat), .int .u64 (l x 1 : Nat), .int .u64 (l x 2 : Nat), .int .u64 (l x 3 : Nat)]) (.agg #[.int .u64 (l x 0 : Nat), .int .u64 (l x 1 : Nat), .int .u64 (l x 2 : Nat), .int .u64 (l x 3 : Nat)]) : Sem Value).run Try.prog w = .ok (.bool true) w) :
  Calls Try.prog 5 #[.agg #[.int .u64 (l m 0 : Nat), .int .u64 (l m 1 : Nat), .int .u64 (l m 2 : Nat), .int .u64 (l m 3 : Nat)], .agg #[.int .u64 (l x 0 : Nat), .int .u64 (l x 1 : Nat), .int .u64 (l x 2 : Nat), .int .u64 (l x 3 : Nat)], .agg #[.int .u64 (l y 0 : Nat), .int .u64 (l y 1 : Nat), .int .u64 (l y 2 : Nat), .int .u64 (l y 3 : Nat)]] w fun e w' => e = .returned (.bool true) ∧ Gw w w' := by
  go_enter Try.func5, Try.ntmps5
  refine ve_go ?_
  simp only [List.map_cons, List.map_nil]
  refine vseq ?_
  apply vrp
  · apply VE.cons
    · exact ev_box rfl rfl (gn rfl) rfl
    simp only [nm, seval]
    apply VE.cons
    · exact ev_box rfl rfl (gn rfl) rfl
    simp only [nm, seval]
    apply VE.cons
    · exact ev_box rfl rfl (gn rfl) rfl
    simp only [nm, seval]
    apply VE.cons
    · exact ev_assign rfl (gn rfl)
    simp only [nm, seval]
    exact VE.nil _
  · kernel_rfl
  change VOk _ _ _ _ _
  refine vseq ?_
  apply vrp
  · apply VE.cons
    · first | exact ev_load rfl (gn rfl) rfl rfl Try.underlying24 rfl Try.sizeOf24 rfl rfl | exact ev_loadx rfl (gn rfl) rfl Try.underlying24 rfl Try.sizeOf24 (by assumption) rfl
    simp only [nm, seval]
    apply VE.cons
    · exact ev_call rfl (gn rfl) rfl (en_of Try.func9 (by kernel_rfl) rfl) (hnil)
    simp only [nm, seval]
    apply VE.cons
    · exact ev_move rfl (gn rfl)
    simp only [nm, seval]
    apply VE.cons
    · exact ev_extract rfl (gn rfl) rfl rfl
    simp only [nm, seval]
    apply VE.cons
    · exact ev_extract rfl (gn rfl) rfl rfl
    simp only [nm, seval]
    apply VE.cons
    · exact ev_assign rfl (gn rfl)
    simp only [nm, seval]
    apply VE.cons
    · exact ev_assign rfl (gn rfl)
    simp only [nm, seval]
    exact VE.nil _
  · kernel_rfl
  change VOk _ _ _ _ _
  refine vseq ?_
  refine vseq ?_
  apply vrd (by kernel_rfl)
  · apply VE.cons
    · exact ev_call rfl (gn rfl) rfl (en_of Try.func10 (by kernel_rfl) rfl) (hsev)
    simp only [nm, seval]
    apply VE.cons
    · refine ev_pure' (gn rfl) (fun ρ w => by simp only [VS.act, SV.c, List.map_cons, List.map_nil]; go_simp; exact rfl) (fun _ _ => rfl)
    simp only [nm, seval]
    apply VE.cons
    · exact ev_move rfl (gn rfl)
    simp only [nm, seval]
    apply VE.cons
    · first | exact Ev.skip (fun _ => rfl) | exact ev_call rfl (fun _ => rfl) rfl (en_of Try.func16 (by kernel_rfl) rfl) (hnone)
    simp only [nm, seval]
    apply VE.cons
    · first | exact Ev.skip (fun _ => rfl) | exact ev_load rfl (fun _ => rfl) rfl rfl Try.underlying24 rfl Try.sizeOf24 rfl rfl | exact ev_loadx rfl (fun _ => rfl) rfl Try.underlying24 rfl Try.sizeOf24 (by assumption) rfl
    simp only [nm, seval]
    apply VE.cons
    · first | exact Ev.skip (fun _ => rfl) | exact ev_load rfl (fun _ => rfl) rfl rfl Try.underlying24 rfl Try.sizeOf24 rfl rfl | exact ev_loadx rfl (fun _ => rfl) rfl Try.underlying24 rfl Try.sizeOf24 (by assumption) rfl
    simp only [nm, seval]
    apply VE.cons
    · first | exact Ev.skip (fun _ => rfl) | exact ev_call rfl (fun _ => rfl) rfl (en_of Try.func17 (by kernel_rfl) rfl) (hna)
    simp only [nm, seval]
    apply VE.cons
    · first | exact Ev.skip (fun _ => rfl) | refine ev_pure' (fun _ => rfl) (fun ρ w => by simp only [VS.act, SV.c, List.map_cons, List.map_nil]; go_simp; exact rfl) (fun _ _ => rfl)
    simp only [nm, seval]
    apply VE.cons
    · first | exact Ev.skip (fun _ => rfl) | exact ev_bin rfl (fun _ => rfl) rfl rfl (fun w => hz  _ _ w)
    simp only [nm, seval]
    apply VE.cons
    · refine ev_pure' (gn rfl) (fun ρ w => by simp only [VS.act, SV.c, List.map_cons, List.map_nil]; go_simp; exact rfl) (fun _ _ => rfl)
    simp only [nm, seval]
    apply VE.cons
    · exact ev_move rfl (gn rfl)
    simp only [nm, seval]
    apply VE.cons
    · first | exact Ev.skip (fun _ => rfl) | exact ev_call rfl (fun _ => rfl) rfl (en_of Try.func16 (by kernel_rfl) rfl) (hnone)
    simp only [nm, seval]
    apply VE.cons
    · first | exact Ev.skip (fun _ => rfl) | exact ev_load rfl (fun _ => rfl) rfl rfl Try.underlying24 rfl Try.sizeOf24 rfl rfl | exact ev_loadx rfl (fun _ => rfl) rfl Try.underlying24 rfl Try.sizeOf24 (by assumption) rfl
    simp only [nm, seval]
    apply VE.cons
    · first | exact Ev.skip (fun _ => rfl) | exact ev_call rfl (fun _ => rfl) rfl (en_of Try.func14 (by kernel_rfl) rfl) (hnr)
    simp only [nm, seval]
    apply VE.cons
    · first | exact Ev.skip (fun _ => rfl) | refine ev_pure' (fun _ => rfl) (fun ρ w => by simp only [VS.act, SV.c, List.map_cons, List.map_nil]; go_simp; exact rfl) (fun _ _ => rfl)
    simp only [nm, seval]
    apply VE.cons
    · first | exact Ev.skip (fun _ => rfl) | exact ev_bin rfl (fun _ => rfl) rfl rfl (fun w => hz  _ _ w)
    simp only [nm, seval]
    apply VE.cons
    · refine ev_pure' (gn rfl) (fun ρ w => by simp only [VS.act, SV.c, List.map_cons, List.map_nil]; go_simp; exact rfl) (fun _ _ => rfl)
    simp only [nm, seval]
    exact VE.nil _
  · kernel_rfl
  change VOk _ _ _ _ _
  refine vcond_f rfl ?_
  refine vskip ?_
  change VOk _ _ _ _ _
  refine vseq ?_
  refine vseq ?_
  apply vrp
  · apply VE.cons
    · first | exact ev_load rfl (gn rfl) rfl rfl Try.underlying24 rfl Try.sizeOf24 rfl rfl | exact ev_loadx rfl (gn rfl) rfl Try.underlying24 rfl Try.sizeOf24 (by assumption) rfl
    simp only [nm, seval]
    apply VE.cons
    · exact ev_call rfl (gn rfl) rfl (en_of Try.func11 (by kernel_rfl) rfl) (hrf)
    simp only [nm, seval]
    apply VE.cons
    · refine ev_pure' (gn rfl) (fun ρ w => by simp only [VS.act, SV.c, List.map_cons, List.map_nil]; go_simp; exact rfl) (fun _ _ => rfl)
    simp only [nm, seval]
    exact VE.nil _
  · kernel_rfl
  change VOk _ _ _ _ _
  refine vcond_t rfl ?_
  refine vseq ?_
  apply vrp
  · apply VE.cons
    · exact ev_move rfl (gn rfl)
    simp only [nm, seval]
    apply VE.cons
    · refine ev_pure' (gn rfl) (fun ρ w => by simp only [VS.act, SV.c, List.map_cons, List.map_nil]; go_simp; exact rfl) (fun _ _ => rfl)
    simp only [nm, seval]
    apply VE.cons
    · exact ev_move rfl (gn rfl)
    simp only [nm, seval]
    apply VE.cons
    · first | exact Ev.skip (fun _ => rfl) | exact ev_move rfl (fun _ => rfl)
    simp only [nm, seval]
    apply VE.cons
    · first | exact Ev.skip (fun _ => rfl) | refine ev_pure' (fun _ => rfl) (fun ρ w => by simp only [VS.act, SV.c, List.map_cons, List.map_nil]; go_simp; exact rfl) (fun _ _ => rfl)
    simp only [nm, seval]
    apply VE.cons
    · refine ev_pure' (gn rfl) (fun ρ w => by simp only [VS.act, SV.c, List.map_cons, List.map_nil]; go_simp; exact rfl) (fun _ _ => rfl)
    simp only [nm, seval]
    apply VE.cons
    · exact ev_assign rfl (gn rfl)
    simp only [nm, seval]
    exact VE.nil _
  · kernel_rfl
  change VOk _ _ _ _ _
  refine vret ?_
  refine post_ret (res1 Try.results5 (rv_tmp rfl)) ?_
  intro w' hg
  exact ⟨rfl, hg⟩
theorem law_MontSums_ok (l : Nat → Nat → Nat) (c0 c1 c2 c3 c4 c5 c6 c7 c8 c9 c10 c11 c12 : Value) (m x y s a d : Nat) (hz : ∀ (p q : Operand) (w : World), (do eqGuard .neq 24 p q (.agg #[.int .u64 0, .int .u64 0, .int .u64 0, .int .u64 0]) (.agg #[.int .u64 0, .int .u64 0, .int .u64 0, .int .u64 0]); binOp .neq 24 (.agg #[.int .u64 0, .int .u64 0, .int .u64 0, .int .u64 0]) (.agg #[.int .u64 0, .int .u64 0, .int .u64 0, .int .u64 0]) : Sem Value).run Try.prog w = .ok (.bool false) w) (w : World)
  (hsev : ∀ w', Gw w w' → Calls Try.prog 10 #[] w' fun e w'' => e = .returned (.bool true) ∧ Gw w' w'')
  (hrt : ∀ w', Gw w w' → Calls Try.prog 11 #[.agg #[.int .u64 (l m 0 : Nat), .int .u64 (l m 1 : Nat), .int .u64 (l m 2 : Nat), .int .u64 (l m 3 : Nat)]] w' fun e w'' => e = .returned (.bool true) ∧ Gw w' w'')
  (hnew : ∀ w', Gw w w' → Calls Try.prog 9 #[.agg #[.int .u64 (l m 0 : Nat), .int .u64 (l m 1 : Nat), .int .u64 (l m 2 : Nat), .int .u64 (l m 3 : Nat)]] w' fun e w'' => ∃ g, w'.heap.size ≤ g ∧ e = .returned (.tuple #[.pointer (some ⟨g, 0, none⟩), .int .i64 0]) ∧ w''.heap[g]? = some (.cells #[c0, c1, c2, c3, c4, c5, c6, c7, c8, c9, c10, c11, c12] 50 (0, 0)) ∧ Gw w' w'')
  (hnone : ∀ w', Gw w w' → Calls Try.prog 16 #[] w' fun e w'' => e = .returned (.pointer none) ∧ Gw w' w'')
  (hna : ∀ w', Gw w w' → Calls Try.prog 17 #[.pointer none, .agg #[.int .u64 (l x 0 : Nat), .int .u64 (l x 1 : Nat), .int .u64 (l x 2 : Nat), .int .u64 (l x 3 : Nat)], .agg #[.int .u64 (l y 0 : Nat), .int .u64 (l y 1 : Nat), .int .u64 (l y 2 : Nat), .int .u64 (l y 3 : Nat)]] w' fun e w'' => e = .returned (.agg #[.int .u64 0, .int .u64 0, .int .u64 0, .int .u64 0]) ∧ Gw w' w'')
  (hnr : ∀ w', Gw w w' → Calls Try.prog 14 #[.pointer none, .agg #[.int .u64 (l x 0 : Nat), .int .u64 (l x 1 : Nat), .int .u64 (l x 2 : Nat), .int .u64 (l x 3 : Nat)]] w' fun e w'' => e = .returned (.agg #[.int .u64 0, .int .u64 0, .int .u64 0, .int .u64 0]) ∧ Gw w' w'')
  (g1 : ∀ (w' : World) (g : Nat), (∀ (j : Nat) (v : Value), ([c0, c1, c2, c3, c4, c5, c6, c7, c8, c9, c10, c11, c12] : List Value)[j]? = some v → w'.cell? ⟨g, 0 + j, none⟩ = some v) → Calls Try.prog 14 #[.pointer (some ⟨g, 0, none⟩), .agg #[.int .u64 (l x 0 : Nat), .int .u64 (l x 1 : Nat), .int .u64 (l x 2 : Nat), .int .u64 (l x 3 : Nat)]] w' fun e w'' => e = .returned (.agg #[.int .u64 (l s 0 : Nat), .int .u64 (l s 1 : Nat), .int .u64 (l s 2 : Nat), .int .u64 (l s 3 : Nat)]) ∧ Gw w' w'')
  (g2 : ∀ w', Gw w w' → Calls Try.prog 18 #[.agg #[.int .u64 (l x 0 : Nat), .int .u64 (l x 1 : Nat), .int .u64 (l x 2 : Nat), .int .u64 (l x 3 : Nat)], .agg #[.int .u64 (l m 0 : Nat), .int .u64 (l m 1 : Nat), .int .u64 (l m 2 : Nat), .int .u64 (l m 3 : Nat)]] w' fun e w'' => e = .returned (.agg #[.int .u64 (l s 0 : Nat), .int .u64 (l s 1 : Nat), .int .u64 (l s 2 : Nat), .int .u64 (l s 3 : Nat)]) ∧ Gw w' w'')
  (g3 : ∀ (w' : World) (g : Nat), (∀ (j : Nat) (v : Value), ([c0, c1, c2, c3, c4, c5, c6, c7, c8, c9, c10, c11, c12] : List Value)[j]? = some v → w'.cell? ⟨g, 0 + j, none⟩ = some v) → Calls Try.prog 17 #[.pointer (some ⟨g, 0, none⟩), .agg #[.int .u64 (l x 0 : Nat), .int .u64 (l x 1 : Nat), .int .u64 (l x 2 : Nat), .int .u64 (l x 3 : Nat)], .agg #[.int .u64 (l y 0 : Nat), .int .u64 (l y 1 : Nat), .int .u64 (l y 2 : Nat), .int .u64 (l y 3 : Nat)]] w' fun e w'' => e = .returned (.agg #[.int .u64 (l a 0 : Nat), .int .u64 (l a 1 : Nat), .int .u64 (l a 2 : Nat), .int .u64 (l a 3 : Nat)]) ∧ Gw w' w'')
  (g4 : ∀ w', Gw w w' → Calls Try.prog 19 #[.agg #[.int .u64 (l x 0 : Nat), .int .u64 (l x 1 : Nat), .int .u64 (l x 2 : Nat), .int .u64 (l x 3 : Nat)], .agg #[.int .u64 (l y 0 : Nat), .int .u64 (l y 1 : Nat), .int .u64 (l y 2 : Nat), .int .u64 (l y 3 : Nat)], .agg #[.int .u64 (l m 0 : Nat), .int .u64 (l m 1 : Nat), .int .u64 (l m 2 : Nat), .int .u64 (l m 3 : Nat)]] w' fun e w'' => e = .returned (.agg #[.int .u64 (l a 0 : Nat), .int .u64 (l a 1 : Nat), .int .u64 (l a 2 : Nat), .int .u64 (l a 3 : Nat)]) ∧ Gw w' w'')
  (g5 : ∀ (w' : World) (g : Nat), (∀ (j : Nat) (v : Value), ([c0, c1, c2, c3, c4, c5, c6, c7, c8, c9, c10, c11, c12] : List Value)[j]? = some v → w'.cell? ⟨g, 0 + j, none⟩ = some v) → Calls Try.prog 20 #[.pointer (some ⟨g, 0, none⟩), .agg #[.int .u64 (l x 0 : Nat), .int .u64 (l x 1 : Nat), .int .u64 (l x 2 : Nat), .int .u64 (l x 3 : Nat)], .agg #[.int .u64 (l y 0 : Nat), .int .u64 (l y 1 : Nat), .int .u64 (l y 2 : Nat), .int .u64 (l y 3 : Nat)]] w' fun e w'' => e = .returned (.agg #[.int .u64 (l d 0 : Nat), .int .u64 (l d 1 : Nat), .int .u64 (l d 2 : Nat), .int .u64 (l d 3 : Nat)]) ∧ Gw w' w'')
  (g6 : ∀ w', Gw w w' → Calls Try.prog 21 #[.agg #[.int .u64 (l x 0 : Nat), .int .u64 (l x 1 : Nat), .int .u64 (l x 2 : Nat), .int .u64 (l x 3 : Nat)], .agg #[.int .u64 (l y 0 : Nat), .int .u64 (l y 1 : Nat), .int .u64 (l y 2 : Nat), .int .u64 (l y 3 : Nat)], .agg #[.int .u64 (l m 0 : Nat), .int .u64 (l m 1 : Nat), .int .u64 (l m 2 : Nat), .int .u64 (l m 3 : Nat)]] w' fun e w'' => e = .returned (.agg #[.int .u64 (l d 0 : Nat), .int .u64 (l d 1 : Nat), .int .u64 (l d 2 : Nat), .int .u64 (l d 3 : Nat)]) ∧ Gw w' w'')
  (_e24 : ∀ (x : Nat) (p q : Operand) (w : World), (do eqGuard .eql 24 p q (.agg #[.int .u64 (l x 0 : Nat), .int .u64 (l x 1 : Nat), .int .u64 (l x 2 : Nat), .int .u64 (l x 3 : Nat)]) (.agg #[.int .u64 (l x 0 : Nat), .int .u64 (l x 1 : Nat), .int .u64 (l x 2 : Nat), .int .u64 (l x 3 : Nat)]); binOp .eql 24 (.agg #[.int .u64 (l x 0 : Nat), .int .u64 (l x 1 : Nat), .int .u64 (l x 2 : Nat), .int .u64 (l x 3 : Nat)]) (.agg #[.int .u64 (l x 0 : Nat), .int .u64 (l x 1 : Nat), .int .u64 (l x 2 : Nat), .int .u64 (l x 3 : Nat)]) : Sem Value).run Try.prog w = .ok (.bool true) w) (e23 : ∀ (x : Nat) (p q : Operand) (w : World), (do eqGuard .eql 23 p q (.agg #[.int .u64 (l x 0 : Nat), .int .u64 (l x 1 : Nat), .int .u64 (l x 2 : Nat), .int .u64 (l x 3 : Nat)]) (.agg #[.int .u64 (l x 0 : Nat), .int .u64 (l x 1 : Nat), .int .u64 (l x 2 : Nat), .int .u64 (l x 3 : Nat)]); binOp .eql 23 (.agg #[.int .u64 (l x 0 : Nat), .int .u64 (l x 1 : Nat), .int .u64 (l x 2 : Nat), .int .u64 (l x 3 : Nat)]) (.agg #[.int .u64 (l x 0 : Nat), .int .u64 (l x 1 : Nat), .int .u64 (l x 2 : Nat), .int .u64 (l x 3 : Nat)]) : Sem Value).run Try.prog w = .ok (.bool true) w) :
  Calls Try.prog 5 #[.agg #[.int .u64 (l m 0 : Nat), .int .u64 (l m 1 : Nat), .int .u64 (l m 2 : Nat), .int .u64 (l m 3 : Nat)], .agg #[.int .u64 (l x 0 : Nat), .int .u64 (l x 1 : Nat), .int .u64 (l x 2 : Nat), .int .u64 (l x 3 : Nat)], .agg #[.int .u64 (l y 0 : Nat), .int .u64 (l y 1 : Nat), .int .u64 (l y 2 : Nat), .int .u64 (l y 3 : Nat)]] w fun e w' => e = .returned (.bool true) ∧ Gw w w' := by
  go_enter Try.func5, Try.ntmps5
  refine ve_go ?_
  simp only [List.map_cons, List.map_nil]
  refine vseq ?_
  apply vrp
  · apply VE.cons
    · exact ev_box rfl rfl (gn rfl) rfl
    simp only [nm, seval]
    apply VE.cons
    · exact ev_box rfl rfl (gn rfl) rfl
    simp only [nm, seval]
    apply VE.cons
    · exact ev_box rfl rfl (gn rfl) rfl
    simp only [nm, seval]
    apply VE.cons
    · exact ev_assign rfl (gn rfl)
    simp only [nm, seval]
    exact VE.nil _
  · kernel_rfl
  change VOk _ _ _ _ _
  refine vseq ?_
  apply vrp
  · apply VE.cons
    · first | exact ev_load rfl (gn rfl) rfl rfl Try.underlying24 rfl Try.sizeOf24 rfl rfl | exact ev_loadx rfl (gn rfl) rfl Try.underlying24 rfl Try.sizeOf24 (by assumption) rfl
    simp only [nm, seval]
    apply VE.cons
    · exact ev_callnew rfl rfl (gn rfl) rfl (en_of Try.func9 (by kernel_rfl) rfl) [c0, c1, c2, c3, c4, c5, c6, c7, c8, c9, c10, c11, c12] 50 (hnew)
    simp only [nm, seval]
    apply VE.cons
    · exact ev_move rfl (gn rfl)
    simp only [nm, seval]
    apply VE.cons
    · exact ev_extract_p rfl (gn rfl) rfl
    simp only [nm, seval]
    apply VE.cons
    · exact ev_extract_y rfl (gn rfl) rfl
    simp only [nm, seval]
    apply VE.cons
    · exact ev_assign rfl (gn rfl)
    simp only [nm, seval]
    apply VE.cons
    · exact ev_assign rfl (gn rfl)
    simp only [nm, seval]
    exact VE.nil _
  · kernel_rfl
  change VOk _ _ _ _ _
  refine vseq ?_
  refine vseq ?_
  apply vrd (by kernel_rfl)
  · apply VE.cons
    · exact ev_call rfl (gn rfl) rfl (en_of Try.func10 (by kernel_rfl) rfl) (hsev)
    simp only [nm, seval]
    apply VE.cons
    · refine ev_pure' (gn rfl) (fun ρ w => by simp only [VS.act, SV.c, List.map_cons, List.map_nil]; go_simp; exact rfl) (fun _ _ => rfl)
    simp only [nm, seval]
    apply VE.cons
    · exact ev_move rfl (gn rfl)
    simp only [nm, seval]
    apply VE.cons
    · first | exact Ev.skip (fun _ => rfl) | exact ev_call rfl (fun _ => rfl) rfl (en_of Try.func16 (by kernel_rfl) rfl) (hnone)
    simp only [nm, seval]
    apply VE.cons
    · first | exact Ev.skip (fun _ => rfl) | exact ev_load rfl (fun _ => rfl) rfl rfl Try.underlying24 rfl Try.sizeOf24 rfl rfl | exact ev_loadx rfl (fun _ => rfl) rfl Try.underlying24 rfl Try.sizeOf24 (by assumption) rfl
    simp only [nm, seval]
    apply VE.cons
    · first | exact Ev.skip (fun _ => rfl) | exact ev_load rfl (fun _ => rfl) rfl rfl Try.underlying24 rfl Try.sizeOf24 rfl rfl | exact ev_loadx rfl (fun _ => rfl) rfl Try.underlying24 rfl Try.sizeOf24 (by assumption) rfl
    simp only [nm, seval]
    apply VE.cons
    · first | exact Ev.skip (fun _ => rfl) | exact ev_call rfl (fun _ => rfl) rfl (en_of Try.func17 (by kernel_rfl) rfl) (hna)
    simp only [nm, seval]
    apply VE.cons
    · first | exact Ev.skip (fun _ => rfl) | refine ev_pure' (fun _ => rfl) (fun ρ w => by simp only [VS.act, SV.c, List.map_cons, List.map_nil]; go_simp; exact rfl) (fun _ _ => rfl)
    simp only [nm, seval]
    apply VE.cons
    · first | exact Ev.skip (fun _ => rfl) | exact ev_bin rfl (fun _ => rfl) rfl rfl (fun w => hz  _ _ w)
    simp only [nm, seval]
    apply VE.cons
    · refine ev_pure' (gn rfl) (fun ρ w => by simp only [VS.act, SV.c, List.map_cons, List.map_nil]; go_simp; exact rfl) (fun _ _ => rfl)
    simp only [nm, seval]
    apply VE.cons
    · exact ev_move rfl (gn rfl)
    simp only [nm, seval]
    apply VE.cons
    · first | exact Ev.skip (fun _ => rfl) | exact ev_call rfl (fun _ => rfl) rfl (en_of Try.func16 (by kernel_rfl) rfl) (hnone)
    simp only [nm, seval]
    apply VE.cons
    · first | exact Ev.skip (fun _ => rfl) | exact ev_load rfl (fun _ => rfl) rfl rfl Try.underlying24 rfl Try.sizeOf24 rfl rfl | exact ev_loadx rfl (fun _ => rfl) rfl Try.underlying24 rfl Try.sizeOf24 (by assumption) rfl
    simp only [nm, seval]
    apply VE.cons
    · first | exact Ev.skip (fun _ => rfl) | exact ev_call rfl (fun _ => rfl) rfl (en_of Try.func14 (by kernel_rfl) rfl) (hnr)
    simp only [nm, seval]
    apply VE.cons
    · first | exact Ev.skip (fun _ => rfl) | refine ev_pure' (fun _ => rfl) (fun ρ w => by simp only [VS.act, SV.c, List.map_cons, List.map_nil]; go_simp; exact rfl) (fun _ _ => rfl)
    simp only [nm, seval]
    apply VE.cons
    · first | exact Ev.skip (fun _ => rfl) | exact ev_bin rfl (fun _ => rfl) rfl rfl (fun w => hz  _ _ w)
    simp only [nm, seval]
    apply VE.cons
    · refine ev_pure' (gn rfl) (fun ρ w => by simp only [VS.act, SV.c, List.map_cons, List.map_nil]; go_simp; exact rfl) (fun _ _ => rfl)
    simp only [nm, seval]
    exact VE.nil _
  · kernel_rfl
  change VOk _ _ _ _ _
  refine vcond_f rfl ?_
  refine vskip ?_
  change VOk _ _ _ _ _
  refine vseq ?_
  refine vseq ?_
  apply vrp
  · apply VE.cons
    · first | exact ev_load rfl (gn rfl) rfl rfl Try.underlying24 rfl Try.sizeOf24 rfl rfl | exact ev_loadx rfl (gn rfl) rfl Try.underlying24 rfl Try.sizeOf24 (by assumption) rfl
    simp only [nm, seval]
    apply VE.cons
    · exact ev_call rfl (gn rfl) rfl (en_of Try.func11 (by kernel_rfl) rfl) (hrt)
    simp only [nm, seval]
    apply VE.cons
    · refine ev_pure' (gn rfl) (fun ρ w => by simp only [VS.act, SV.c, List.map_cons, List.map_nil]; go_simp; exact rfl) (fun _ _ => rfl)
    simp only [nm, seval]
    exact VE.nil _
  · kernel_rfl
  change VOk _ _ _ _ _
  refine vcond_f rfl ?_
  refine vskip ?_
  change VOk _ _ _ _ _
  refine vseq ?_
  apply vrd (by kernel_rfl)
  · apply VE.cons
    · first | exact ev_load rfl (gn rfl) rfl rfl Try.underlying24 rfl Try.sizeOf24 rfl rfl | exact ev_loadx rfl (gn rfl) rfl Try.underlying24 rfl Try.sizeOf24 (by assumption) rfl
    simp only [nm, seval]
    apply VE.cons
    · first | exact ev_load rfl (gn rfl) rfl rfl Try.underlying24 rfl Try.sizeOf24 rfl rfl | exact ev_loadx rfl (gn rfl) rfl Try.underlying24 rfl Try.sizeOf24 (by assumption) rfl
    simp only [nm, seval]
    apply VE.cons
    · first | exact ev_load rfl (gn rfl) rfl rfl Try.underlying24 rfl Try.sizeOf24 rfl rfl | exact ev_loadx rfl (gn rfl) rfl Try.underlying24 rfl Try.sizeOf24 (by assumption) rfl
    simp only [nm, seval]
    apply VE.cons
    · exact ev_alloc rfl rfl (gn rfl) Try.zeroValue23
    simp only [nm, seval]
    apply VE.cons
    · exact ev_alloc rfl rfl (gn rfl) Try.zeroValue23
    simp only [nm, seval]
    apply VE.cons
    · exact ev_alloc rfl rfl (gn rfl) Try.zeroValue23
    simp only [nm, seval]
    apply VE.cons
    · exact ev_store rfl (gn rfl) rfl rfl rfl Try.sizeOf23 rfl (by simp) rfl
    simp only [nm, seval]
    apply VE.cons
    · exact ev_store rfl (gn rfl) rfl rfl rfl Try.sizeOf23 rfl (by simp) rfl
    simp only [nm, seval]
    apply VE.cons
    · exact ev_store rfl (gn rfl) rfl rfl rfl Try.sizeOf23 rfl (by simp) rfl
    simp only [nm, seval]
    exact VE.nil _
  · kernel_rfl
  change VOk _ _ _ _ _
  refine vseq ?_
  apply vrd (by kernel_rfl)
  · apply VE.cons
    · exact ev_move rfl (gn rfl)
    simp only [nm, seval]
    apply VE.cons
    · refine ev_pure' (gn rfl) (fun ρ w => by simp only [VS.act, SV.c, List.map_cons, List.map_nil]; go_simp; exact rfl) (fun _ _ => rfl)
    simp only [nm, seval]
    apply VE.cons
    · exact ev_move rfl (gn rfl)
    simp only [nm, seval]
    apply VE.cons
    · first | exact Ev.skip (fun _ => rfl) | exact ev_move rfl (fun _ => rfl)
    simp only [nm, seval]
    apply VE.cons
    · first | exact Ev.skip (fun _ => rfl) | exact ev_load rfl (fun _ => rfl) rfl rfl Try.underlying24 rfl Try.sizeOf24 rfl rfl | exact ev_loadx rfl (fun _ => rfl) rfl Try.underlying24 rfl Try.sizeOf24 (by assumption) rfl
    simp only [nm, seval]
    apply VE.cons
    · first | exact Ev.skip (fun _ => rfl) | exact ev_callp [14] rfl (fun _ => rfl) rfl (en_of Try.func14 (by kernel_rfl) rfl) (fun ρ w' hs' => g1 w' (ρ 14) (sees_cells hs' (by simp) rfl 0 _ rfl))
    simp only [nm, seval]
    apply VE.cons
    · first | exact Ev.skip (fun _ => rfl) | exact ev_load rfl (fun _ => rfl) rfl rfl Try.underlying23 rfl Try.sizeOf23 rfl rfl | exact ev_loadx rfl (fun _ => rfl) rfl Try.underlying23 rfl Try.sizeOf23 (by assumption) rfl
    simp only [nm, seval]
    apply VE.cons
    · first | exact Ev.skip (fun _ => rfl) | exact ev_load rfl (fun _ => rfl) rfl rfl Try.underlying23 rfl Try.sizeOf23 rfl rfl | exact ev_loadx rfl (fun _ => rfl) rfl Try.underlying23 rfl Try.sizeOf23 (by assumption) rfl
    simp only [nm, seval]
    apply VE.cons
    · first | exact Ev.skip (fun _ => rfl) | exact ev_call rfl (fun _ => rfl) rfl (en_of Try.func18 (by kernel_rfl) rfl) (g2)
    simp only [nm, seval]
    apply VE.cons
    · first | exact Ev.skip (fun _ => rfl) | exact ev_bin rfl (fun _ => rfl) rfl rfl (fun w => e23 _ _ _ w)
    simp only [nm, seval]
    apply VE.cons
    · refine ev_pure' (gn rfl) (fun ρ w => by simp only [VS.act, SV.c, List.map_cons, List.map_nil]; go_simp; exact rfl) (fun _ _ => rfl)
    simp only [nm, seval]
    apply VE.cons
    · exact ev_move rfl (gn rfl)
    simp only [nm, seval]
    apply VE.cons
    · first | exact Ev.skip (fun _ => rfl) | exact ev_move rfl (fun _ => rfl)
    simp only [nm, seval]
    apply VE.cons
    · first | exact Ev.skip (fun _ => rfl) | exact ev_load rfl (fun _ => rfl) rfl rfl Try.underlying24 rfl Try.sizeOf24 rfl rfl | exact ev_loadx rfl (fun _ => rfl) rfl Try.underlying24 rfl Try.sizeOf24 (by assumption) rfl
    simp only [nm, seval]
    apply VE.cons
    · first | exact Ev.skip (fun _ => rfl) | exact ev_load rfl (fun _ => rfl) rfl rfl Try.underlying24 rfl Try.sizeOf24 rfl rfl | exact ev_loadx rfl (fun _ => rfl) rfl Try.underlying24 rfl Try.sizeOf24 (by assumption) rfl
    simp only [nm, seval]
    apply VE.cons
    · first | exact Ev.skip (fun _ => rfl) | exact ev_callp [14] rfl (fun _ => rfl) rfl (en_of Try.func17 (by kernel_rfl) rfl) (fun ρ w' hs' => g3 w' (ρ 14) (sees_cells hs' (by simp) rfl 0 _ rfl))
    simp only [nm, seval]
    apply VE.cons
    · first | exact Ev.skip (fun _ => rfl) | exact ev_load rfl (fun _ => rfl) rfl rfl Try.underlying23 rfl Try.sizeOf23 rfl rfl | exact ev_loadx rfl (fun _ => rfl) rfl Try.underlying23 rfl Try.sizeOf23 (by assumption) rfl
    simp only [nm, seval]
    apply VE.cons
    · first | exact Ev.skip (fun _ => rfl) | exact ev_load rfl (fun _ => rfl) rfl rfl Try.underlying23 rfl Try.sizeOf23 rfl rfl | exact ev_loadx rfl (fun _ => rfl) rfl Try.underlying23 rfl Try.sizeOf23 (by assumption) rfl
    simp only [nm, seval]
    apply VE.cons
    · first | exact Ev.skip (fun _ => rfl) | exact ev_load rfl (fun _ => rfl) rfl rfl Try.underlying23 rfl Try.sizeOf23 rfl rfl | exact ev_loadx rfl (fun _ => rfl) rfl Try.underlying23 rfl Try.sizeOf23 (by assumption) rfl
    simp only [nm, seval]
    apply VE.cons
    · first | exact Ev.skip (fun _ => rfl) | exact ev_call rfl (fun _ => rfl) rfl (en_of Try.func19 (by kernel_rfl) rfl) (g4)
    simp only [nm, seval]
    apply VE.cons
    · first | exact Ev.skip (fun _ => rfl) | exact ev_bin rfl (fun _ => rfl) rfl rfl (fun w => e23 _ _ _ w)
    simp only [nm, seval]
    apply VE.cons
    · refine ev_pure' (gn rfl) (fun ρ w => by simp only [VS.act, SV.c, List.map_cons, List.map_nil]; go_simp; exact rfl) (fun _ _ => rfl)
    simp only [nm, seval]
    apply VE.cons
    · exact ev_move rfl (gn rfl)
    simp only [nm, seval]
    apply VE.cons
    · first | exact Ev.skip (fun _ => rfl) | exact ev_move rfl (fun _ => rfl)
    simp only [nm, seval]
    apply VE.cons
    · first | exact Ev.skip (fun _ => rfl) | exact ev_load rfl (fun _ => rfl) rfl rfl Try.underlying24 rfl Try.sizeOf24 rfl rfl | exact ev_loadx rfl (fun _ => rfl) rfl Try.underlying24 rfl Try.sizeOf24 (by assumption) rfl
    simp only [nm, seval]
    apply VE.cons
    · first | exact Ev.skip (fun _ => rfl) | exact ev_load rfl (fun _ => rfl) rfl rfl Try.underlying24 rfl Try.sizeOf24 rfl rfl | exact ev_loadx rfl (fun _ => rfl) rfl Try.underlying24 rfl Try.sizeOf24 (by assumption) rfl
    simp only [nm, seval]
    apply VE.cons
    · first | exact Ev.skip (fun _ => rfl) | exact ev_callp [14] rfl (fun _ => rfl) rfl (en_of Try.func20 (by kernel_rfl) rfl) (fun ρ w' hs' => g5 w' (ρ 14) (sees_cells hs' (by simp) rfl 0 _ rfl))
    simp only [nm, seval]
    apply VE.cons
    · first | exact Ev.skip (fun _ => rfl) | exact ev_load rfl (fun _ => rfl) rfl rfl Try.underlying23 rfl Try.sizeOf23 rfl rfl | exact ev_loadx rfl (fun _ => rfl) rfl Try.underlying23 rfl Try.sizeOf23 (by assumption) rfl
    simp only [nm, seval]
    apply VE.cons
    · first | exact Ev.skip (fun _ => rfl) | exact ev_load rfl (fun _ => rfl) rfl rfl Try.underlying23 rfl Try.sizeOf23 rfl rfl | exact ev_loadx rfl (fun _ => rfl) rfl Try.underlying23 rfl Try.sizeOf23 (by assumption) rfl
    simp only [nm, seval]
    apply VE.cons
    · first | exact Ev.skip (fun _ => rfl) | exact ev_load rfl (fun _ => rfl) rfl rfl Try.underlying23 rfl Try.sizeOf23 rfl rfl | exact ev_loadx rfl (fun _ => rfl) rfl Try.underlying23 rfl Try.sizeOf23 (by assumption) rfl
    simp only [nm, seval]
    apply VE.cons
    · first | exact Ev.skip (fun _ => rfl) | exact ev_call rfl (fun _ => rfl) rfl (en_of Try.func21 (by kernel_rfl) rfl) (g6)
    simp only [nm, seval]
    apply VE.cons
    · first | exact Ev.skip (fun _ => rfl) | exact ev_bin rfl (fun _ => rfl) rfl rfl (fun w => e23 _ _ _ w)
    simp only [nm, seval]
    apply VE.cons
    · refine ev_pure' (gn rfl) (fun ρ w => by simp only [VS.act, SV.c, List.map_cons, List.map_nil]; go_simp; exact rfl) (fun _ _ => rfl)
    simp only [nm, seval]
    apply VE.cons
    · exact ev_assign rfl (gn rfl)
    simp only [nm, seval]
    exact VE.nil _
  · kernel_rfl
  change VOk _ _ _ _ _
  refine vret ?_
  refine post_ret (res1 Try.results5 (rv_tmp rfl)) ?_
  intro w' hg
  exact ⟨rfl, hg⟩
theorem law_MontPows_bad (l : Nat → Nat → Nat) (m x e0 e1 : Nat)  (w : World)
  (hsev : ∀ w', Gw w w' → Calls Try.prog 10 #[] w' fun e w'' => e = .returned (.bool true) ∧ Gw w' w'')
  (hrf : ∀ w', Gw w w' → Calls Try.prog 11 #[.agg #[.int .u64 (l m 0 : Nat), .int .u64 (l m 1 : Nat), .int .u64 (l m 2 : Nat), .int .u64 (l m 3 : Nat)]] w' fun e w'' => e = .returned (.bool false) ∧ Gw w' w'')
  (hnil : ∀ w', Gw w w' → Calls Try.prog 9 #[.agg #[.int .u64 (l m 0 : Nat), .int .u64 (l m 1 : Nat), .int .u64 (l m 2 : Nat), .int .u64 (l m 3 : Nat)]] w' fun e w'' => e = .returned (.tuple #[.pointer none, .int .i64 1]) ∧ Gw w' w'')
  (_e24 : ∀ (x : Nat) (p q : Operand) (w : World), (do eqGuard .eql 24 p q (.agg #[.int .u64 (l x 0 : Nat), .int .u64 (l x 1 : Nat), .int .u64 (l x 2 : Nat), .int .u64 (l x 3 : Nat)]) (.agg #[.int .u64 (l x 0 : Nat), .int .u64 (l x 1 : Nat), .int .u64 (l x 2 : Nat), .int .u64 (l x 3 : Nat)]); binOp .eql 24 (.agg #[.int .u64 (l x 0 : Nat), .int .u64 (l x 1 : Nat), .int .u64 (l x 2 : Nat), .int .u64 (l x 3 : Nat)]) (.agg #[.int .u64 (l x 0 : Nat), .int .u64 (l x 1 : Nat), .int .u64 (l x 2 : Nat), .int .u64 (l x 3 : Nat)]) : Sem Value).run Try.prog w = .ok (.bool true) w) (_e23 : ∀ (x : Nat) (p q : Operand) (w : World), (do eqGuard .eql 23 p q (.agg #[.int .u64 (l x 0 : Nat), .int .u64 (l x 1 : Nat), .int .u64 (l x 2 : Nat), .int .u64 (l x 3 : Nat)]) (.agg #[.int .u64 (l x 0 : Nat), .int .u64 (l x 1 : Nat), .int .u64 (l x 2 : Nat), .int .u64 (l x 3 : Nat)]); binOp .eql 23 (.agg #[.int .u64 (l x 0 : Nat), .int .u64 (l x 1 : Nat), .int .u64 (l x 2 : Nat), .int .u64 (l x 3 : Nat)]) (.agg #[.int .u64 (l x 0 : Nat), .int .u64 (l x 1 : Nat), .int .u64 (l x 2 : Nat), .int .u64 (l x 3 : Nat)]) : Sem Value).run Try.prog w = .ok (.bool true) w) :
  Calls Try.prog 8 #[.agg #[.int .u64 (l m 0 : Nat), .int .u64 (l m 1 : Nat), .int .u64 (l m 2 : Nat), .int .u64 (l m 3 : Nat)], .agg #[.int .u64 (l x 0 : Nat), .int .u64 (l x 1 : Nat), .int .u64 (l x 2 : Nat), .int .u64 (l x 3 : Nat)], .agg #[.int .u32 (e0 : Nat), .int .u32 (e1 : Nat)]] w fun e w' => e = .returned (.bool true) ∧ Gw w w' := by
  go_enter Try.func8, Try.ntmps8
  refine ve_go ?_
  simp only [List.map_cons, List.map_nil]
  refine vseq ?_
  apply vrp
  · apply VE.cons
    · exact ev_box rfl rfl (gn rfl) rfl
    simp only [nm, seval]
    apply VE.cons
    · exact ev_box rfl rfl (gn rfl) rfl
    simp only [nm, seval]
    apply VE.cons
    · exact ev_box rfl rfl (gn rfl) rfl
    simp only [nm, seval]
    apply VE.cons
    · exact ev_assign rfl (gn rfl)
    simp only [nm, seval]
    exact VE.nil _
  · kernel_rfl
  change VOk _ _ _ _ _
  refine vseq ?_
  apply vrp
  · apply VE.cons
    · first | exact ev_load rfl (gn rfl) rfl rfl Try.underlying24 rfl Try.sizeOf24 rfl rfl | exact ev_loadx rfl (gn rfl) rfl Try.underlying24 rfl Try.sizeOf24 (by assumption) rfl
    simp only [nm, seval]
    apply VE.cons
    · exact ev_call rfl (gn rfl) rfl (en_of Try.func9 (by kernel_rfl) rfl) (hnil)
    simp only [nm, seval]
    apply VE.cons
    · exact ev_move rfl (gn rfl)
    simp only [nm, seval]
    apply VE.cons
    · exact ev_extract rfl (gn rfl) rfl rfl
    simp only [nm, seval]
    apply VE.cons
    · exact ev_extract rfl (gn rfl) rfl rfl
    simp only [nm, seval]
    apply VE.cons
    · exact ev_assign rfl (gn rfl)
    simp only [nm, seval]
    apply VE.cons
    · exact ev_assign rfl (gn rfl)
    simp only [nm, seval]
    exact VE.nil _
  · kernel_rfl
  change VOk _ _ _ _ _
  refine vseq ?_
  refine vseq ?_
  apply vrp
  · apply VE.cons
    · exact ev_call rfl (gn rfl) rfl (en_of Try.func10 (by kernel_rfl) rfl) (hsev)
    simp only [nm, seval]
    apply VE.cons
    · refine ev_pure' (gn rfl) (fun ρ w => by simp only [VS.act, SV.c, List.map_cons, List.map_nil]; go_simp; exact rfl) (fun _ _ => rfl)
    simp only [nm, seval]
    apply VE.cons
    · exact ev_move rfl (gn rfl)
    simp only [nm, seval]
    apply VE.cons
    · first | exact Ev.skip (fun _ => rfl) | exact ev_load rfl (fun _ => rfl) rfl rfl Try.underlying24 rfl Try.sizeOf24 rfl rfl | exact ev_loadx rfl (fun _ => rfl) rfl Try.underlying24 rfl Try.sizeOf24 (by assumption) rfl
    simp only [nm, seval]
    apply VE.cons
    · first | exact Ev.skip (fun _ => rfl) | exact ev_call rfl (fun _ => rfl) rfl (en_of Try.func11 (by kernel_rfl) rfl) (hrf)
    simp only [nm, seval]
    apply VE.cons
    · first | exact Ev.skip (fun _ => rfl) | refine ev_pure' (fun _ => rfl) (fun ρ w => by simp only [VS.act, SV.c, List.map_cons, List.map_nil]; go_simp; exact rfl) (fun _ _ => rfl)
    simp only [nm, seval]
    apply VE.cons
    · refine ev_pure' (gn rfl) (fun ρ w => by simp only [VS.act, SV.c, List.map_cons, List.map_nil]; go_simp; exact rfl) (fun _ _ => rfl)
    simp only [nm, seval]
    exact VE.nil _
  · kernel_rfl
  change VOk _ _ _ _ _
  refine vcond_t rfl ?_
  refine vseq ?_
  apply vrp
  · apply VE.cons
    · exact ev_call rfl (gn rfl) rfl (en_of Try.func10 (by kernel_rfl) rfl) (hsev)
    simp only [nm, seval]
    apply VE.cons
    · exact ev_assign rfl (gn rfl)
    simp only [nm, seval]
    exact VE.nil _
  · kernel_rfl
  change VOk _ _ _ _ _
  refine vret ?_
  refine post_ret (res1 Try.results8 (rv_tmp rfl)) ?_
  intro w' hg
  exact ⟨rfl, hg⟩
theorem law_MontPows_ok (l : Nat → Nat → Nat) (c0 c1 c2 c3 c4 c5 c6 c7 c8 c9 c10 c11 c12 : Value) (m x e0 e1 p q r o : Nat) (hcv0 : ∀ (w : World), (convert 46 22 (.int .u32 (e0 : Nat))).run Try.prog w = .ok (.int .u64 (e0 : Nat)) w) (hcv1 : ∀ (w : World), (convert 46 22 (.int .u32 (e1 : Nat))).run Try.prog w = .ok (.int .u64 (e1 : Nat)) w) (hsum : IntKind.u64.wrap ((e0 : Int) + (e1 : Int)) = ((e0 + e1 : Nat) : Int)) (e1x : ∀ (p q : Operand) (w : World), (do eqGuard .eql 24 p q (.agg #[.int .u64 (l o 0 : Nat), .int .u64 (l o 1 : Nat), .int .u64 (l o 2 : Nat), .int .u64 (l o 3 : Nat)]) (.agg #[.int .u64 1, .int .u64 0, .int .u64 0, .int .u64 0]); binOp .eql 24 (.agg #[.int .u64 (l o 0 : Nat), .int .u64 (l o 1 : Nat), .int .u64 (l o 2 : Nat), .int .u64 (l o 3 : Nat)]) (.agg #[.int .u64 1, .int .u64 0, .int .u64 0, .int .u64 0]) : Sem Value).run Try.prog w = .ok (.bool true) w) (w : World)
  (hsev : ∀ w', Gw w w' → Calls Try.prog 10 #[] w' fun e w'' => e = .returned (.bool true) ∧ Gw w' w'')
  (hrt : ∀ w', Gw w w' → Calls Try.prog 11 #[.agg #[.int .u64 (l m 0 : Nat), .int .u64 (l m 1 : Nat), .int .u64 (l m 2 : Nat), .int .u64 (l m 3 : Nat)]] w' fun e w'' => e = .returned (.bool true) ∧ Gw w' w'')
  (hnew : ∀ w', Gw w w' → Calls Try.prog 9 #[.agg #[.int .u64 (l m 0 : Nat), .int .u64 (l m 1 : Nat), .int .u64 (l m 2 : Nat), .int .u64 (l m 3 : Nat)]] w' fun e w'' => ∃ g, w'.heap.size ≤ g ∧ e = .returned (.tuple #[.pointer (some ⟨g, 0, none⟩), .int .i64 0]) ∧ w''.heap[g]? = some (.cells #[c0, c1, c2, c3, c4, c5, c6, c7, c8, c9, c10, c11, c12] 50 (0, 0)) ∧ Gw w' w'')
  (g1 : ∀ (w' : World) (g : Nat), (∀ (j : Nat) (v : Value), ([c0, c1, c2, c3, c4, c5, c6, c7, c8, c9, c10, c11, c12] : List Value)[j]? = some v → w'.cell? ⟨g, 0 + j, none⟩ = some v) → Calls Try.prog 28 #[.pointer (some ⟨g, 0, none⟩), .agg #[.int .u64 (l x 0 : Nat), .int .u64 (l x 1 : Nat), .int .u64 (l x 2 : Nat), .int .u64 (l x 3 : Nat)], .agg #[.int .u64 (e0 : Nat), .int .u64 0, .int .u64 0, .int .u64 0]] w' fun e w'' => e = .returned (.agg #[.int .u64 (l p 0 : Nat), .int .u64 (l p 1 : Nat), .int .u64 (l p 2 : Nat), .int .u64 (l p 3 : Nat)]) ∧ Gw w' w'')
  (g2 : ∀ w', Gw w w' → Calls Try.prog 29 #[.agg #[.int .u64 (l x 0 : Nat), .int .u64 (l x 1 : Nat), .int .u64 (l x 2 : Nat), .int .u64 (l x 3 : Nat)], .agg #[.int .u64 (e0 : Nat), .int .u64 0, .int .u64 0, .int .u64 0], .agg #[.int .u64 (l m 0 : Nat), .int .u64 (l m 1 : Nat), .int .u64 (l m 2 : Nat), .int .u64 (l m 3 : Nat)]] w' fun e w'' => e = .returned (.agg #[.int .u64 (l p 0 : Nat), .int .u64 (l p 1 : Nat), .int .u64 (l p 2 : Nat), .int .u64 (l p 3 : Nat)]) ∧ Gw w' w'')
  (g3 : ∀ (w' : World) (g : Nat), (∀ (j : Nat) (v : Value), ([c0, c1, c2, c3, c4, c5, c6, c7, c8, c9, c10, c11, c12] : List Value)[j]? = some v → w'.cell? ⟨g, 0 + j, none⟩ = some v) → Calls Try.prog 28 #[.pointer (some ⟨g, 0, none⟩), .agg #[.int .u64 (l x 0 : Nat), .int .u64 (l x 1 : Nat), .int .u64 (l x 2 : Nat), .int .u64 (l x 3 : Nat)], .agg #[.int .u64 (e0 + e1 : Nat), .int .u64 0, .int .u64 0, .int .u64 0]] w' fun e w'' => e = .returned (.agg #[.int .u64 (l q 0 : Nat), .int .u64 (l q 1 : Nat), .int .u64 (l q 2 : Nat), .int .u64 (l q 3 : Nat)]) ∧ Gw w' w'')
  (g4 : ∀ (w' : World) (g : Nat), (∀ (j : Nat) (v : Value), ([c0, c1, c2, c3, c4, c5, c6, c7, c8, c9, c10, c11, c12] : List Value)[j]? = some v → w'.cell? ⟨g, 0 + j, none⟩ = some v) → Calls Try.prog 28 #[.pointer (some ⟨g, 0, none⟩), .agg #[.int .u64 (l x 0 : Nat), .int .u64 (l x 1 : Nat), .int .u64 (l x 2 : Nat), .int .u64 (l x 3 : Nat)], .agg #[.int .u64 (e1 : Nat), .int .u64 0, .int .u64 0, .int .u64 0]] w' fun e w'' => e = .returned (.agg #[.int .u64 (l r 0 : Nat), .int .u64 (l r 1 : Nat), .int .u64 (l r 2 : Nat), .int .u64 (l r 3 : Nat)]) ∧ Gw w' w'')
  (g5 : ∀ (w' : World) (g : Nat), (∀ (j : Nat) (v : Value), ([c0, c1, c2, c3, c4, c5, c6, c7, c8, c9, c10, c11, c12] : List Value)[j]? = some v → w'.cell? ⟨g, 0 + j, none⟩ = some v) → Calls Try.prog 12 #[.pointer (some ⟨g, 0, none⟩), .agg #[.int .u64 (l p 0 : Nat), .int .u64 (l p 1 : Nat), .int .u64 (l p 2 : Nat), .int .u64 (l p 3 : Nat)], .agg #[.int .u64 (l r 0 : Nat), .int .u64 (l r 1 : Nat), .int .u64 (l r 2 : Nat), .int .u64 (l r 3 : Nat)]] w' fun e w'' => e = .returned (.agg #[.int .u64 (l q 0 : Nat), .int .u64 (l q 1 : Nat), .int .u64 (l q 2 : Nat), .int .u64 (l q 3 : Nat)]) ∧ Gw w' w'')
  (g6 : ∀ (w' : World) (g : Nat), (∀ (j : Nat) (v : Value), ([c0, c1, c2, c3, c4, c5, c6, c7, c8, c9, c10, c11, c12] : List Value)[j]? = some v → w'.cell? ⟨g, 0 + j, none⟩ = some v) → Calls Try.prog 28 #[.pointer (some ⟨g, 0, none⟩), .agg #[.int .u64 (l x 0 : Nat), .int .u64 (l x 1 : Nat), .int .u64 (l x 2 : Nat), .int .u64 (l x 3 : Nat)], .agg #[.int .u64 0, .int .u64 0, .int .u64 0, .int .u64 0]] w' fun e w'' => e = .returned (.agg #[.int .u64 (l o 0 : Nat), .int .u64 (l o 1 : Nat), .int .u64 (l o 2 : Nat), .int .u64 (l o 3 : Nat)]) ∧ Gw w' w'')
  (e24 : ∀ (x : Nat) (p q : Operand) (w : World), (do eqGuard .eql 24 p q (.agg #[.int .u64 (l x 0 : Nat), .int .u64 (l x 1 : Nat), .int .u64 (l x 2 : Nat), .int .u64 (l x 3 : Nat)]) (.agg #[.int .u64 (l x 0 : Nat), .int .u64 (l x 1 : Nat), .int .u64 (l x 2 : Nat), .int .u64 (l x 3 : Nat)]); binOp .eql 24 (.agg #[.int .u64 (l x 0 : Nat), .int .u64 (l x 1 : Nat), .int .u64 (l x 2 : Nat), .int .u64 (l x 3 : Nat)]) (.agg #[.int .u64 (l x 0 : Nat), .int .u64 (l x 1 : Nat), .int .u64 (l x 2 : Nat), .int .u64 (l x 3 : Nat)]) : Sem Value).run Try.prog w = .ok (.bool true) w) (e23 : ∀ (x : Nat) (p q : Operand) (w : World), (do eqGuard .eql 23 p q (.agg #[.int .u64 (l x 0 : Nat), .int .u64 (l x 1 : Nat), .int .u64 (l x 2 : Nat), .int .u64 (l x 3 : Nat)]) (.agg #[.int .u64 (l x 0 : Nat), .int .u64 (l x 1 : Nat), .int .u64 (l x 2 : Nat), .int .u64 (l x 3 : Nat)]); binOp .eql 23 (.agg #[.int .u64 (l x 0 : Nat), .int .u64 (l x 1 : Nat), .int .u64 (l x 2 : Nat), .int .u64 (l x 3 : Nat)]) (.agg #[.int .u64 (l x 0 : Nat), .int .u64 (l x 1 : Nat), .int .u64 (l x 2 : Nat), .int .u64 (l x 3 : Nat)]) : Sem Value).run Try.prog w = .ok (.bool true) w) :
  Calls Try.prog 8 #[.agg #[.int .u64 (l m 0 : Nat), .int .u64 (l m 1 : Nat), .int .u64 (l m 2 : Nat), .int .u64 (l m 3 : Nat)], .agg #[.int .u64 (l x 0 : Nat), .int .u64 (l x 1 : Nat), .int .u64 (l x 2 : Nat), .int .u64 (l x 3 : Nat)], .agg #[.int .u32 (e0 : Nat), .int .u32 (e1 : Nat)]] w fun e w' => e = .returned (.bool true) ∧ Gw w w' := by
  go_enter Try.func8, Try.ntmps8
  refine ve_go ?_
  simp only [List.map_cons, List.map_nil]
  refine vseq ?_
  apply vrp
  · apply VE.cons
    · exact ev_box rfl rfl (gn rfl) rfl
    simp only [nm, seval]
    apply VE.cons
    · exact ev_box rfl rfl (gn rfl) rfl
    simp only [nm, seval]
    apply VE.cons
    · exact ev_box rfl rfl (gn rfl) rfl
    simp only [nm, seval]
    apply VE.cons
    · exact ev_assign rfl (gn rfl)
    simp only [nm, seval]
    exact VE.nil _
  · kernel_rfl
  change VOk _ _ _ _ _
  refine vseq ?_
  apply vrp
  · apply VE.cons
    · first | exact ev_load rfl (gn rfl) rfl rfl Try.underlying24 rfl Try.sizeOf24 rfl rfl | exact ev_loadx rfl (gn rfl) rfl Try.underlying24 rfl Try.sizeOf24 (by assumption) rfl
    simp only [nm, seval]
    apply VE.cons
    · exact ev_callnew rfl rfl (gn rfl) rfl (en_of Try.func9 (by kernel_rfl) rfl) [c0, c1, c2, c3, c4, c5, c6, c7, c8, c9, c10, c11, c12] 50 (hnew)
    simp only [nm, seval]
    apply VE.cons
    · exact ev_move rfl (gn rfl)
    simp only [nm, seval]
    apply VE.cons
    · exact ev_extract_p rfl (gn rfl) rfl
    simp only [nm, seval]
    apply VE.cons
    · exact ev_extract_y rfl (gn rfl) rfl
    simp only [nm, seval]
    apply VE.cons
    · exact ev_assign rfl (gn rfl)
    simp only [nm, seval]
    apply VE.cons
    · exact ev_assign rfl (gn rfl)
    simp only [nm, seval]
    exact VE.nil _
  · kernel_rfl
  change VOk _ _ _ _ _
  refine vseq ?_
  refine vseq ?_
  apply vrp
  · apply VE.cons
    · exact ev_call rfl (gn rfl) rfl (en_of Try.func10 (by kernel_rfl) rfl) (hsev)
    simp only [nm, seval]
    apply VE.cons
    · refine ev_pure' (gn rfl) (fun ρ w => by simp only [VS.act, SV.c, List.map_cons, List.map_nil]; go_simp; exact rfl) (fun _ _ => rfl)
    simp only [nm, seval]
    apply VE.cons
    · exact ev_move rfl (gn rfl)
    simp only [nm, seval]
    apply VE.cons
    · first | exact Ev.skip (fun _ => rfl) | exact ev_load rfl (fun _ => rfl) rfl rfl Try.underlying24 rfl Try.sizeOf24 rfl rfl | exact ev_loadx rfl (fun _ => rfl) rfl Try.underlying24 rfl Try.sizeOf24 (by assumption) rfl
    simp only [nm, seval]
    apply VE.cons
    · first | exact Ev.skip (fun _ => rfl) | exact ev_call rfl (fun _ => rfl) rfl (en_of Try.func11 (by kernel_rfl) rfl) (hrt)
    simp only [nm, seval]
    apply VE.cons
    · first | exact Ev.skip (fun _ => rfl) | refine ev_pure' (fun _ => rfl) (fun ρ w => by simp only [VS.act, SV.c, List.map_cons, List.map_nil]; go_simp; exact rfl) (fun _ _ => rfl)
    simp only [nm, seval]
    apply VE.cons
    · refine ev_pure' (gn rfl) (fun ρ w => by simp only [VS.act, SV.c, List.map_cons, List.map_nil]; go_simp; exact rfl) (fun _ _ => rfl)
    simp only [nm, seval]
    exact VE.nil _
  · kernel_rfl
  change VOk _ _ _ _ _
  refine vcond_f rfl ?_
  refine vskip ?_
  change VOk _ _ _ _ _
  refine vseq ?_
  apply vrd (by kernel_rfl)
  · apply VE.cons
    · first | exact ev_index rfl (gn rfl) rfl rfl Try.underlying47 Try.sizeOf46 (by decide) (by decide) | exact ev_indexx rfl (gn rfl) rfl rfl Try.underlying47 Try.sizeOf46 (by decide) (by decide)
    simp only [nm, seval]
    apply VE.cons
    · first | exact ev_load1 rfl (gn rfl) rfl rfl Try.underlying46 rfl rfl | exact ev_loadx1 rfl (gn rfl) rfl Try.underlying46 rfl (by first | assumption | exact hm 0 _ rfl | exact hm 1 _ rfl | exact hm 2 _ rfl | exact hm 3 _ rfl)
    simp only [nm, seval]
    apply VE.cons
    · first | exact ev_conv rfl (gn rfl) rfl (fun w => hcv0 w) | exact ev_conv rfl (gn rfl) rfl (fun w => hcv1 w)
    simp only [nm, seval]
    apply VE.cons
    · refine ev_pure' (gn rfl) (fun ρ w => by simp only [VS.act, SV.c, List.map_cons, List.map_nil]; go_simp; exact rfl) (fun _ _ => rfl)
    simp only [nm, seval]
    apply VE.cons
    · first | exact ev_index rfl (gn rfl) rfl rfl Try.underlying47 Try.sizeOf46 (by decide) (by decide) | exact ev_indexx rfl (gn rfl) rfl rfl Try.underlying47 Try.sizeOf46 (by decide) (by decide)
    simp only [nm, seval]
    apply VE.cons
    · first | exact ev_load1 rfl (gn rfl) rfl rfl Try.underlying46 rfl rfl | exact ev_loadx1 rfl (gn rfl) rfl Try.underlying46 rfl (by first | assumption | exact hm 0 _ rfl | exact hm 1 _ rfl | exact hm 2 _ rfl | exact hm 3 _ rfl)
    simp only [nm, seval]
    apply VE.cons
    · first | exact ev_conv rfl (gn rfl) rfl (fun w => hcv0 w) | exact ev_conv rfl (gn rfl) rfl (fun w => hcv1 w)
    simp only [nm, seval]
    apply VE.cons
    · refine ev_pure' (gn rfl) (fun ρ w => by simp only [VS.act, SV.c, List.map_cons, List.map_nil]; go_simp; exact rfl) (fun _ _ => rfl)
    simp only [nm, seval]
    apply VE.cons
    · exact ev_alloc rfl rfl (gn rfl) Try.zeroValue24
    simp only [nm, seval]
    apply VE.cons
    · exact ev_alloc rfl rfl (gn rfl) Try.zeroValue24
    simp only [nm, seval]
    apply VE.cons
    · exact ev_store rfl (gn rfl) rfl rfl rfl Try.sizeOf24 rfl (by simp) rfl
    simp only [nm, seval]
    apply VE.cons
    · exact ev_store rfl (gn rfl) rfl rfl rfl Try.sizeOf24 rfl (by simp) rfl
    simp only [nm, seval]
    exact VE.nil _
  · kernel_rfl
  change VOk _ _ _ _ _
  refine vseq ?_
  apply vrp
  · apply VE.cons
    · first | exact ev_index rfl (gn rfl) rfl rfl Try.underlying47 Try.sizeOf46 (by decide) (by decide) | exact ev_indexx rfl (gn rfl) rfl rfl Try.underlying47 Try.sizeOf46 (by decide) (by decide)
    simp only [nm, seval]
    apply VE.cons
    · first | exact ev_load1 rfl (gn rfl) rfl rfl Try.underlying46 rfl rfl | exact ev_loadx1 rfl (gn rfl) rfl Try.underlying46 rfl (by first | assumption | exact hm 0 _ rfl | exact hm 1 _ rfl | exact hm 2 _ rfl | exact hm 3 _ rfl)
    simp only [nm, seval]
    apply VE.cons
    · first | exact ev_conv rfl (gn rfl) rfl (fun w => hcv0 w) | exact ev_conv rfl (gn rfl) rfl (fun w => hcv1 w)
    simp only [nm, seval]
    apply VE.cons
    · first | exact ev_index rfl (gn rfl) rfl rfl Try.underlying47 Try.sizeOf46 (by decide) (by decide) | exact ev_indexx rfl (gn rfl) rfl rfl Try.underlying47 Try.sizeOf46 (by decide) (by decide)
    simp only [nm, seval]
    apply VE.cons
    · first | exact ev_load1 rfl (gn rfl) rfl rfl Try.underlying46 rfl rfl | exact ev_loadx1 rfl (gn rfl) rfl Try.underlying46 rfl (by first | assumption | exact hm 0 _ rfl | exact hm 1 _ rfl | exact hm 2 _ rfl | exact hm 3 _ rfl)
    simp only [nm, seval]
    apply VE.cons
    · first | exact ev_conv rfl (gn rfl) rfl (fun w => hcv0 w) | exact ev_conv rfl (gn rfl) rfl (fun w => hcv1 w)
    simp only [nm, seval]
    apply VE.cons
    · exact ev_add rfl (gn rfl) rfl rfl hsum
    simp only [nm, seval]
    apply VE.cons
    · refine ev_pure' (gn rfl) (fun ρ w => by simp only [VS.act, SV.c, List.map_cons, List.map_nil]; go_simp; exact rfl) (fun _ _ => rfl)
    simp only [nm, seval]
    apply VE.cons
    · exact ev_alloc rfl rfl (gn rfl) Try.zeroValue24
    simp only [nm, seval]
    apply VE.cons
    · exact ev_store rfl (gn rfl) rfl rfl rfl Try.sizeOf24 rfl (by simp) rfl
    simp only [nm, seval]
    exact VE.nil _
  · kernel_rfl
  change VOk _ _ _ _ _
  refine vseq ?_
  apply vrd (by kernel_rfl)
  · apply VE.cons
    · exact ev_move rfl (gn rfl)
    simp only [nm, seval]
    apply VE.cons
    · refine ev_pure' (gn rfl) (fun ρ w => by simp only [VS.act, SV.c, List.map_cons, List.map_nil]; go_simp; exact rfl) (fun _ _ => rfl)
    simp only [nm, seval]
    apply VE.cons
    · exact ev_move rfl (gn rfl)
    simp only [nm, seval]
    apply VE.cons
    · first | exact Ev.skip (fun _ => rfl) | exact ev_move rfl (fun _ => rfl)
    simp only [nm, seval]
    apply VE.cons
    · first | exact Ev.skip (fun _ => rfl) | exact ev_load rfl (fun _ => rfl) rfl rfl Try.underlying24 rfl Try.sizeOf24 rfl rfl | exact ev_loadx rfl (fun _ => rfl) rfl Try.underlying24 rfl Try.sizeOf24 (by assumption) rfl
    simp only [nm, seval]
    apply VE.cons
    · first | exact Ev.skip (fun _ => rfl) | exact ev_load rfl (fun _ => rfl) rfl rfl Try.underlying24 rfl Try.sizeOf24 rfl rfl | exact ev_loadx rfl (fun _ => rfl) rfl Try.underlying24 rfl Try.sizeOf24 (by assumption) rfl
    simp only [nm, seval]
    apply VE.cons
    · first | exact Ev.skip (fun _ => rfl) | exact ev_callp [14] rfl (fun _ => rfl) rfl (en_of Try.func28 (by kernel_rfl) rfl) (fun ρ w' hs' => g1 w' (ρ 14) (sees_cells hs' (by simp) rfl 0 _ rfl))
    simp only [nm, seval]
    apply VE.cons
    · first | exact Ev.skip (fun _ => rfl) | exact ev_load rfl (fun _ => rfl) rfl rfl Try.underlying24 rfl Try.sizeOf24 rfl rfl | exact ev_loadx rfl (fun _ => rfl) rfl Try.underlying24 rfl Try.sizeOf24 (by assumption) rfl
    simp only [nm, seval]
    apply VE.cons
    · first | exact Ev.skip (fun _ => rfl) | exact ev_load rfl (fun _ => rfl) rfl rfl Try.underlying24 rfl Try.sizeOf24 rfl rfl | exact ev_loadx rfl (fun _ => rfl) rfl Try.underlying24 rfl Try.sizeOf24 (by assumption) rfl
    simp only [nm, seval]
    apply VE.cons
    · first | exact Ev.skip (fun _ => rfl) | exact ev_load rfl (fun _ => rfl) rfl rfl Try.underlying24 rfl Try.sizeOf24 rfl rfl | exact ev_loadx rfl (fun _ => rfl) rfl Try.underlying24 rfl Try.sizeOf24 (by assumption) rfl
    simp only [nm, seval]
    apply VE.cons
    · first | exact Ev.skip (fun _ => rfl) | exact ev_call rfl (fun _ => rfl) rfl (en_of Try.func29 (by kernel_rfl) rfl) (g2)
    simp only [nm, seval]
    apply VE.cons
    · first | exact Ev.skip (fun _ => rfl) | exact ev_bin rfl (fun _ => rfl) rfl rfl (fun w => e23 _ _ _ w)
    simp only [nm, seval]
    apply VE.cons
    · refine ev_pure' (gn rfl) (fun ρ w => by simp only [VS.act, SV.c, List.map_cons, List.map_nil]; go_simp; exact rfl) (fun _ _ => rfl)
    simp only [nm, seval]
    apply VE.cons
    · exact ev_move rfl (gn rfl)
    simp only [nm, seval]
    apply VE.cons
    · first | exact Ev.skip (fun _ => rfl) | exact ev_move rfl (fun _ => rfl)
    simp only [nm, seval]
    apply VE.cons
    · first | exact Ev.skip (fun _ => rfl) | exact ev_load rfl (fun _ => rfl) rfl rfl Try.underlying24 rfl Try.sizeOf24 rfl rfl | exact ev_loadx rfl (fun _ => rfl) rfl Try.underlying24 rfl Try.sizeOf24 (by assumption) rfl
    simp only [nm, seval]
    apply VE.cons
    · first | exact Ev.skip (fun _ => rfl) | exact ev_load rfl (fun _ => rfl) rfl rfl Try.underlying24 rfl Try.sizeOf24 rfl rfl | exact ev_loadx rfl (fun _ => rfl) rfl Try.underlying24 rfl Try.sizeOf24 (by assumption) rfl
    simp only [nm, seval]
    apply VE.cons
    · first | exact Ev.skip (fun _ => rfl) | exact ev_callp [14] rfl (fun _ => rfl) rfl (en_of Try.func28 (by kernel_rfl) rfl) (fun ρ w' hs' => g3 w' (ρ 14) (sees_cells hs' (by simp) rfl 0 _ rfl))
    simp only [nm, seval]
    apply VE.cons
    · first | exact Ev.skip (fun _ => rfl) | exact ev_move rfl (fun _ => rfl)
    simp only [nm, seval]
    apply VE.cons
    · first | exact Ev.skip (fun _ => rfl) | exact ev_move rfl (fun _ => rfl)
    simp only [nm, seval]
    apply VE.cons
    · first | exact Ev.skip (fun _ => rfl) | exact ev_load rfl (fun _ => rfl) rfl rfl Try.underlying24 rfl Try.sizeOf24 rfl rfl | exact ev_loadx rfl (fun _ => rfl) rfl Try.underlying24 rfl Try.sizeOf24 (by assumption) rfl
    simp only [nm, seval]
    apply VE.cons
    · first | exact Ev.skip (fun _ => rfl) | exact ev_load rfl (fun _ => rfl) rfl rfl Try.underlying24 rfl Try.sizeOf24 rfl rfl | exact ev_loadx rfl (fun _ => rfl) rfl Try.underlying24 rfl Try.sizeOf24 (by assumption) rfl
    simp only [nm, seval]
    apply VE.cons
    · first | exact Ev.skip (fun _ => rfl) | exact ev_callp [14] rfl (fun _ => rfl) rfl (en_of Try.func28 (by kernel_rfl) rfl) (fun ρ w' hs' => g1 w' (ρ 14) (sees_cells hs' (by simp) rfl 0 _ rfl))
    simp only [nm, seval]
    apply VE.cons
    · first | exact Ev.skip (fun _ => rfl) | exact ev_move rfl (fun _ => rfl)
    simp only [nm, seval]
    apply VE.cons
    · first | exact Ev.skip (fun _ => rfl) | exact ev_load rfl (fun _ => rfl) rfl rfl Try.underlying24 rfl Try.sizeOf24 rfl rfl | exact ev_loadx rfl (fun _ => rfl) rfl Try.underlying24 rfl Try.sizeOf24 (by assumption) rfl
    simp only [nm, seval]
    apply VE.cons
    · first | exact Ev.skip (fun _ => rfl) | exact ev_load rfl (fun _ => rfl) rfl rfl Try.underlying24 rfl Try.sizeOf24 rfl rfl | exact ev_loadx rfl (fun _ => rfl) rfl Try.underlying24 rfl Try.sizeOf24 (by assumption) rfl
    simp only [nm, seval]
    apply VE.cons
    · first | exact Ev.skip (fun _ => rfl) | exact ev_callp [14] rfl (fun _ => rfl) rfl (en_of Try.func28 (by kernel_rfl) rfl) (fun ρ w' hs' => g4 w' (ρ 14) (sees_cells hs' (by simp) rfl 0 _ rfl))
    simp only [nm, seval]
    apply VE.cons
    · first | exact Ev.skip (fun _ => rfl) | exact ev_callp [14] rfl (fun _ => rfl) rfl (en_of Try.func12 (by kernel_rfl) rfl) (fun ρ w' hs' => g5 w' (ρ 14) (sees_cells hs' (by simp) rfl 0 _ rfl))
    simp only [nm, seval]
    apply VE.cons
    · first | exact Ev.skip (fun _ => rfl) | exact ev_bin rfl (fun _ => rfl) rfl rfl (fun w => e24 _ _ _ w)
    simp only [nm, seval]
    apply VE.cons
    · refine ev_pure' (gn rfl) (fun ρ w => by simp only [VS.act, SV.c, List.map_cons, List.map_nil]; go_simp; exact rfl) (fun _ _ => rfl)
    simp only [nm, seval]
    apply VE.cons
    · exact ev_move rfl (gn rfl)
    simp only [nm, seval]
    apply VE.cons
    · first | exact Ev.skip (fun _ => rfl) | exact ev_move rfl (fun _ => rfl)
    simp only [nm, seval]
    apply VE.cons
    · first | exact Ev.skip (fun _ => rfl) | exact ev_load rfl (fun _ => rfl) rfl rfl Try.underlying24 rfl Try.sizeOf24 rfl rfl | exact ev_loadx rfl (fun _ => rfl) rfl Try.underlying24 rfl Try.sizeOf24 (by assumption) rfl
    simp only [nm, seval]
    apply VE.cons
    · first | exact Ev.skip (fun _ => rfl) | refine ev_pure' (fun _ => rfl) (fun ρ w => by simp only [VS.act, SV.c, List.map_cons, List.map_nil]; go_simp; exact rfl) (fun _ _ => rfl)
    simp only [nm, seval]
    apply VE.cons
    · first | exact Ev.skip (fun _ => rfl) | exact ev_callp [14] rfl (fun _ => rfl) rfl (en_of Try.func28 (by kernel_rfl) rfl) (fun ρ w' hs' => g6 w' (ρ 14) (sees_cells hs' (by simp) rfl 0 _ rfl))
    simp only [nm, seval]
    apply VE.cons
    · first | exact Ev.skip (fun _ => rfl) | refine ev_pure' (fun _ => rfl) (fun ρ w => by simp only [VS.act, SV.c, List.map_cons, List.map_nil]; go_simp; exact rfl) (fun _ _ => rfl)
    simp only [nm, seval]
    apply VE.cons
    · first | exact Ev.skip (fun _ => rfl) | exact ev_bin rfl (fun _ => rfl) rfl rfl (fun w => e1x  _ _ w)
    simp only [nm, seval]
    apply VE.cons
    · refine ev_pure' (gn rfl) (fun ρ w => by simp only [VS.act, SV.c, List.map_cons, List.map_nil]; go_simp; exact rfl) (fun _ _ => rfl)
    simp only [nm, seval]
    apply VE.cons
    · exact ev_assign rfl (gn rfl)
    simp only [nm, seval]
    exact VE.nil _
  · kernel_rfl
  change VOk _ _ _ _ _
  refine vret ?_
  refine post_ret (res1 Try.results8 (rv_tmp rfl)) ?_
  intro w' hg
  exact ⟨rfl, hg⟩
end Go.Proofs.Ytcbddldodpdikaa
