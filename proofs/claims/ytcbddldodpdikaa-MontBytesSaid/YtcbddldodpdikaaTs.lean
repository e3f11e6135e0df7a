import Derived.Test.YtcbddldodpdikaaProg
import Derived.Test.YtcbddldodpdikaaVo
namespace Go.Proofs.Ytcbddldodpdikaa
open Go.RowKit Go.Toll
set_option maxHeartbeats 4000000
set_option maxRecDepth 100000
theorem law_MontBytes_lo (l : Nat → Nat → Nat) (m x b0 b1 b2 b3 b4 b5 b6 b7 b8 b9 b10 b11 b12 b13 b14 b15 b16 b17 b18 b19 b20 b21 b22 b23 b24 b25 b26 b27 b28 b29 b30 b31 d0 d1 d2 d3 d4 d5 d6 d7 d8 d9 d10 d11 d12 d13 d14 d15 d16 d17 d18 d19 d20 d21 d22 d23 d24 d25 d26 d27 d28 d29 d30 d31 : Nat) (i : Int) (lt : Bool) (e39 : ∀ (p q : Operand) (w : World), (do eqGuard .eql 39 p q (.agg #[.int .u8 (b0 : Nat), .int .u8 (b1 : Nat), .int .u8 (b2 : Nat), .int .u8 (b3 : Nat), .int .u8 (b4 : Nat), .int .u8 (b5 : Nat), .int .u8 (b6 : Nat), .int .u8 (b7 : Nat), .int .u8 (b8 : Nat), .int .u8 (b9 : Nat), .int .u8 (b10 : Nat), .int .u8 (b11 : Nat), .int .u8 (b12 : Nat), .int .u8 (b13 : Nat), .int .u8 (b14 : Nat), .int .u8 (b15 : Nat), .int .u8 (b16 : Nat), .int .u8 (b17 : Nat), .int .u8 (b18 : Nat), .int .u8 (b19 : Nat), .int .u8 (b20 : Nat), .int .u8 (b21 : Nat), .int .u8 (b22 : Nat), .int .u8 (b23 : Nat), .int .u8 (b24 : Nat), .int .u8 (b25 : Nat), .int .u8 (b26 : Nat), .int .u8 (b27 : Nat), .int .u8 (b28 : Nat), .int .u8 (b29 : Nat), .int .u8 (b30 : Nat), .int .u8 (b31 : Nat)]) (.agg #[.int .u8 (b0 : Nat), .int .u8 (b1 : Nat), .int .u8 (b2 : Nat), .int .u8 (b3 : Nat), .int .u8 (b4 : Nat), .int .u8 (b5 : Nat), .int .u8 (b6 : Nat), .int .u8 (b7 : Nat), .int .u8 (b8 : Nat), .int .u8 (b9 : Nat), .int .u8 (b10 : Nat), .int .u8 (b11 : Nat), .int .u8 (b12 : Nat), .int .u8 (b13 : Nat), .int .u8 (b14 : Nat), .int .u8 (b15 : Nat), .int .u8 (b16 : Nat), .int .u8 (b17 : Nat), .int .u8 (b18 : Nat), .int .u8 (b19 : Nat), .int .u8 (b20 : Nat), .int .u8 (b21 : Nat), .int .u8 (b22 : Nat), .int .u8 (b23 : Nat), .int .u8 (b24 : Nat), .int .u8 (b25 : Nat), .int .u8 (b26 : Nat), .int .u8 (b27 : Nat), .int .u8 (b28 : Nat), .int .u8 (b29 : Nat), .int .u8 (b30 : Nat), .int .u8 (b31 : Nat)]); binOp .eql 39 (.agg #[.int .u8 (b0 : Nat), .int .u8 (b1 : Nat), .int .u8 (b2 : Nat), .int .u8 (b3 : Nat), .int .u8 (b4 : Nat), .int .u8 (b5 : Nat), .int .u8 (b6 : Nat), .int .u8 (b7 : Nat), .int .u8 (b8 : Nat), .int .u8 (b9 : Nat), .int .u8 (b10 : Nat), .int .u8 (b11 : Nat), .int .u8 (b12 : Nat), .int .u8 (b13 : Nat), .int .u8 (b14 : Nat), .int .u8 (b15 : Nat), .int .u8 (b16 : Nat), .int .u8 (b17 : Nat), .int .u8 (b18 : Nat), .int .u8 (b19 : Nat), .int .u8 (b20 : Nat), .int .u8 (b21 : Nat), .int .u8 (b22 : Nat), .int .u8 (b23 : Nat), .int .u8 (b24 : Nat), .int .u8 (b25 : Nat), .int .u8 (b26 : Nat), .int .u8 (b27 : Nat), .int .u8 (b28 : Nat), .int .u8 (b29 : Nat), .int .u8 (b30 : Nat), .int .u8 (b31 : Nat)]) (.agg #[.int .u8 (b0 : Nat), .int .u8 (b1 : Nat), .int .u8 (b2 : Nat), .int .u8 (b3 : Nat), .int .u8 (b4 : Nat), .int .u8 (b5 : Nat), .int .u8 (b6 : Nat), .int .u8 (b7 : Nat), .int .u8 (b8 : Nat), .int .u8 (b9 : Nat), .int .u8 (b10 : Nat), .int .u8 (b11 : Nat), .int .u8 (b12 : Nat), .int .u8 (b13 : Nat), .int .u8 (b14 : Nat), .int .u8 (b15 : Nat), .int .u8 (b16 : Nat), .int .u8 (b17 : Nat), .int .u8 (b18 : Nat), .int .u8 (b19 : Nat), .int .u8 (b20 : Nat), .int .u8 (b21 : Nat), .int .u8 (b22 : Nat), .int .u8 (b23 : Nat), .int .u8 (b24 : Nat), .int .u8 (b25 : Nat), .int .u8 (b26 : Nat), .int .u8 (b27 : Nat), .int .u8 (b28 : Nat), .int .u8 (b29 : Nat), .int .u8 (b30 : Nat), .int .u8 (b31 : Nat)]) : Sem Value).run Try.prog w = .ok (.bool true) w) (e4 : ∀ (p q : Operand) (w : World), (do eqGuard .eql 4 p q (.bool lt) (.bool lt); binOp .eql 4 (.bool lt) (.bool lt) : Sem Value).run Try.prog w = .ok (.bool true) w) (h0 : decide ((0 : Int) ≤ i) = false) (w : World)
  (hsev : ∀ w', Gw w w' → Calls Try.prog 10 #[] w' fun e w'' => e = .returned (.bool true) ∧ Gw w' w'')
  (g1 : ∀ w', Gw w w' → Calls Try.prog 22 #[.agg #[.int .u8 (b0 : Nat), .int .u8 (b1 : Nat), .int .u8 (b2 : Nat), .int .u8 (b3 : Nat), .int .u8 (b4 : Nat), .int .u8 (b5 : Nat), .int .u8 (b6 : Nat), .int .u8 (b7 : Nat), .int .u8 (b8 : Nat), .int .u8 (b9 : Nat), .int .u8 (b10 : Nat), .int .u8 (b11 : Nat), .int .u8 (b12 : Nat), .int .u8 (b13 : Nat), .int .u8 (b14 : Nat), .int .u8 (b15 : Nat), .int .u8 (b16 : Nat), .int .u8 (b17 : Nat), .int .u8 (b18 : Nat), .int .u8 (b19 : Nat), .int .u8 (b20 : Nat), .int .u8 (b21 : Nat), .int .u8 (b22 : Nat), .int .u8 (b23 : Nat), .int .u8 (b24 : Nat), .int .u8 (b25 : Nat), .int .u8 (b26 : Nat), .int .u8 (b27 : Nat), .int .u8 (b28 : Nat), .int .u8 (b29 : Nat), .int .u8 (b30 : Nat), .int .u8 (b31 : Nat)]] w' fun e w'' => e = .returned (.agg #[.int .u64 (l x 0 : Nat), .int .u64 (l x 1 : Nat), .int .u64 (l x 2 : Nat), .int .u64 (l x 3 : Nat)]) ∧ Gw w' w'')
  (g2 : ∀ w', Gw w w' → Calls Try.prog 23 #[.agg #[.int .u8 (b0 : Nat), .int .u8 (b1 : Nat), .int .u8 (b2 : Nat), .int .u8 (b3 : Nat), .int .u8 (b4 : Nat), .int .u8 (b5 : Nat), .int .u8 (b6 : Nat), .int .u8 (b7 : Nat), .int .u8 (b8 : Nat), .int .u8 (b9 : Nat), .int .u8 (b10 : Nat), .int .u8 (b11 : Nat), .int .u8 (b12 : Nat), .int .u8 (b13 : Nat), .int .u8 (b14 : Nat), .int .u8 (b15 : Nat), .int .u8 (b16 : Nat), .int .u8 (b17 : Nat), .int .u8 (b18 : Nat), .int .u8 (b19 : Nat), .int .u8 (b20 : Nat), .int .u8 (b21 : Nat), .int .u8 (b22 : Nat), .int .u8 (b23 : Nat), .int .u8 (b24 : Nat), .int .u8 (b25 : Nat), .int .u8 (b26 : Nat), .int .u8 (b27 : Nat), .int .u8 (b28 : Nat), .int .u8 (b29 : Nat), .int .u8 (b30 : Nat), .int .u8 (b31 : Nat)]] w' fun e w'' => e = .returned (.agg #[.int .u64 (l x 0 : Nat), .int .u64 (l x 1 : Nat), .int .u64 (l x 2 : Nat), .int .u64 (l x 3 : Nat)]) ∧ Gw w' w'')
  (g3 : ∀ w', Gw w w' → Calls Try.prog 24 #[.agg #[.int .u64 (l x 0 : Nat), .int .u64 (l x 1 : Nat), .int .u64 (l x 2 : Nat), .int .u64 (l x 3 : Nat)]] w' fun e w'' => e = .returned (.agg #[.int .u8 (b0 : Nat), .int .u8 (b1 : Nat), .int .u8 (b2 : Nat), .int .u8 (b3 : Nat), .int .u8 (b4 : Nat), .int .u8 (b5 : Nat), .int .u8 (b6 : Nat), .int .u8 (b7 : Nat), .int .u8 (b8 : Nat), .int .u8 (b9 : Nat), .int .u8 (b10 : Nat), .int .u8 (b11 : Nat), .int .u8 (b12 : Nat), .int .u8 (b13 : Nat), .int .u8 (b14 : Nat), .int .u8 (b15 : Nat), .int .u8 (b16 : Nat), .int .u8 (b17 : Nat), .int .u8 (b18 : Nat), .int .u8 (b19 : Nat), .int .u8 (b20 : Nat), .int .u8 (b21 : Nat), .int .u8 (b22 : Nat), .int .u8 (b23 : Nat), .int .u8 (b24 : Nat), .int .u8 (b25 : Nat), .int .u8 (b26 : Nat), .int .u8 (b27 : Nat), .int .u8 (b28 : Nat), .int .u8 (b29 : Nat), .int .u8 (b30 : Nat), .int .u8 (b31 : Nat)]) ∧ Gw w' w'')
  (g4 : ∀ w', Gw w w' → Calls Try.prog 24 #[.agg #[.int .u64 (l m 0 : Nat), .int .u64 (l m 1 : Nat), .int .u64 (l m 2 : Nat), .int .u64 (l m 3 : Nat)]] w' fun e w'' => e = .returned (.agg #[.int .u8 (d0 : Nat), .int .u8 (d1 : Nat), .int .u8 (d2 : Nat), .int .u8 (d3 : Nat), .int .u8 (d4 : Nat), .int .u8 (d5 : Nat), .int .u8 (d6 : Nat), .int .u8 (d7 : Nat), .int .u8 (d8 : Nat), .int .u8 (d9 : Nat), .int .u8 (d10 : Nat), .int .u8 (d11 : Nat), .int .u8 (d12 : Nat), .int .u8 (d13 : Nat), .int .u8 (d14 : Nat), .int .u8 (d15 : Nat), .int .u8 (d16 : Nat), .int .u8 (d17 : Nat), .int .u8 (d18 : Nat), .int .u8 (d19 : Nat), .int .u8 (d20 : Nat), .int .u8 (d21 : Nat), .int .u8 (d22 : Nat), .int .u8 (d23 : Nat), .int .u8 (d24 : Nat), .int .u8 (d25 : Nat), .int .u8 (d26 : Nat), .int .u8 (d27 : Nat), .int .u8 (d28 : Nat), .int .u8 (d29 : Nat), .int .u8 (d30 : Nat), .int .u8 (d31 : Nat)]) ∧ Gw w' w'')
  (g5 : ∀ w', Gw w w' → Calls Try.prog 22 #[.agg #[.int .u8 (d0 : Nat), .int .u8 (d1 : Nat), .int .u8 (d2 : Nat), .int .u8 (d3 : Nat), .int .u8 (d4 : Nat), .int .u8 (d5 : Nat), .int .u8 (d6 : Nat), .int .u8 (d7 : Nat), .int .u8 (d8 : Nat), .int .u8 (d9 : Nat), .int .u8 (d10 : Nat), .int .u8 (d11 : Nat), .int .u8 (d12 : Nat), .int .u8 (d13 : Nat), .int .u8 (d14 : Nat), .int .u8 (d15 : Nat), .int .u8 (d16 : Nat), .int .u8 (d17 : Nat), .int .u8 (d18 : Nat), .int .u8 (d19 : Nat), .int .u8 (d20 : Nat), .int .u8 (d21 : Nat), .int .u8 (d22 : Nat), .int .u8 (d23 : Nat), .int .u8 (d24 : Nat), .int .u8 (d25 : Nat), .int .u8 (d26 : Nat), .int .u8 (d27 : Nat), .int .u8 (d28 : Nat), .int .u8 (d29 : Nat), .int .u8 (d30 : Nat), .int .u8 (d31 : Nat)]] w' fun e w'' => e = .returned (.agg #[.int .u64 (l m 0 : Nat), .int .u64 (l m 1 : Nat), .int .u64 (l m 2 : Nat), .int .u64 (l m 3 : Nat)]) ∧ Gw w' w'')
  (g6 : ∀ w', Gw w w' → Calls Try.prog 25 #[.agg #[.int .u64 (l x 0 : Nat), .int .u64 (l x 1 : Nat), .int .u64 (l x 2 : Nat), .int .u64 (l x 3 : Nat)], .agg #[.int .u64 (l m 0 : Nat), .int .u64 (l m 1 : Nat), .int .u64 (l m 2 : Nat), .int .u64 (l m 3 : Nat)]] w' fun e w'' => e = .returned (.bool lt) ∧ Gw w' w'')
  (g7 : ∀ w', Gw w w' → Calls Try.prog 26 #[.agg #[.int .u64 (l x 0 : Nat), .int .u64 (l x 1 : Nat), .int .u64 (l x 2 : Nat), .int .u64 (l x 3 : Nat)], .agg #[.int .u64 (l m 0 : Nat), .int .u64 (l m 1 : Nat), .int .u64 (l m 2 : Nat), .int .u64 (l m 3 : Nat)]] w' fun e w'' => e = .returned (.bool lt) ∧ Gw w' w'')
  (g8 : ∀ w', Gw w w' → Calls Try.prog 27 #[.agg #[.int .u64 (l x 0 : Nat), .int .u64 (l x 1 : Nat), .int .u64 (l x 2 : Nat), .int .u64 (l x 3 : Nat)], .int .i64 i] w' fun e w'' => e = .returned (.int .i64 0) ∧ Gw w' w'')
  (e24 : ∀ (x : Nat) (p q : Operand) (w : World), (do eqGuard .eql 24 p q (.agg #[.int .u64 (l x 0 : Nat), .int .u64 (l x 1 : Nat), .int .u64 (l x 2 : Nat), .int .u64 (l x 3 : Nat)]) (.agg #[.int .u64 (l x 0 : Nat), .int .u64 (l x 1 : Nat), .int .u64 (l x 2 : Nat), .int .u64 (l x 3 : Nat)]); binOp .eql 24 (.agg #[.int .u64 (l x 0 : Nat), .int .u64 (l x 1 : Nat), .int .u64 (l x 2 : Nat), .int .u64 (l x 3 : Nat)]) (.agg #[.int .u64 (l x 0 : Nat), .int .u64 (l x 1 : Nat), .int .u64 (l x 2 : Nat), .int .u64 (l x 3 : Nat)]) : Sem Value).run Try.prog w = .ok (.bool true) w) (e23 : ∀ (x : Nat) (p q : Operand) (w : World), (do eqGuard .eql 23 p q (.agg #[.int .u64 (l x 0 : Nat), .int .u64 (l x 1 : Nat), .int .u64 (l x 2 : Nat), .int .u64 (l x 3 : Nat)]) (.agg #[.int .u64 (l x 0 : Nat), .int .u64 (l x 1 : Nat), .int .u64 (l x 2 : Nat), .int .u64 (l x 3 : Nat)]); binOp .eql 23 (.agg #[.int .u64 (l x 0 : Nat), .int .u64 (l x 1 : Nat), .int .u64 (l x 2 : Nat), .int .u64 (l x 3 : Nat)]) (.agg #[.int .u64 (l x 0 : Nat), .int .u64 (l x 1 : Nat), .int .u64 (l x 2 : Nat), .int .u64 (l x 3 : Nat)]) : Sem Value).run Try.prog w = .ok (.bool true) w) :
  Calls Try.prog 7 #[.agg #[.int .u8 (b0 : Nat), .int .u8 (b1 : Nat), .int .u8 (b2 : Nat), .int .u8 (b3 : Nat), .int .u8 (b4 : Nat), .int .u8 (b5 : Nat), .int .u8 (b6 : Nat), .int .u8 (b7 : Nat), .int .u8 (b8 : Nat), .int .u8 (b9 : Nat), .int .u8 (b10 : Nat), .int .u8 (b11 : Nat), .int .u8 (b12 : Nat), .int .u8 (b13 : Nat), .int .u8 (b14 : Nat), .int .u8 (b15 : Nat), .int .u8 (b16 : Nat), .int .u8 (b17 : Nat), .int .u8 (b18 : Nat), .int .u8 (b19 : Nat), .int .u8 (b20 : Nat), .int .u8 (b21 : Nat), .int .u8 (b22 : Nat), .int .u8 (b23 : Nat), .int .u8 (b24 : Nat), .int .u8 (b25 : Nat), .int .u8 (b26 : Nat), .int .u8 (b27 : Nat), .int .u8 (b28 : Nat), .int .u8 (b29 : Nat), .int .u8 (b30 : Nat), .int .u8 (b31 : Nat)], .agg #[.int .u64 (l m 0 : Nat), .int .u64 (l m 1 : Nat), .int .u64 (l m 2 : Nat), .int .u64 (l m 3 : Nat)], .int .i64 i] w fun e w' => e = .returned (.bool true) ∧ Gw w w' := by
  go_enter Try.func7, Try.ntmps7
  refine ve_go ?_
  simp only [List.map_cons, List.map_nil]
  refine vseq ?_
  apply vrp
  · apply VE.cons
    · exact ev_box rfl rfl (gn rfl) rfl
    simp only [nm, seval]
    apply VE.cons
    · exact ev_box rfl rfl (gn rfl) rfl
    simp only [nm, seval]
    apply VE.cons
    · exact ev_assign rfl (gn rfl)
    simp only [nm, seval]
    exact VE.nil _
  · kernel_rfl
  change VOk _ _ _ _ _
  refine vseq ?_
  apply vrp
  · apply VE.cons
    · first | exact ev_load rfl (gn rfl) rfl rfl Try.underlying39 rfl Try.sizeOf39 rfl rfl | exact ev_loadx rfl (gn rfl) rfl Try.underlying39 rfl Try.sizeOf39 (by assumption) rfl
    simp only [nm, seval]
    apply VE.cons
    · exact ev_call rfl (gn rfl) rfl (en_of Try.func22 (by kernel_rfl) rfl) (g1)
    simp only [nm, seval]
    apply VE.cons
    · exact ev_alloc rfl rfl (gn rfl) Try.zeroValue24
    simp only [nm, seval]
    apply VE.cons
    · exact ev_store rfl (gn rfl) rfl rfl rfl Try.sizeOf24 rfl (by simp) rfl
    simp only [nm, seval]
    exact VE.nil _
  · kernel_rfl
  change VOk _ _ _ _ _
  refine vseq ?_
  apply vrp
  · apply VE.cons
    · exact ev_assign rfl (gn rfl)
    simp only [nm, seval]
    exact VE.nil _
  · kernel_rfl
  change VOk _ _ _ _ _
  refine vseq ?_
  refine vseq ?_
  apply vrp
  · apply VE.cons
    · exact ev_move rfl (gn rfl)
    simp only [nm, seval]
    apply VE.cons
    · exact ev_geq (p := false) rfl (gn rfl) rfl rfl h0
    simp only [nm, seval]
    apply VE.cons
    · exact ev_move rfl (gn rfl)
    simp only [nm, seval]
    apply VE.cons
    · first | exact Ev.skip (fun _ => rfl) | exact ev_move rfl (fun _ => rfl)
    simp only [nm, seval]
    apply VE.cons
    · first | exact Ev.skip (fun _ => rfl) | refine ev_pure' (fun _ => rfl) (fun ρ w => by simp only [VS.act, SV.c, List.map_cons, List.map_nil]; go_simp; exact rfl) (fun _ _ => rfl)
    simp only [nm, seval]
    apply VE.cons
    · refine ev_pure' (gn rfl) (fun ρ w => by simp only [VS.act, SV.c, List.map_cons, List.map_nil]; go_simp; exact rfl) (fun _ _ => rfl)
    simp only [nm, seval]
    exact VE.nil _
  · kernel_rfl
  change VOk _ _ _ _ _
  refine vcond_f rfl ?_
  refine vskip ?_
  change VOk _ _ _ _ _
  refine vseq ?_
  apply vrd (by kernel_rfl)
  · apply VE.cons
    · exact ev_call rfl (gn rfl) rfl (en_of Try.func10 (by kernel_rfl) rfl) (hsev)
    simp only [nm, seval]
    apply VE.cons
    · exact ev_move rfl (gn rfl)
    simp only [nm, seval]
    apply VE.cons
    · first | exact Ev.skip (fun _ => rfl) | exact ev_load rfl (fun _ => rfl) rfl rfl Try.underlying24 rfl Try.sizeOf24 rfl rfl | exact ev_loadx rfl (fun _ => rfl) rfl Try.underlying24 rfl Try.sizeOf24 (by assumption) rfl
    simp only [nm, seval]
    apply VE.cons
    · first | exact Ev.skip (fun _ => rfl) | exact ev_load rfl (fun _ => rfl) rfl rfl Try.underlying39 rfl Try.sizeOf39 rfl rfl | exact ev_loadx rfl (fun _ => rfl) rfl Try.underlying39 rfl Try.sizeOf39 (by assumption) rfl
    simp only [nm, seval]
    apply VE.cons
    · first | exact Ev.skip (fun _ => rfl) | exact ev_call rfl (fun _ => rfl) rfl (en_of Try.func23 (by kernel_rfl) rfl) (g2)
    simp only [nm, seval]
    apply VE.cons
    · first | exact Ev.skip (fun _ => rfl) | exact ev_bin rfl (fun _ => rfl) rfl rfl (fun w => e23 _ _ _ w)
    simp only [nm, seval]
    apply VE.cons
    · refine ev_pure' (gn rfl) (fun ρ w => by simp only [VS.act, SV.c, List.map_cons, List.map_nil]; go_simp; exact rfl) (fun _ _ => rfl)
    simp only [nm, seval]
    apply VE.cons
    · exact ev_move rfl (gn rfl)
    simp only [nm, seval]
    apply VE.cons
    · first | exact Ev.skip (fun _ => rfl) | exact ev_load rfl (fun _ => rfl) rfl rfl Try.underlying24 rfl Try.sizeOf24 rfl rfl | exact ev_loadx rfl (fun _ => rfl) rfl Try.underlying24 rfl Try.sizeOf24 (by assumption) rfl
    simp only [nm, seval]
    apply VE.cons
    · first | exact Ev.skip (fun _ => rfl) | exact ev_call rfl (fun _ => rfl) rfl (en_of Try.func24 (by kernel_rfl) rfl) (g3)
    simp only [nm, seval]
    apply VE.cons
    · first | exact Ev.skip (fun _ => rfl) | exact ev_load rfl (fun _ => rfl) rfl rfl Try.underlying39 rfl Try.sizeOf39 rfl rfl | exact ev_loadx rfl (fun _ => rfl) rfl Try.underlying39 rfl Try.sizeOf39 (by assumption) rfl
    simp only [nm, seval]
    apply VE.cons
    · first | exact Ev.skip (fun _ => rfl) | exact ev_bin rfl (fun _ => rfl) rfl rfl (fun w => e39  _ _ w)
    simp only [nm, seval]
    apply VE.cons
    · refine ev_pure' (gn rfl) (fun ρ w => by simp only [VS.act, SV.c, List.map_cons, List.map_nil]; go_simp; exact rfl) (fun _ _ => rfl)
    simp only [nm, seval]
    apply VE.cons
    · exact ev_move rfl (gn rfl)
    simp only [nm, seval]
    apply VE.cons
    · first | exact Ev.skip (fun _ => rfl) | exact ev_load rfl (fun _ => rfl) rfl rfl Try.underlying24 rfl Try.sizeOf24 rfl rfl | exact ev_loadx rfl (fun _ => rfl) rfl Try.underlying24 rfl Try.sizeOf24 (by assumption) rfl
    simp only [nm, seval]
    apply VE.cons
    · first | exact Ev.skip (fun _ => rfl) | exact ev_call rfl (fun _ => rfl) rfl (en_of Try.func24 (by kernel_rfl) rfl) (g4)
    simp only [nm, seval]
    apply VE.cons
    · first | exact Ev.skip (fun _ => rfl) | exact ev_call rfl (fun _ => rfl) rfl (en_of Try.func22 (by kernel_rfl) rfl) (g5)
    simp only [nm, seval]
    apply VE.cons
    · first | exact Ev.skip (fun _ => rfl) | exact ev_load rfl (fun _ => rfl) rfl rfl Try.underlying24 rfl Try.sizeOf24 rfl rfl | exact ev_loadx rfl (fun _ => rfl) rfl Try.underlying24 rfl Try.sizeOf24 (by assumption) rfl
    simp only [nm, seval]
    apply VE.cons
    · first | exact Ev.skip (fun _ => rfl) | exact ev_bin rfl (fun _ => rfl) rfl rfl (fun w => e24 _ _ _ w)
    simp only [nm, seval]
    apply VE.cons
    · refine ev_pure' (gn rfl) (fun ρ w => by simp only [VS.act, SV.c, List.map_cons, List.map_nil]; go_simp; exact rfl) (fun _ _ => rfl)
    simp only [nm, seval]
    apply VE.cons
    · exact ev_move rfl (gn rfl)
    simp only [nm, seval]
    apply VE.cons
    · first | exact Ev.skip (fun _ => rfl) | exact ev_load rfl (fun _ => rfl) rfl rfl Try.underlying24 rfl Try.sizeOf24 rfl rfl | exact ev_loadx rfl (fun _ => rfl) rfl Try.underlying24 rfl Try.sizeOf24 (by assumption) rfl
    simp only [nm, seval]
    apply VE.cons
    · first | exact Ev.skip (fun _ => rfl) | exact ev_load rfl (fun _ => rfl) rfl rfl Try.underlying24 rfl Try.sizeOf24 rfl rfl | exact ev_loadx rfl (fun _ => rfl) rfl Try.underlying24 rfl Try.sizeOf24 (by assumption) rfl
    simp only [nm, seval]
    apply VE.cons
    · first | exact Ev.skip (fun _ => rfl) | exact ev_call rfl (fun _ => rfl) rfl (en_of Try.func25 (by kernel_rfl) rfl) (g6)
    simp only [nm, seval]
    apply VE.cons
    · first | exact Ev.skip (fun _ => rfl) | exact ev_load rfl (fun _ => rfl) rfl rfl Try.underlying24 rfl Try.sizeOf24 rfl rfl | exact ev_loadx rfl (fun _ => rfl) rfl Try.underlying24 rfl Try.sizeOf24 (by assumption) rfl
    simp only [nm, seval]
    apply VE.cons
    · first | exact Ev.skip (fun _ => rfl) | exact ev_load rfl (fun _ => rfl) rfl rfl Try.underlying24 rfl Try.sizeOf24 rfl rfl | exact ev_loadx rfl (fun _ => rfl) rfl Try.underlying24 rfl Try.sizeOf24 (by assumption) rfl
    simp only [nm, seval]
    apply VE.cons
    · first | exact Ev.skip (fun _ => rfl) | exact ev_call rfl (fun _ => rfl) rfl (en_of Try.func26 (by kernel_rfl) rfl) (g7)
    simp only [nm, seval]
    apply VE.cons
    · first | exact Ev.skip (fun _ => rfl) | exact ev_bin rfl (fun _ => rfl) rfl rfl (fun w => e4  _ _ w)
    simp only [nm, seval]
    apply VE.cons
    · refine ev_pure' (gn rfl) (fun ρ w => by simp only [VS.act, SV.c, List.map_cons, List.map_nil]; go_simp; exact rfl) (fun _ _ => rfl)
    simp only [nm, seval]
    apply VE.cons
    · exact ev_move rfl (gn rfl)
    simp only [nm, seval]
    apply VE.cons
    · first | exact Ev.skip (fun _ => rfl) | exact ev_load rfl (fun _ => rfl) rfl rfl Try.underlying24 rfl Try.sizeOf24 rfl rfl | exact ev_loadx rfl (fun _ => rfl) rfl Try.underlying24 rfl Try.sizeOf24 (by assumption) rfl
    simp only [nm, seval]
    apply VE.cons
    · first | exact Ev.skip (fun _ => rfl) | exact ev_move rfl (fun _ => rfl)
    simp only [nm, seval]
    apply VE.cons
    · first | exact Ev.skip (fun _ => rfl) | exact ev_call rfl (fun _ => rfl) rfl (en_of Try.func27 (by kernel_rfl) rfl) (g8)
    simp only [nm, seval]
    apply VE.cons
    · first | exact Ev.skip (fun _ => rfl) | exact ev_move rfl (fun _ => rfl)
    simp only [nm, seval]
    apply VE.cons
    · first | exact Ev.skip (fun _ => rfl) | exact ev_eql (p := true) rfl (fun _ => rfl) rfl rfl (decide_eq_true rfl)
    simp only [nm, seval]
    apply VE.cons
    · refine ev_pure' (gn rfl) (fun ρ w => by simp only [VS.act, SV.c, List.map_cons, List.map_nil]; go_simp; exact rfl) (fun _ _ => rfl)
    simp only [nm, seval]
    apply VE.cons
    · exact ev_assign rfl (gn rfl)
    simp only [nm, seval]
    exact VE.nil _
  · kernel_rfl
  change VOk _ _ _ _ _
  refine vret ?_
  refine post_ret (res1 Try.results7 (rv_tmp rfl)) ?_
  intro w' hg
  exact ⟨rfl, hg⟩
theorem law_MontBytes_hi (l : Nat → Nat → Nat) (m x b0 b1 b2 b3 b4 b5 b6 b7 b8 b9 b10 b11 b12 b13 b14 b15 b16 b17 b18 b19 b20 b21 b22 b23 b24 b25 b26 b27 b28 b29 b30 b31 d0 d1 d2 d3 d4 d5 d6 d7 d8 d9 d10 d11 d12 d13 d14 d15 d16 d17 d18 d19 d20 d21 d22 d23 d24 d25 d26 d27 d28 d29 d30 d31 : Nat) (i : Int) (lt : Bool) (e39 : ∀ (p q : Operand) (w : World), (do eqGuard .eql 39 p q (.agg #[.int .u8 (b0 : Nat), .int .u8 (b1 : Nat), .int .u8 (b2 : Nat), .int .u8 (b3 : Nat), .int .u8 (b4 : Nat), .int .u8 (b5 : Nat), .int .u8 (b6 : Nat), .int .u8 (b7 : Nat), .int .u8 (b8 : Nat), .int .u8 (b9 : Nat), .int .u8 (b10 : Nat), .int .u8 (b11 : Nat), .int .u8 (b12 : Nat), .int .u8 (b13 : Nat), .int .u8 (b14 : Nat), .int .u8 (b15 : Nat), .int .u8 (b16 : Nat), .int .u8 (b17 : Nat), .int .u8 (b18 : Nat), .int .u8 (b19 : Nat), .int .u8 (b20 : Nat), .int .u8 (b21 : Nat), .int .u8 (b22 : Nat), .int .u8 (b23 : Nat), .int .u8 (b24 : Nat), .int .u8 (b25 : Nat), .int .u8 (b26 : Nat), .int .u8 (b27 : Nat), .int .u8 (b28 : Nat), .int .u8 (b29 : Nat), .int .u8 (b30 : Nat), .int .u8 (b31 : Nat)]) (.agg #[.int .u8 (b0 : Nat), .int .u8 (b1 : Nat), .int .u8 (b2 : Nat), .int .u8 (b3 : Nat), .int .u8 (b4 : Nat), .int .u8 (b5 : Nat), .int .u8 (b6 : Nat), .int .u8 (b7 : Nat), .int .u8 (b8 : Nat), .int .u8 (b9 : Nat), .int .u8 (b10 : Nat), .int .u8 (b11 : Nat), .int .u8 (b12 : Nat), .int .u8 (b13 : Nat), .int .u8 (b14 : Nat), .int .u8 (b15 : Nat), .int .u8 (b16 : Nat), .int .u8 (b17 : Nat), .int .u8 (b18 : Nat), .int .u8 (b19 : Nat), .int .u8 (b20 : Nat), .int .u8 (b21 : Nat), .int .u8 (b22 : Nat), .int .u8 (b23 : Nat), .int .u8 (b24 : Nat), .int .u8 (b25 : Nat), .int .u8 (b26 : Nat), .int .u8 (b27 : Nat), .int .u8 (b28 : Nat), .int .u8 (b29 : Nat), .int .u8 (b30 : Nat), .int .u8 (b31 : Nat)]); binOp .eql 39 (.agg #[.int .u8 (b0 : Nat), .int .u8 (b1 : Nat), .int .u8 (b2 : Nat), .int .u8 (b3 : Nat), .int .u8 (b4 : Nat), .int .u8 (b5 : Nat), .int .u8 (b6 : Nat), .int .u8 (b7 : Nat), .int .u8 (b8 : Nat), .int .u8 (b9 : Nat), .int .u8 (b10 : Nat), .int .u8 (b11 : Nat), .int .u8 (b12 : Nat), .int .u8 (b13 : Nat), .int .u8 (b14 : Nat), .int .u8 (b15 : Nat), .int .u8 (b16 : Nat), .int .u8 (b17 : Nat), .int .u8 (b18 : Nat), .int .u8 (b19 : Nat), .int .u8 (b20 : Nat), .int .u8 (b21 : Nat), .int .u8 (b22 : Nat), .int .u8 (b23 : Nat), .int .u8 (b24 : Nat), .int .u8 (b25 : Nat), .int .u8 (b26 : Nat), .int .u8 (b27 : Nat), .int .u8 (b28 : Nat), .int .u8 (b29 : Nat), .int .u8 (b30 : Nat), .int .u8 (b31 : Nat)]) (.agg #[.int .u8 (b0 : Nat), .int .u8 (b1 : Nat), .int .u8 (b2 : Nat), .int .u8 (b3 : Nat), .int .u8 (b4 : Nat), .int .u8 (b5 : Nat), .int .u8 (b6 : Nat), .int .u8 (b7 : Nat), .int .u8 (b8 : Nat), .int .u8 (b9 : Nat), .int .u8 (b10 : Nat), .int .u8 (b11 : Nat), .int .u8 (b12 : Nat), .int .u8 (b13 : Nat), .int .u8 (b14 : Nat), .int .u8 (b15 : Nat), .int .u8 (b16 : Nat), .int .u8 (b17 : Nat), .int .u8 (b18 : Nat), .int .u8 (b19 : Nat), .int .u8 (b20 : Nat), .int .u8 (b21 : Nat), .int .u8 (b22 : Nat), .int .u8 (b23 : Nat), .int .u8 (b24 : Nat), .int .u8 (b25 : Nat), .int .u8 (b26 : Nat), .int .u8 (b27 : Nat), .int .u8 (b28 : Nat), .int .u8 (b29 : Nat), .int .u8 (b30 : Nat), .int .u8 (b31 : Nat)]) : Sem Value).run Try.prog w = .ok (.bool true) w) (e4 : ∀ (p q : Operand) (w : World), (do eqGuard .eql 4 p q (.bool lt) (.bool lt); binOp .eql 4 (.bool lt) (.bool lt) : Sem Value).run Try.prog w = .ok (.bool true) w) (h0 : decide ((0 : Int) ≤ i) = true) (h1 : decide (i < 256) = false) (w : World)
  (hsev : ∀ w', Gw w w' → Calls Try.prog 10 #[] w' fun e w'' => e = .returned (.bool true) ∧ Gw w' w'')
  (g1 : ∀ w', Gw w w' → Calls Try.prog 22 #[.agg #[.int .u8 (b0 : Nat), .int .u8 (b1 : Nat), .int .u8 (b2 : Nat), .int .u8 (b3 : Nat), .int .u8 (b4 : Nat), .int .u8 (b5 : Nat), .int .u8 (b6 : Nat), .int .u8 (b7 : Nat), .int .u8 (b8 : Nat), .int .u8 (b9 : Nat), .int .u8 (b10 : Nat), .int .u8 (b11 : Nat), .int .u8 (b12 : Nat), .int .u8 (b13 : Nat), .int .u8 (b14 : Nat), .int .u8 (b15 : Nat), .int .u8 (b16 : Nat), .int .u8 (b17 : Nat), .int .u8 (b18 : Nat), .int .u8 (b19 : Nat), .int .u8 (b20 : Nat), .int .u8 (b21 : Nat), .int .u8 (b22 : Nat), .int .u8 (b23 : Nat), .int .u8 (b24 : Nat), .int .u8 (b25 : Nat), .int .u8 (b26 : Nat), .int .u8 (b27 : Nat), .int .u8 (b28 : Nat), .int .u8 (b29 : Nat), .int .u8 (b30 : Nat), .int .u8 (b31 : Nat)]] w' fun e w'' => e = .returned (.agg #[.int .u64 (l x 0 : Nat), .int .u64 (l x 1 : Nat), .int .u64 (l x 2 : Nat), .int .u64 (l x 3 : Nat)]) ∧ Gw w' w'')
  (g2 : ∀ w', Gw w w' → Calls Try.prog 23 #[.agg #[.int .u8 (b0 : Nat), .int .u8 (b1 : Nat), .int .u8 (b2 : Nat), .int .u8 (b3 : Nat), .int .u8 (b4 : Nat), .int .u8 (b5 : Nat), .int .u8 (b6 : Nat), .int .u8 (b7 : Nat), .int .u8 (b8 : Nat), .int .u8 (b9 : Nat), .int .u8 (b10 : Nat), .int .u8 (b11 : Nat), .int .u8 (b12 : Nat), .int .u8 (b13 : Nat), .int .u8 (b14 : Nat), .int .u8 (b15 : Nat), .int .u8 (b16 : Nat), .int .u8 (b17 : Nat), .int .u8 (b18 : Nat), .int .u8 (b19 : Nat), .int .u8 (b20 : Nat), .int .u8 (b21 : Nat), .int .u8 (b22 : Nat), .int .u8 (b23 : Nat), .int .u8 (b24 : Nat), .int .u8 (b25 : Nat), .int .u8 (b26 : Nat), .int .u8 (b27 : Nat), .int .u8 (b28 : Nat), .int .u8 (b29 : Nat), .int .u8 (b30 : Nat), .int .u8 (b31 : Nat)]] w' fun e w'' => e = .returned (.agg #[.int .u64 (l x 0 : Nat), .int .u64 (l x 1 : Nat), .int .u64 (l x 2 : Nat), .int .u64 (l x 3 : Nat)]) ∧ Gw w' w'')
  (g3 : ∀ w', Gw w w' → Calls Try.prog 24 #[.agg #[.int .u64 (l x 0 : Nat), .int .u64 (l x 1 : Nat), .int .u64 (l x 2 : Nat), .int .u64 (l x 3 : Nat)]] w' fun e w'' => e = .returned (.agg #[.int .u8 (b0 : Nat), .int .u8 (b1 : Nat), .int .u8 (b2 : Nat), .int .u8 (b3 : Nat), .int .u8 (b4 : Nat), .int .u8 (b5 : Nat), .int .u8 (b6 : Nat), .int .u8 (b7 : Nat), .int .u8 (b8 : Nat), .int .u8 (b9 : Nat), .int .u8 (b10 : Nat), .int .u8 (b11 : Nat), .int .u8 (b12 : Nat), .int .u8 (b13 : Nat), .int .u8 (b14 : Nat), .int .u8 (b15 : Nat), .int .u8 (b16 : Nat), .int .u8 (b17 : Nat), .int .u8 (b18 : Nat), .int .u8 (b19 : Nat), .int .u8 (b20 : Nat), .int .u8 (b21 : Nat), .int .u8 (b22 : Nat), .int .u8 (b23 : Nat), .int .u8 (b24 : Nat), .int .u8 (b25 : Nat), .int .u8 (b26 : Nat), .int .u8 (b27 : Nat), .int .u8 (b28 : Nat), .int .u8 (b29 : Nat), .int .u8 (b30 : Nat), .int .u8 (b31 : Nat)]) ∧ Gw w' w'')
  (g4 : ∀ w', Gw w w' → Calls Try.prog 24 #[.agg #[.int .u64 (l m 0 : Nat), .int .u64 (l m 1 : Nat), .int .u64 (l m 2 : Nat), .int .u64 (l m 3 : Nat)]] w' fun e w'' => e = .returned (.agg #[.int .u8 (d0 : Nat), .int .u8 (d1 : Nat), .int .u8 (d2 : Nat), .int .u8 (d3 : Nat), .int .u8 (d4 : Nat), .int .u8 (d5 : Nat), .int .u8 (d6 : Nat), .int .u8 (d7 : Nat), .int .u8 (d8 : Nat), .int .u8 (d9 : Nat), .int .u8 (d10 : Nat), .int .u8 (d11 : Nat), .int .u8 (d12 : Nat), .int .u8 (d13 : Nat), .int .u8 (d14 : Nat), .int .u8 (d15 : Nat), .int .u8 (d16 : Nat), .int .u8 (d17 : Nat), .int .u8 (d18 : Nat), .int .u8 (d19 : Nat), .int .u8 (d20 : Nat), .int .u8 (d21 : Nat), .int .u8 (d22 : Nat), .int .u8 (d23 : Nat), .int .u8 (d24 : Nat), .int .u8 (d25 : Nat), .int .u8 (d26 : Nat), .int .u8 (d27 : Nat), .int .u8 (d28 : Nat), .int .u8 (d29 : Nat), .int .u8 (d30 : Nat), .int .u8 (d31 : Nat)]) ∧ Gw w' w'')
  (g5 : ∀ w', Gw w w' → Calls Try.prog 22 #[.agg #[.int .u8 (d0 : Nat), .int .u8 (d1 : Nat), .int .u8 (d2 : Nat), .int .u8 (d3 : Nat), .int .u8 (d4 : Nat), .int .u8 (d5 : Nat), .int .u8 (d6 : Nat), .int .u8 (d7 : Nat), .int .u8 (d8 : Nat), .int .u8 (d9 : Nat), .int .u8 (d10 : Nat), .int .u8 (d11 : Nat), .int .u8 (d12 : Nat), .int .u8 (d13 : Nat), .int .u8 (d14 : Nat), .int .u8 (d15 : Nat), .int .u8 (d16 : Nat), .int .u8 (d17 : Nat), .int .u8 (d18 : Nat), .int .u8 (d19 : Nat), .int .u8 (d20 : Nat), .int .u8 (d21 : Nat), .int .u8 (d22 : Nat), .int .u8 (d23 : Nat), .int .u8 (d24 : Nat), .int .u8 (d25 : Nat), .int .u8 (d26 : Nat), .int .u8 (d27 : Nat), .int .u8 (d28 : Nat), .int .u8 (d29 : Nat), .int .u8 (d30 : Nat), .int .u8 (d31 : Nat)]] w' fun e w'' => e = .returned (.agg #[.int .u64 (l m 0 : Nat), .int .u64 (l m 1 : Nat), .int .u64 (l m 2 : Nat), .int .u64 (l m 3 : Nat)]) ∧ Gw w' w'')
  (g6 : ∀ w', Gw w w' → Calls Try.prog 25 #[.agg #[.int .u64 (l x 0 : Nat), .int .u64 (l x 1 : Nat), .int .u64 (l x 2 : Nat), .int .u64 (l x 3 : Nat)], .agg #[.int .u64 (l m 0 : Nat), .int .u64 (l m 1 : Nat), .int .u64 (l m 2 : Nat), .int .u64 (l m 3 : Nat)]] w' fun e w'' => e = .returned (.bool lt) ∧ Gw w' w'')
  (g7 : ∀ w', Gw w w' → Calls Try.prog 26 #[.agg #[.int .u64 (l x 0 : Nat), .int .u64 (l x 1 : Nat), .int .u64 (l x 2 : Nat), .int .u64 (l x 3 : Nat)], .agg #[.int .u64 (l m 0 : Nat), .int .u64 (l m 1 : Nat), .int .u64 (l m 2 : Nat), .int .u64 (l m 3 : Nat)]] w' fun e w'' => e = .returned (.bool lt) ∧ Gw w' w'')
  (g8 : ∀ w', Gw w w' → Calls Try.prog 27 #[.agg #[.int .u64 (l x 0 : Nat), .int .u64 (l x 1 : Nat), .int .u64 (l x 2 : Nat), .int .u64 (l x 3 : Nat)], .int .i64 i] w' fun e w'' => e = .returned (.int .i64 0) ∧ Gw w' w'')
  (e24 : ∀ (x : Nat) (p q : Operand) (w : World), (do eqGuard .eql 24 p q (.agg #[.int .u64 (l x 0 : Nat), .int .u64 (l x 1 : Nat), .int .u64 (l x 2 : Nat), .int .u64 (l x 3 : Nat)]) (.agg #[.int .u64 (l x 0 : Nat), .int .u64 (l x 1 : Nat), .int .u64 (l x 2 : Nat), .int .u64 (l x 3 : Nat)]); binOp .eql 24 (.agg #[.int .u64 (l x 0 : Nat), .int .u64 (l x 1 : Nat), .int .u64 (l x 2 : Nat), .int .u64 (l x 3 : Nat)]) (.agg #[.int .u64 (l x 0 : Nat), .int .u64 (l x 1 : Nat), .int .u64 (l x 2 : Nat), .int .u64 (l x 3 : Nat)]) : Sem Value).run Try.prog w = .ok (.bool true) w) (e23 : ∀ (x : Nat) (p q : Operand) (w : World), (do eqGuard .eql 23 p q (.agg #[.int .u64 (l x 0 : Nat), .int .u64 (l x 1 : Nat), .int .u64 (l x 2 : Nat), .int .u64 (l x 3 : Nat)]) (.agg #[.int .u64 (l x 0 : Nat), .int .u64 (l x 1 : Nat), .int .u64 (l x 2 : Nat), .int .u64 (l x 3 : Nat)]); binOp .eql 23 (.agg #[.int .u64 (l x 0 : Nat), .int .u64 (l x 1 : Nat), .int .u64 (l x 2 : Nat), .int .u64 (l x 3 : Nat)]) (.agg #[.int .u64 (l x 0 : Nat), .int .u64 (l x 1 : Nat), .int .u64 (l x 2 : Nat), .int .u64 (l x 3 : Nat)]) : Sem Value).run Try.prog w = .ok (.bool true) w) :
  Calls Try.prog 7 #[.agg #[.int .u8 (b0 : Nat), .int .u8 (b1 : Nat), .int .u8 (b2 : Nat), .int .u8 (b3 : Nat), .int .u8 (b4 : Nat), .int .u8 (b5 : Nat), .int .u8 (b6 : Nat), .int .u8 (b7 : Nat), .int .u8 (b8 : Nat), .int .u8 (b9 : Nat), .int .u8 (b10 : Nat), .int .u8 (b11 : Nat), .int .u8 (b12 : Nat), .int .u8 (b13 : Nat), .int .u8 (b14 : Nat), .int .u8 (b15 : Nat), .int .u8 (b16 : Nat), .int .u8 (b17 : Nat), .int .u8 (b18 : Nat), .int .u8 (b19 : Nat), .int .u8 (b20 : Nat), .int .u8 (b21 : Nat), .int .u8 (b22 : Nat), .int .u8 (b23 : Nat), .int .u8 (b24 : Nat), .int .u8 (b25 : Nat), .int .u8 (b26 : Nat), .int .u8 (b27 : Nat), .int .u8 (b28 : Nat), .int .u8 (b29 : Nat), .int .u8 (b30 : Nat), .int .u8 (b31 : Nat)], .agg #[.int .u64 (l m 0 : Nat), .int .u64 (l m 1 : Nat), .int .u64 (l m 2 : Nat), .int .u64 (l m 3 : Nat)], .int .i64 i] w fun e w' => e = .returned (.bool true) ∧ Gw w w' := by
  go_enter Try.func7, Try.ntmps7
  refine ve_go ?_
  simp only [List.map_cons, List.map_nil]
  refine vseq ?_
  apply vrp
  · apply VE.cons
    · exact ev_box rfl rfl (gn rfl) rfl
    simp only [nm, seval]
    apply VE.cons
    · exact ev_box rfl rfl (gn rfl) rfl
    simp only [nm, seval]
    apply VE.cons
    · exact ev_assign rfl (gn rfl)
    simp only [nm, seval]
    exact VE.nil _
  · kernel_rfl
  change VOk _ _ _ _ _
  refine vseq ?_
  apply vrp
  · apply VE.cons
    · first | exact ev_load rfl (gn rfl) rfl rfl Try.underlying39 rfl Try.sizeOf39 rfl rfl | exact ev_loadx rfl (gn rfl) rfl Try.underlying39 rfl Try.sizeOf39 (by assumption) rfl
    simp only [nm, seval]
    apply VE.cons
    · exact ev_call rfl (gn rfl) rfl (en_of Try.func22 (by kernel_rfl) rfl) (g1)
    simp only [nm, seval]
    apply VE.cons
    · exact ev_alloc rfl rfl (gn rfl) Try.zeroValue24
    simp only [nm, seval]
    apply VE.cons
    · exact ev_store rfl (gn rfl) rfl rfl rfl Try.sizeOf24 rfl (by simp) rfl
    simp only [nm, seval]
    exact VE.nil _
  · kernel_rfl
  change VOk _ _ _ _ _
  refine vseq ?_
  apply vrp
  · apply VE.cons
    · exact ev_assign rfl (gn rfl)
    simp only [nm, seval]
    exact VE.nil _
  · kernel_rfl
  change VOk _ _ _ _ _
  refine vseq ?_
  refine vseq ?_
  apply vrp
  · apply VE.cons
    · exact ev_move rfl (gn rfl)
    simp only [nm, seval]
    apply VE.cons
    · exact ev_geq (p := true) rfl (gn rfl) rfl rfl h0
    simp only [nm, seval]
    apply VE.cons
    · exact ev_move rfl (gn rfl)
    simp only [nm, seval]
    apply VE.cons
    · first | exact Ev.skip (fun _ => rfl) | exact ev_move rfl (fun _ => rfl)
    simp only [nm, seval]
    apply VE.cons
    · first | exact Ev.skip (fun _ => rfl) | exact ev_lss (p := false) rfl (fun _ => rfl) rfl rfl h1
    simp only [nm, seval]
    apply VE.cons
    · refine ev_pure' (gn rfl) (fun ρ w => by simp only [VS.act, SV.c, List.map_cons, List.map_nil]; go_simp; exact rfl) (fun _ _ => rfl)
    simp only [nm, seval]
    exact VE.nil _
  · kernel_rfl
  change VOk _ _ _ _ _
  refine vcond_f rfl ?_
  refine vskip ?_
  change VOk _ _ _ _ _
  refine vseq ?_
  apply vrd (by kernel_rfl)
  · apply VE.cons
    · exact ev_call rfl (gn rfl) rfl (en_of Try.func10 (by kernel_rfl) rfl) (hsev)
    simp only [nm, seval]
    apply VE.cons
    · exact ev_move rfl (gn rfl)
    simp only [nm, seval]
    apply VE.cons
    · first | exact Ev.skip (fun _ => rfl) | exact ev_load rfl (fun _ => rfl) rfl rfl Try.underlying24 rfl Try.sizeOf24 rfl rfl | exact ev_loadx rfl (fun _ => rfl) rfl Try.underlying24 rfl Try.sizeOf24 (by assumption) rfl
    simp only [nm, seval]
    apply VE.cons
    · first | exact Ev.skip (fun _ => rfl) | exact ev_load rfl (fun _ => rfl) rfl rfl Try.underlying39 rfl Try.sizeOf39 rfl rfl | exact ev_loadx rfl (fun _ => rfl) rfl Try.underlying39 rfl Try.sizeOf39 (by assumption) rfl
    simp only [nm, seval]
    apply VE.cons
    · first | exact Ev.skip (fun _ => rfl) | exact ev_call rfl (fun _ => rfl) rfl (en_of Try.func23 (by kernel_rfl) rfl) (g2)
    simp only [nm, seval]
    apply VE.cons
    · first | exact Ev.skip (fun _ => rfl) | exact ev_bin rfl (fun _ => rfl) rfl rfl (fun w => e23 _ _ _ w)
    simp only [nm, seval]
    apply VE.cons
    · refine ev_pure' (gn rfl) (fun ρ w => by simp only [VS.act, SV.c, List.map_cons, List.map_nil]; go_simp; exact rfl) (fun _ _ => rfl)
    simp only [nm, seval]
    apply VE.cons
    · exact ev_move rfl (gn rfl)
    simp only [nm, seval]
    apply VE.cons
    · first | exact Ev.skip (fun _ => rfl) | exact ev_load rfl (fun _ => rfl) rfl rfl Try.underlying24 rfl Try.sizeOf24 rfl rfl | exact ev_loadx rfl (fun _ => rfl) rfl Try.underlying24 rfl Try.sizeOf24 (by assumption) rfl
    simp only [nm, seval]
    apply VE.cons
    · first | exact Ev.skip (fun _ => rfl) | exact ev_call rfl (fun _ => rfl) rfl (en_of Try.func24 (by kernel_rfl) rfl) (g3)
    simp only [nm, seval]
    apply VE.cons
    · first | exact Ev.skip (fun _ => rfl) | exact ev_load rfl (fun _ => rfl) rfl rfl Try.underlying39 rfl Try.sizeOf39 rfl rfl | exact ev_loadx rfl (fun _ => rfl) rfl Try.underlying39 rfl Try.sizeOf39 (by assumption) rfl
    simp only [nm, seval]
    apply VE.cons
    · first | exact Ev.skip (fun _ => rfl) | exact ev_bin rfl (fun _ => rfl) rfl rfl (fun w => e39  _ _ w)
    simp only [nm, seval]
    apply VE.cons
    · refine ev_pure' (gn rfl) (fun ρ w => by simp only [VS.act, SV.c, List.map_cons, List.map_nil]; go_simp; exact rfl) (fun _ _ => rfl)
    simp only [nm, seval]
    apply VE.cons
    · exact ev_move rfl (gn rfl)
    simp only [nm, seval]
    apply VE.cons
    · first | exact Ev.skip (fun _ => rfl) | exact ev_load rfl (fun _ => rfl) rfl rfl Try.underlying24 rfl Try.sizeOf24 rfl rfl | exact ev_loadx rfl (fun _ => rfl) rfl Try.underlying24 rfl Try.sizeOf24 (by assumption) rfl
    simp only [nm, seval]
    apply VE.cons
    · first | exact Ev.skip (fun _ => rfl) | exact ev_call rfl (fun _ => rfl) rfl (en_of Try.func24 (by kernel_rfl) rfl) (g4)
    simp only [nm, seval]
    apply VE.cons
    · first | exact Ev.skip (fun _ => rfl) | exact ev_call rfl (fun _ => rfl) rfl (en_of Try.func22 (by kernel_rfl) rfl) (g5)
    simp only [nm, seval]
    apply VE.cons
    · first | exact Ev.skip (fun _ => rfl) | exact ev_load rfl (fun _ => rfl) rfl rfl Try.underlying24 rfl Try.sizeOf24 rfl rfl | exact ev_loadx rfl (fun _ => rfl) rfl Try.underlying24 rfl Try.sizeOf24 (by assumption) rfl
    simp only [nm, seval]
    apply VE.cons
    · first | exact Ev.skip (fun _ => rfl) | exact ev_bin rfl (fun _ => rfl) rfl rfl (fun w => e24 _ _ _ w)
    simp only [nm, seval]
    apply VE.cons
    · refine ev_pure' (gn rfl) (fun ρ w => by simp only [VS.act, SV.c, List.map_cons, List.map_nil]; go_simp; exact rfl) (fun _ _ => rfl)
    simp only [nm, seval]
    apply VE.cons
    · exact ev_move rfl (gn rfl)
    simp only [nm, seval]
    apply VE.cons
    · first | exact Ev.skip (fun _ => rfl) | exact ev_load rfl (fun _ => rfl) rfl rfl Try.underlying24 rfl Try.sizeOf24 rfl rfl | exact ev_loadx rfl (fun _ => rfl) rfl Try.underlying24 rfl Try.sizeOf24 (by assumption) rfl
    simp only [nm, seval]
    apply VE.cons
    · first | exact Ev.skip (fun _ => rfl) | exact ev_load rfl (fun _ => rfl) rfl rfl Try.underlying24 rfl Try.sizeOf24 rfl rfl | exact ev_loadx rfl (fun _ => rfl) rfl Try.underlying24 rfl Try.sizeOf24 (by assumption) rfl
    simp only [nm, seval]
    apply VE.cons
    · first | exact Ev.skip (fun _ => rfl) | exact ev_call rfl (fun _ => rfl) rfl (en_of Try.func25 (by kernel_rfl) rfl) (g6)
    simp only [nm, seval]
    apply VE.cons
    · first | exact Ev.skip (fun _ => rfl) | exact ev_load rfl (fun _ => rfl) rfl rfl Try.underlying24 rfl Try.sizeOf24 rfl rfl | exact ev_loadx rfl (fun _ => rfl) rfl Try.underlying24 rfl Try.sizeOf24 (by assumption) rfl
    simp only [nm, seval]
    apply VE.cons
    · first | exact Ev.skip (fun _ => rfl) | exact ev_load rfl (fun _ => rfl) rfl rfl Try.underlying24 rfl Try.sizeOf24 rfl rfl | exact ev_loadx rfl (fun _ => rfl) rfl Try.underlying24 rfl Try.sizeOf24 (by assumption) rfl
    simp only [nm, seval]
    apply VE.cons
    · first | exact Ev.skip (fun _ => rfl) | exact ev_call rfl (fun _ => rfl) rfl (en_of Try.func26 (by kernel_rfl) rfl) (g7)
    simp only [nm, seval]
    apply VE.cons
    · first | exact Ev.skip (fun _ => rfl) | exact ev_bin rfl (fun _ => rfl) rfl rfl (fun w => e4  _ _ w)
    simp only [nm, seval]
    apply VE.cons
    · refine ev_pure' (gn rfl) (fun ρ w => by simp only [VS.act, SV.c, List.map_cons, List.map_nil]; go_simp; exact rfl) (fun _ _ => rfl)
    simp only [nm, seval]
    apply VE.cons
    · exact ev_move rfl (gn rfl)
    simp only [nm, seval]
    apply VE.cons
    · first | exact Ev.skip (fun _ => rfl) | exact ev_load rfl (fun _ => rfl) rfl rfl Try.underlying24 rfl Try.sizeOf24 rfl rfl | exact ev_loadx rfl (fun _ => rfl) rfl Try.underlying24 rfl Try.sizeOf24 (by assumption) rfl
    simp only [nm, seval]
    apply VE.cons
    · first | exact Ev.skip (fun _ => rfl) | exact ev_move rfl (fun _ => rfl)
    simp only [nm, seval]
    apply VE.cons
    · first | exact Ev.skip (fun _ => rfl) | exact ev_call rfl (fun _ => rfl) rfl (en_of Try.func27 (by kernel_rfl) rfl) (g8)
    simp only [nm, seval]
    apply VE.cons
    · first | exact Ev.skip (fun _ => rfl) | exact ev_move rfl (fun _ => rfl)
    simp only [nm, seval]
    apply VE.cons
    · first | exact Ev.skip (fun _ => rfl) | exact ev_eql (p := true) rfl (fun _ => rfl) rfl rfl (decide_eq_true rfl)
    simp only [nm, seval]
    apply VE.cons
    · refine ev_pure' (gn rfl) (fun ρ w => by simp only [VS.act, SV.c, List.map_cons, List.map_nil]; go_simp; exact rfl) (fun _ _ => rfl)
    simp only [nm, seval]
    apply VE.cons
    · exact ev_assign rfl (gn rfl)
    simp only [nm, seval]
    exact VE.nil _
  · kernel_rfl
  change VOk _ _ _ _ _
  refine vret ?_
  refine post_ret (res1 Try.results7 (rv_tmp rfl)) ?_
  intro w' hg
  exact ⟨rfl, hg⟩
theorem law_MontBytes_mid (l : Nat → Nat → Nat) (m x b0 b1 b2 b3 b4 b5 b6 b7 b8 b9 b10 b11 b12 b13 b14 b15 b16 b17 b18 b19 b20 b21 b22 b23 b24 b25 b26 b27 b28 b29 b30 b31 d0 d1 d2 d3 d4 d5 d6 d7 d8 d9 d10 d11 d12 d13 d14 d15 d16 d17 d18 d19 d20 d21 d22 d23 d24 d25 d26 d27 d28 d29 d30 d31 qo qq bv rm sr bt : Nat) (i : Int) (lt : Bool) (e39 : ∀ (p q : Operand) (w : World), (do eqGuard .eql 39 p q (.agg #[.int .u8 (b0 : Nat), .int .u8 (b1 : Nat), .int .u8 (b2 : Nat), .int .u8 (b3 : Nat), .int .u8 (b4 : Nat), .int .u8 (b5 : Nat), .int .u8 (b6 : Nat), .int .u8 (b7 : Nat), .int .u8 (b8 : Nat), .int .u8 (b9 : Nat), .int .u8 (b10 : Nat), .int .u8 (b11 : Nat), .int .u8 (b12 : Nat), .int .u8 (b13 : Nat), .int .u8 (b14 : Nat), .int .u8 (b15 : Nat), .int .u8 (b16 : Nat), .int .u8 (b17 : Nat), .int .u8 (b18 : Nat), .int .u8 (b19 : Nat), .int .u8 (b20 : Nat), .int .u8 (b21 : Nat), .int .u8 (b22 : Nat), .int .u8 (b23 : Nat), .int .u8 (b24 : Nat), .int .u8 (b25 : Nat), .int .u8 (b26 : Nat), .int .u8 (b27 : Nat), .int .u8 (b28 : Nat), .int .u8 (b29 : Nat), .int .u8 (b30 : Nat), .int .u8 (b31 : Nat)]) (.agg #[.int .u8 (b0 : Nat), .int .u8 (b1 : Nat), .int .u8 (b2 : Nat), .int .u8 (b3 : Nat), .int .u8 (b4 : Nat), .int .u8 (b5 : Nat), .int .u8 (b6 : Nat), .int .u8 (b7 : Nat), .int .u8 (b8 : Nat), .int .u8 (b9 : Nat), .int .u8 (b10 : Nat), .int .u8 (b11 : Nat), .int .u8 (b12 : Nat), .int .u8 (b13 : Nat), .int .u8 (b14 : Nat), .int .u8 (b15 : Nat), .int .u8 (b16 : Nat), .int .u8 (b17 : Nat), .int .u8 (b18 : Nat), .int .u8 (b19 : Nat), .int .u8 (b20 : Nat), .int .u8 (b21 : Nat), .int .u8 (b22 : Nat), .int .u8 (b23 : Nat), .int .u8 (b24 : Nat), .int .u8 (b25 : Nat), .int .u8 (b26 : Nat), .int .u8 (b27 : Nat), .int .u8 (b28 : Nat), .int .u8 (b29 : Nat), .int .u8 (b30 : Nat), .int .u8 (b31 : Nat)]); binOp .eql 39 (.agg #[.int .u8 (b0 : Nat), .int .u8 (b1 : Nat), .int .u8 (b2 : Nat), .int .u8 (b3 : Nat), .int .u8 (b4 : Nat), .int .u8 (b5 : Nat), .int .u8 (b6 : Nat), .int .u8 (b7 : Nat), .int .u8 (b8 : Nat), .int .u8 (b9 : Nat), .int .u8 (b10 : Nat), .int .u8 (b11 : Nat), .int .u8 (b12 : Nat), .int .u8 (b13 : Nat), .int .u8 (b14 : Nat), .int .u8 (b15 : Nat), .int .u8 (b16 : Nat), .int .u8 (b17 : Nat), .int .u8 (b18 : Nat), .int .u8 (b19 : Nat), .int .u8 (b20 : Nat), .int .u8 (b21 : Nat), .int .u8 (b22 : Nat), .int .u8 (b23 : Nat), .int .u8 (b24 : Nat), .int .u8 (b25 : Nat), .int .u8 (b26 : Nat), .int .u8 (b27 : Nat), .int .u8 (b28 : Nat), .int .u8 (b29 : Nat), .int .u8 (b30 : Nat), .int .u8 (b31 : Nat)]) (.agg #[.int .u8 (b0 : Nat), .int .u8 (b1 : Nat), .int .u8 (b2 : Nat), .int .u8 (b3 : Nat), .int .u8 (b4 : Nat), .int .u8 (b5 : Nat), .int .u8 (b6 : Nat), .int .u8 (b7 : Nat), .int .u8 (b8 : Nat), .int .u8 (b9 : Nat), .int .u8 (b10 : Nat), .int .u8 (b11 : Nat), .int .u8 (b12 : Nat), .int .u8 (b13 : Nat), .int .u8 (b14 : Nat), .int .u8 (b15 : Nat), .int .u8 (b16 : Nat), .int .u8 (b17 : Nat), .int .u8 (b18 : Nat), .int .u8 (b19 : Nat), .int .u8 (b20 : Nat), .int .u8 (b21 : Nat), .int .u8 (b22 : Nat), .int .u8 (b23 : Nat), .int .u8 (b24 : Nat), .int .u8 (b25 : Nat), .int .u8 (b26 : Nat), .int .u8 (b27 : Nat), .int .u8 (b28 : Nat), .int .u8 (b29 : Nat), .int .u8 (b30 : Nat), .int .u8 (b31 : Nat)]) : Sem Value).run Try.prog w = .ok (.bool true) w) (e4 : ∀ (p q : Operand) (w : World), (do eqGuard .eql 4 p q (.bool lt) (.bool lt); binOp .eql 4 (.bool lt) (.bool lt) : Sem Value).run Try.prog w = .ok (.bool true) w) (h0 : decide ((0 : Int) ≤ i) = true) (h1 : decide (i < 256) = true) (h32 : qq < 32) (hle : ([.v (.int .u8 (b0 : Nat)), .v (.int .u8 (b1 : Nat)), .v (.int .u8 (b2 : Nat)), .v (.int .u8 (b3 : Nat)), .v (.int .u8 (b4 : Nat)), .v (.int .u8 (b5 : Nat)), .v (.int .u8 (b6 : Nat)), .v (.int .u8 (b7 : Nat)), .v (.int .u8 (b8 : Nat)), .v (.int .u8 (b9 : Nat)), .v (.int .u8 (b10 : Nat)), .v (.int .u8 (b11 : Nat)), .v (.int .u8 (b12 : Nat)), .v (.int .u8 (b13 : Nat)), .v (.int .u8 (b14 : Nat)), .v (.int .u8 (b15 : Nat)), .v (.int .u8 (b16 : Nat)), .v (.int .u8 (b17 : Nat)), .v (.int .u8 (b18 : Nat)), .v (.int .u8 (b19 : Nat)), .v (.int .u8 (b20 : Nat)), .v (.int .u8 (b21 : Nat)), .v (.int .u8 (b22 : Nat)), .v (.int .u8 (b23 : Nat)), .v (.int .u8 (b24 : Nat)), .v (.int .u8 (b25 : Nat)), .v (.int .u8 (b26 : Nat)), .v (.int .u8 (b27 : Nat)), .v (.int .u8 (b28 : Nat)), .v (.int .u8 (b29 : Nat)), .v (.int .u8 (b30 : Nat)), .v (.int .u8 (b31 : Nat))] : List SV)[qq]? = some (.v (.int .u8 (bv : Nat)))) (hq : ∀ (p q : Operand) (w : World), (do eqGuard .quo 3 p q (.int .i64 i) (.int .i64 8); binOp .quo 3 (.int .i64 i) (.int .i64 8) : Sem Value).run Try.prog w = .ok (.int .i64 (qo : Nat)) w) (hs : ∀ (p q : Operand) (w : World), (do eqGuard .sub 3 p q (.int .i64 31) (.int .i64 (qo : Nat)); binOp .sub 3 (.int .i64 31) (.int .i64 (qo : Nat)) : Sem Value).run Try.prog w = .ok (.int .i64 (qq : Nat)) w) (hr : ∀ (p q : Operand) (w : World), (do eqGuard .rem 3 p q (.int .i64 i) (.int .i64 8); binOp .rem 3 (.int .i64 i) (.int .i64 8) : Sem Value).run Try.prog w = .ok (.int .i64 (rm : Nat)) w) (hsh : ∀ (p q : Operand) (w : World), (do eqGuard .shr 5 p q (.int .u8 (bv : Nat)) (.int .i64 (rm : Nat)); binOp .shr 5 (.int .u8 (bv : Nat)) (.int .i64 (rm : Nat)) : Sem Value).run Try.prog w = .ok (.int .u8 (sr : Nat)) w) (hr2 : ∀ (p q : Operand) (w : World), (do eqGuard .rem 5 p q (.int .u8 (sr : Nat)) (.int .u8 2); binOp .rem 5 (.int .u8 (sr : Nat)) (.int .u8 2) : Sem Value).run Try.prog w = .ok (.int .u8 (bt : Nat)) w) (hcv : ∀ (w : World), (convert 5 3 (.int .u8 (bt : Nat))).run Try.prog w = .ok (.int .i64 (bt : Nat)) w) (w : World)
  (hsev : ∀ w', Gw w w' → Calls Try.prog 10 #[] w' fun e w'' => e = .returned (.bool true) ∧ Gw w' w'')
  (g1 : ∀ w', Gw w w' → Calls Try.prog 22 #[.agg #[.int .u8 (b0 : Nat), .int .u8 (b1 : Nat), .int .u8 (b2 : Nat), .int .u8 (b3 : Nat), .int .u8 (b4 : Nat), .int .u8 (b5 : Nat), .int .u8 (b6 : Nat), .int .u8 (b7 : Nat), .int .u8 (b8 : Nat), .int .u8 (b9 : Nat), .int .u8 (b10 : Nat), .int .u8 (b11 : Nat), .int .u8 (b12 : Nat), .int .u8 (b13 : Nat), .int .u8 (b14 : Nat), .int .u8 (b15 : Nat), .int .u8 (b16 : Nat), .int .u8 (b17 : Nat), .int .u8 (b18 : Nat), .int .u8 (b19 : Nat), .int .u8 (b20 : Nat), .int .u8 (b21 : Nat), .int .u8 (b22 : Nat), .int .u8 (b23 : Nat), .int .u8 (b24 : Nat), .int .u8 (b25 : Nat), .int .u8 (b26 : Nat), .int .u8 (b27 : Nat), .int .u8 (b28 : Nat), .int .u8 (b29 : Nat), .int .u8 (b30 : Nat), .int .u8 (b31 : Nat)]] w' fun e w'' => e = .returned (.agg #[.int .u64 (l x 0 : Nat), .int .u64 (l x 1 : Nat), .int .u64 (l x 2 : Nat), .int .u64 (l x 3 : Nat)]) ∧ Gw w' w'')
  (g2 : ∀ w', Gw w w' → Calls Try.prog 23 #[.agg #[.int .u8 (b0 : Nat), .int .u8 (b1 : Nat), .int .u8 (b2 : Nat), .int .u8 (b3 : Nat), .int .u8 (b4 : Nat), .int .u8 (b5 : Nat), .int .u8 (b6 : Nat), .int .u8 (b7 : Nat), .int .u8 (b8 : Nat), .int .u8 (b9 : Nat), .int .u8 (b10 : Nat), .int .u8 (b11 : Nat), .int .u8 (b12 : Nat), .int .u8 (b13 : Nat), .int .u8 (b14 : Nat), .int .u8 (b15 : Nat), .int .u8 (b16 : Nat), .int .u8 (b17 : Nat), .int .u8 (b18 : Nat), .int .u8 (b19 : Nat), .int .u8 (b20 : Nat), .int .u8 (b21 : Nat), .int .u8 (b22 : Nat), .int .u8 (b23 : Nat), .int .u8 (b24 : Nat), .int .u8 (b25 : Nat), .int .u8 (b26 : Nat), .int .u8 (b27 : Nat), .int .u8 (b28 : Nat), .int .u8 (b29 : Nat), .int .u8 (b30 : Nat), .int .u8 (b31 : Nat)]] w' fun e w'' => e = .returned (.agg #[.int .u64 (l x 0 : Nat), .int .u64 (l x 1 : Nat), .int .u64 (l x 2 : Nat), .int .u64 (l x 3 : Nat)]) ∧ Gw w' w'')
  (g3 : ∀ w', Gw w w' → Calls Try.prog 24 #[.agg #[.int .u64 (l x 0 : Nat), .int .u64 (l x 1 : Nat), .int .u64 (l x 2 : Nat), .int .u64 (l x 3 : Nat)]] w' fun e w'' => e = .returned (.agg #[.int .u8 (b0 : Nat), .int .u8 (b1 : Nat), .int .u8 (b2 : Nat), .int .u8 (b3 : Nat), .int .u8 (b4 : Nat), .int .u8 (b5 : Nat), .int .u8 (b6 : Nat), .int .u8 (b7 : Nat), .int .u8 (b8 : Nat), .int .u8 (b9 : Nat), .int .u8 (b10 : Nat), .int .u8 (b11 : Nat), .int .u8 (b12 : Nat), .int .u8 (b13 : Nat), .int .u8 (b14 : Nat), .int .u8 (b15 : Nat), .int .u8 (b16 : Nat), .int .u8 (b17 : Nat), .int .u8 (b18 : Nat), .int .u8 (b19 : Nat), .int .u8 (b20 : Nat), .int .u8 (b21 : Nat), .int .u8 (b22 : Nat), .int .u8 (b23 : Nat), .int .u8 (b24 : Nat), .int .u8 (b25 : Nat), .int .u8 (b26 : Nat), .int .u8 (b27 : Nat), .int .u8 (b28 : Nat), .int .u8 (b29 : Nat), .int .u8 (b30 : Nat), .int .u8 (b31 : Nat)]) ∧ Gw w' w'')
  (g4 : ∀ w', Gw w w' → Calls Try.prog 24 #[.agg #[.int .u64 (l m 0 : Nat), .int .u64 (l m 1 : Nat), .int .u64 (l m 2 : Nat), .int .u64 (l m 3 : Nat)]] w' fun e w'' => e = .returned (.agg #[.int .u8 (d0 : Nat), .int .u8 (d1 : Nat), .int .u8 (d2 : Nat), .int .u8 (d3 : Nat), .int .u8 (d4 : Nat), .int .u8 (d5 : Nat), .int .u8 (d6 : Nat), .int .u8 (d7 : Nat), .int .u8 (d8 : Nat), .int .u8 (d9 : Nat), .int .u8 (d10 : Nat), .int .u8 (d11 : Nat), .int .u8 (d12 : Nat), .int .u8 (d13 : Nat), .int .u8 (d14 : Nat), .int .u8 (d15 : Nat), .int .u8 (d16 : Nat), .int .u8 (d17 : Nat), .int .u8 (d18 : Nat), .int .u8 (d19 : Nat), .int .u8 (d20 : Nat), .int .u8 (d21 : Nat), .int .u8 (d22 : Nat), .int .u8 (d23 : Nat), .int .u8 (d24 : Nat), .int .u8 (d25 : Nat), .int .u8 (d26 : Nat), .int .u8 (d27 : Nat), .int .u8 (d28 : Nat), .int .u8 (d29 : Nat), .int .u8 (d30 : Nat), .int .u8 (d31 : Nat)]) ∧ Gw w' w'')
  (g5 : ∀ w', Gw w w' → Calls Try.prog 22 #[.agg #[.int .u8 (d0 : Nat), .int .u8 (d1 : Nat), .int .u8 (d2 : Nat), .int .u8 (d3 : Nat), .int .u8 (d4 : Nat), .int .u8 (d5 : Nat), .int .u8 (d6 : Nat), .int .u8 (d7 : Nat), .int .u8 (d8 : Nat), .int .u8 (d9 : Nat), .int .u8 (d10 : Nat), .int .u8 (d11 : Nat), .int .u8 (d12 : Nat), .int .u8 (d13 : Nat), .int .u8 (d14 : Nat), .int .u8 (d15 : Nat), .int .u8 (d16 : Nat), .int .u8 (d17 : Nat), .int .u8 (d18 : Nat), .int .u8 (d19 : Nat), .int .u8 (d20 : Nat), .int .u8 (d21 : Nat), .int .u8 (d22 : Nat), .int .u8 (d23 : Nat), .int .u8 (d24 : Nat), .int .u8 (d25 : Nat), .int .u8 (d26 : Nat), .int .u8 (d27 : Nat), .int .u8 (d28 : Nat), .int .u8 (d29 : Nat), .int .u8 (d30 : Nat), .int .u8 (d31 : Nat)]] w' fun e w'' => e = .returned (.agg #[.int .u64 (l m 0 : Nat), .int .u64 (l m 1 : Nat), .int .u64 (l m 2 : Nat), .int .u64 (l m 3 : Nat)]) ∧ Gw w' w'')
  (g6 : ∀ w', Gw w w' → Calls Try.prog 25 #[.agg #[.int .u64 (l x 0 : Nat), .int .u64 (l x 1 : Nat), .int .u64 (l x 2 : Nat), .int .u64 (l x 3 : Nat)], .agg #[.int .u64 (l m 0 : Nat), .int .u64 (l m 1 : Nat), .int .u64 (l m 2 : Nat), .int .u64 (l m 3 : Nat)]] w' fun e w'' => e = .returned (.bool lt) ∧ Gw w' w'')
  (g7 : ∀ w', Gw w w' → Calls Try.prog 26 #[.agg #[.int .u64 (l x 0 : Nat), .int .u64 (l x 1 : Nat), .int .u64 (l x 2 : Nat), .int .u64 (l x 3 : Nat)], .agg #[.int .u64 (l m 0 : Nat), .int .u64 (l m 1 : Nat), .int .u64 (l m 2 : Nat), .int .u64 (l m 3 : Nat)]] w' fun e w'' => e = .returned (.bool lt) ∧ Gw w' w'')
  (g8 : ∀ w', Gw w w' → Calls Try.prog 27 #[.agg #[.int .u64 (l x 0 : Nat), .int .u64 (l x 1 : Nat), .int .u64 (l x 2 : Nat), .int .u64 (l x 3 : Nat)], .int .i64 i] w' fun e w'' => e = .returned (.int .i64 (bt : Nat)) ∧ Gw w' w'')
  (e24 : ∀ (x : Nat) (p q : Operand) (w : World), (do eqGuard .eql 24 p q (.agg #[.int .u64 (l x 0 : Nat), .int .u64 (l x 1 : Nat), .int .u64 (l x 2 : Nat), .int .u64 (l x 3 : Nat)]) (.agg #[.int .u64 (l x 0 : Nat), .int .u64 (l x 1 : Nat), .int .u64 (l x 2 : Nat), .int .u64 (l x 3 : Nat)]); binOp .eql 24 (.agg #[.int .u64 (l x 0 : Nat), .int .u64 (l x 1 : Nat), .int .u64 (l x 2 : Nat), .int .u64 (l x 3 : Nat)]) (.agg #[.int .u64 (l x 0 : Nat), .int .u64 (l x 1 : Nat), .int .u64 (l x 2 : Nat), .int .u64 (l x 3 : Nat)]) : Sem Value).run Try.prog w = .ok (.bool true) w) (e23 : ∀ (x : Nat) (p q : Operand) (w : World), (do eqGuard .eql 23 p q (.agg #[.int .u64 (l x 0 : Nat), .int .u64 (l x 1 : Nat), .int .u64 (l x 2 : Nat), .int .u64 (l x 3 : Nat)]) (.agg #[.int .u64 (l x 0 : Nat), .int .u64 (l x 1 : Nat), .int .u64 (l x 2 : Nat), .int .u64 (l x 3 : Nat)]); binOp .eql 23 (.agg #[.int .u64 (l x 0 : Nat), .int .u64 (l x 1 : Nat), .int .u64 (l x 2 : Nat), .int .u64 (l x 3 : Nat)]) (.agg #[.int .u64 (l x 0 : Nat), .int .u64 (l x 1 : Nat), .int .u64 (l x 2 : Nat), .int .u64 (l x 3 : Nat)]) : Sem Value).run Try.prog w = .ok (.bool true) w) :
  Calls Try.prog 7 #[.agg #[.int .u8 (b0 : Nat), .int .u8 (b1 : Nat), .int .u8 (b2 : Nat), .int .u8 (b3 : Nat), .int .u8 (b4 : Nat), .int .u8 (b5 : Nat), .int .u8 (b6 : Nat), .int .u8 (b7 : Nat), .int .u8 (b8 : Nat), .int .u8 (b9 : Nat), .int .u8 (b10 : Nat), .int .u8 (b11 : Nat), .int .u8 (b12 : Nat), .int .u8 (b13 : Nat), .int .u8 (b14 : Nat), .int .u8 (b15 : Nat), .int .u8 (b16 : Nat), .int .u8 (b17 : Nat), .int .u8 (b18 : Nat), .int .u8 (b19 : Nat), .int .u8 (b20 : Nat), .int .u8 (b21 : Nat), .int .u8 (b22 : Nat), .int .u8 (b23 : Nat), .int .u8 (b24 : Nat), .int .u8 (b25 : Nat), .int .u8 (b26 : Nat), .int .u8 (b27 : Nat), .int .u8 (b28 : Nat), .int .u8 (b29 : Nat), .int .u8 (b30 : Nat), .int .u8 (b31 : Nat)], .agg #[.int .u64 (l m 0 : Nat), .int .u64 (l m 1 : Nat), .int .u64 (l m 2 : Nat), .int .u64 (l m 3 : Nat)], .int .i64 i] w fun e w' => e = .returned (.bool true) ∧ Gw w w' := by
  go_enter Try.func7, Try.ntmps7
  refine ve_go ?_
  simp only [List.map_cons, List.map_nil]
  refine vseq ?_
  apply vrp
  · apply VE.cons
    · exact ev_box rfl rfl (gn rfl) rfl
    simp only [nm, seval]
    apply VE.cons
    · exact ev_box rfl rfl (gn rfl) rfl
    simp only [nm, seval]
    apply VE.cons
    · exact ev_assign rfl (gn rfl)
    simp only [nm, seval]
    exact VE.nil _
  · kernel_rfl
  change VOk _ _ _ _ _
  refine vseq ?_
  apply vrp
  · apply VE.cons
    · first | exact ev_load rfl (gn rfl) rfl rfl Try.underlying39 rfl Try.sizeOf39 rfl rfl | exact ev_loadx rfl (gn rfl) rfl Try.underlying39 rfl Try.sizeOf39 (by assumption) rfl
    simp only [nm, seval]
    apply VE.cons
    · exact ev_call rfl (gn rfl) rfl (en_of Try.func22 (by kernel_rfl) rfl) (g1)
    simp only [nm, seval]
    apply VE.cons
    · exact ev_alloc rfl rfl (gn rfl) Try.zeroValue24
    simp only [nm, seval]
    apply VE.cons
    · exact ev_store rfl (gn rfl) rfl rfl rfl Try.sizeOf24 rfl (by simp) rfl
    simp only [nm, seval]
    exact VE.nil _
  · kernel_rfl
  change VOk _ _ _ _ _
  refine vseq ?_
  apply vrp
  · apply VE.cons
    · exact ev_assign rfl (gn rfl)
    simp only [nm, seval]
    exact VE.nil _
  · kernel_rfl
  change VOk _ _ _ _ _
  refine vseq ?_
  refine vseq ?_
  apply vrp
  · apply VE.cons
    · exact ev_move rfl (gn rfl)
    simp only [nm, seval]
    apply VE.cons
    · exact ev_geq (p := true) rfl (gn rfl) rfl rfl h0
    simp only [nm, seval]
    apply VE.cons
    · exact ev_move rfl (gn rfl)
    simp only [nm, seval]
    apply VE.cons
    · first | exact Ev.skip (fun _ => rfl) | exact ev_move rfl (fun _ => rfl)
    simp only [nm, seval]
    apply VE.cons
    · first | exact Ev.skip (fun _ => rfl) | exact ev_lss (p := true) rfl (fun _ => rfl) rfl rfl h1
    simp only [nm, seval]
    apply VE.cons
    · refine ev_pure' (gn rfl) (fun ρ w => by simp only [VS.act, SV.c, List.map_cons, List.map_nil]; go_simp; exact rfl) (fun _ _ => rfl)
    simp only [nm, seval]
    exact VE.nil _
  · kernel_rfl
  change VOk _ _ _ _ _
  refine vcond_t rfl ?_
  apply vrp
  · apply VE.cons
    · exact ev_move rfl (gn rfl)
    simp only [nm, seval]
    apply VE.cons
    · exact ev_bin rfl (gn rfl) rfl rfl (fun w => hq  _ _ w)
    simp only [nm, seval]
    apply VE.cons
    · exact ev_bin rfl (gn rfl) rfl rfl (fun w => hs  _ _ w)
    simp only [nm, seval]
    apply VE.cons
    · exact ev_index rfl (gn rfl) rfl rfl Try.underlying39 Try.sizeOf5 (Int.natCast_nonneg _) (by omega)
    simp only [nm, seval]
    apply VE.cons
    · exact ev_load1 rfl (gn rfl) rfl rfl Try.underlying5 rfl hle
    simp only [nm, seval]
    apply VE.cons
    · exact ev_move rfl (gn rfl)
    simp only [nm, seval]
    apply VE.cons
    · exact ev_bin rfl (gn rfl) rfl rfl (fun w => hr  _ _ w)
    simp only [nm, seval]
    apply VE.cons
    · exact ev_bin rfl (gn rfl) rfl rfl (fun w => hsh  _ _ w)
    simp only [nm, seval]
    apply VE.cons
    · exact ev_bin rfl (gn rfl) rfl rfl (fun w => hr2  _ _ w)
    simp only [nm, seval]
    apply VE.cons
    · exact ev_conv rfl (gn rfl) rfl (fun w => hcv w)
    simp only [nm, seval]
    apply VE.cons
    · exact ev_assign rfl (gn rfl)
    simp only [nm, seval]
    exact VE.nil _
  · kernel_rfl
  change VOk _ _ _ _ _
  refine vseq ?_
  apply vrd (by kernel_rfl)
  · apply VE.cons
    · exact ev_call rfl (gn rfl) rfl (en_of Try.func10 (by kernel_rfl) rfl) (hsev)
    simp only [nm, seval]
    apply VE.cons
    · exact ev_move rfl (gn rfl)
    simp only [nm, seval]
    apply VE.cons
    · first | exact Ev.skip (fun _ => rfl) | exact ev_load rfl (fun _ => rfl) rfl rfl Try.underlying24 rfl Try.sizeOf24 rfl rfl | exact ev_loadx rfl (fun _ => rfl) rfl Try.underlying24 rfl Try.sizeOf24 (by assumption) rfl
    simp only [nm, seval]
    apply VE.cons
    · first | exact Ev.skip (fun _ => rfl) | exact ev_load rfl (fun _ => rfl) rfl rfl Try.underlying39 rfl Try.sizeOf39 rfl rfl | exact ev_loadx rfl (fun _ => rfl) rfl Try.underlying39 rfl Try.sizeOf39 (by assumption) rfl
    simp only [nm, seval]
    apply VE.cons
    · first | exact Ev.skip (fun _ => rfl) | exact ev_call rfl (fun _ => rfl) rfl (en_of Try.func23 (by kernel_rfl) rfl) (g2)
    simp only [nm, seval]
    apply VE.cons
    · first | exact Ev.skip (fun _ => rfl) | exact ev_bin rfl (fun _ => rfl) rfl rfl (fun w => e23 _ _ _ w)
    simp only [nm, seval]
    apply VE.cons
    · refine ev_pure' (gn rfl) (fun ρ w => by simp only [VS.act, SV.c, List.map_cons, List.map_nil]; go_simp; exact rfl) (fun _ _ => rfl)
    simp only [nm, seval]
    apply VE.cons
    · exact ev_move rfl (gn rfl)
    simp only [nm, seval]
    apply VE.cons
    · first | exact Ev.skip (fun _ => rfl) | exact ev_load rfl (fun _ => rfl) rfl rfl Try.underlying24 rfl Try.sizeOf24 rfl rfl | exact ev_loadx rfl (fun _ => rfl) rfl Try.underlying24 rfl Try.sizeOf24 (by assumption) rfl
    simp only [nm, seval]
    apply VE.cons
    · first | exact Ev.skip (fun _ => rfl) | exact ev_call rfl (fun _ => rfl) rfl (en_of Try.func24 (by kernel_rfl) rfl) (g3)
    simp only [nm, seval]
    apply VE.cons
    · first | exact Ev.skip (fun _ => rfl) | exact ev_load rfl (fun _ => rfl) rfl rfl Try.underlying39 rfl Try.sizeOf39 rfl rfl | exact ev_loadx rfl (fun _ => rfl) rfl Try.underlying39 rfl Try.sizeOf39 (by assumption) rfl
    simp only [nm, seval]
    apply VE.cons
    · first | exact Ev.skip (fun _ => rfl) | exact ev_bin rfl (fun _ => rfl) rfl rfl (fun w => e39  _ _ w)
    simp only [nm, seval]
    apply VE.cons
    · refine ev_pure' (gn rfl) (fun ρ w => by simp only [VS.act, SV.c, List.map_cons, List.map_nil]; go_simp; exact rfl) (fun _ _ => rfl)
    simp only [nm, seval]
    apply VE.cons
    · exact ev_move rfl (gn rfl)
    simp only [nm, seval]
    apply VE.cons
    · first | exact Ev.skip (fun _ => rfl) | exact ev_load rfl (fun _ => rfl) rfl rfl Try.underlying24 rfl Try.sizeOf24 rfl rfl | exact ev_loadx rfl (fun _ => rfl) rfl Try.underlying24 rfl Try.sizeOf24 (by assumption) rfl
    simp only [nm, seval]
    apply VE.cons
    · first | exact Ev.skip (fun _ => rfl) | exact ev_call rfl (fun _ => rfl) rfl (en_of Try.func24 (by kernel_rfl) rfl) (g4)
    simp only [nm, seval]
    apply VE.cons
    · first | exact Ev.skip (fun _ => rfl) | exact ev_call rfl (fun _ => rfl) rfl (en_of Try.func22 (by kernel_rfl) rfl) (g5)
    simp only [nm, seval]
    apply VE.cons
    · first | exact Ev.skip (fun _ => rfl) | exact ev_load rfl (fun _ => rfl) rfl rfl Try.underlying24 rfl Try.sizeOf24 rfl rfl | exact ev_loadx rfl (fun _ => rfl) rfl Try.underlying24 rfl Try.sizeOf24 (by assumption) rfl
    simp only [nm, seval]
    apply VE.cons
    · first | exact Ev.skip (fun _ => rfl) | exact ev_bin rfl (fun _ => rfl) rfl rfl (fun w => e24 _ _ _ w)
    simp only [nm, seval]
    apply VE.cons
    · refine ev_pure' (gn rfl) (fun ρ w => by simp only [VS.act, SV.c, List.map_cons, List.map_nil]; go_simp; exact rfl) (fun _ _ => rfl)
    simp only [nm, seval]
    apply VE.cons
    · exact ev_move rfl (gn rfl)
    simp only [nm, seval]
    apply VE.cons
    · first | exact Ev.skip (fun _ => rfl) | exact ev_load rfl (fun _ => rfl) rfl rfl Try.underlying24 rfl Try.sizeOf24 rfl rfl | exact ev_loadx rfl (fun _ => rfl) rfl Try.underlying24 rfl Try.sizeOf24 (by assumption) rfl
    simp only [nm, seval]
    apply VE.cons
    · first | exact Ev.skip (fun _ => rfl) | exact ev_load rfl (fun _ => rfl) rfl rfl Try.underlying24 rfl Try.sizeOf24 rfl rfl | exact ev_loadx rfl (fun _ => rfl) rfl Try.underlying24 rfl Try.sizeOf24 (by assumption) rfl
    simp only [nm, seval]
    apply VE.cons
    · first | exact Ev.skip (fun _ => rfl) | exact ev_call rfl (fun _ => rfl) rfl (en_of Try.func25 (by kernel_rfl) rfl) (g6)
    simp only [nm, seval]
    apply VE.cons
    · first | exact Ev.skip (fun _ => rfl) | exact ev_load rfl (fun _ => rfl) rfl rfl Try.underlying24 rfl Try.sizeOf24 rfl rfl | exact ev_loadx rfl (fun _ => rfl) rfl Try.underlying24 rfl Try.sizeOf24 (by assumption) rfl
    simp only [nm, seval]
    apply VE.cons
    · first | exact Ev.skip (fun _ => rfl) | exact ev_load rfl (fun _ => rfl) rfl rfl Try.underlying24 rfl Try.sizeOf24 rfl rfl | exact ev_loadx rfl (fun _ => rfl) rfl Try.underlying24 rfl Try.sizeOf24 (by assumption) rfl
    simp only [nm, seval]
    apply VE.cons
    · first | exact Ev.skip (fun _ => rfl) | exact ev_call rfl (fun _ => rfl) rfl (en_of Try.func26 (by kernel_rfl) rfl) (g7)
    simp only [nm, seval]
    apply VE.cons
    · first | exact Ev.skip (fun _ => rfl) | exact ev_bin rfl (fun _ => rfl) rfl rfl (fun w => e4  _ _ w)
    simp only [nm, seval]
    apply VE.cons
    · refine ev_pure' (gn rfl) (fun ρ w => by simp only [VS.act, SV.c, List.map_cons, List.map_nil]; go_simp; exact rfl) (fun _ _ => rfl)
    simp only [nm, seval]
    apply VE.cons
    · exact ev_move rfl (gn rfl)
    simp only [nm, seval]
    apply VE.cons
    · first | exact Ev.skip (fun _ => rfl) | exact ev_load rfl (fun _ => rfl) rfl rfl Try.underlying24 rfl Try.sizeOf24 rfl rfl | exact ev_loadx rfl (fun _ => rfl) rfl Try.underlying24 rfl Try.sizeOf24 (by assumption) rfl
    simp only [nm, seval]
    apply VE.cons
    · first | exact Ev.skip (fun _ => rfl) | exact ev_move rfl (fun _ => rfl)
    simp only [nm, seval]
    apply VE.cons
    · first | exact Ev.skip (fun _ => rfl) | exact ev_call rfl (fun _ => rfl) rfl (en_of Try.func27 (by kernel_rfl) rfl) (g8)
    simp only [nm, seval]
    apply VE.cons
    · first | exact Ev.skip (fun _ => rfl) | exact ev_move rfl (fun _ => rfl)
    simp only [nm, seval]
    apply VE.cons
    · first | exact Ev.skip (fun _ => rfl) | exact ev_eql (p := true) rfl (fun _ => rfl) rfl rfl (decide_eq_true rfl)
    simp only [nm, seval]
    apply VE.cons
    · refine ev_pure' (gn rfl) (fun ρ w => by simp only [VS.act, SV.c, List.map_cons, List.map_nil]; go_simp; exact rfl) (fun _ _ => rfl)
    simp only [nm, seval]
    apply VE.cons
    · exact ev_assign rfl (gn rfl)
    simp only [nm, seval]
    exact VE.nil _
  · kernel_rfl
  change VOk _ _ _ _ _
  refine vret ?_
  refine post_ret (res1 Try.results7 (rv_tmp rfl)) ?_
  intro w' hg
  exact ⟨rfl, hg⟩
end Go.Proofs.Ytcbddldodpdikaa
