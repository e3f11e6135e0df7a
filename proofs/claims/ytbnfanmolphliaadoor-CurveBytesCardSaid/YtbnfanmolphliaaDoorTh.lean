import Derived.Test.YtbnfanmolphliaaDoorProg
import Derived.Test.YtbnfanmolphliaaDoorVo
namespace Go.Proofs.YtbnfanmolphliaaDoor
open Go.RowKit Go.Toll
set_option maxHeartbeats 4000000
set_option maxRecDepth 100000
theorem inv_core (b : Nat) (l : Nat → Nat → Nat) (x u0 m one zr : Nat) (w : World) (hm : ∀ (j : Nat) (v : Value), [.int .u64 (l m 0 : Nat), .int .u64 (l m 1 : Nat), .int .u64 (l m 2 : Nat), .int .u64 (l m 3 : Nat)][j]? = some v → w.cell? ⟨b, 0 + j, none⟩ = some v) (nz n1 : Nat → Bool) (par : Nat → Nat) (hf hv : Nat → Nat) (lt : Nat → Nat → Bool) (sb bo ms : Nat → Nat → Nat) (R : Nat → Nat → Nat → Nat → Prop)
  (hone : l one 0 = 1 ∧ l one 1 = 0 ∧ l one 2 = 0 ∧ l one 3 = 0) (hzero : l zr 0 = 0 ∧ l zr 1 = 0 ∧ l zr 2 = 0 ∧ l zr 3 = 0)
  (h1 : ∀ w', Gw w w' → Calls Tryd.prog 62 #[.pointer (some ⟨b, 0, none⟩), .agg #[.int .u64 (l x 0 : Nat), .int .u64 (l x 1 : Nat), .int .u64 (l x 2 : Nat), .int .u64 (l x 3 : Nat)]] w' fun e w'' => e = .returned (.agg #[.int .u64 (l u0 0 : Nat), .int .u64 (l u0 1 : Nat), .int .u64 (l u0 2 : Nat), .int .u64 (l u0 3 : Nat)]) ∧ Gw w' w'')
  (hR : R u0 m one zr)
  (hnz : ∀ (u : Nat) (p q : Operand) (w : World), (do eqGuard .neq 59 p q (.agg #[.int .u64 (l u 0 : Nat), .int .u64 (l u 1 : Nat), .int .u64 (l u 2 : Nat), .int .u64 (l u 3 : Nat)]) (.agg #[.int .u64 0, .int .u64 0, .int .u64 0, .int .u64 0]); binOp .neq 59 (.agg #[.int .u64 (l u 0 : Nat), .int .u64 (l u 1 : Nat), .int .u64 (l u 2 : Nat), .int .u64 (l u 3 : Nat)]) (.agg #[.int .u64 0, .int .u64 0, .int .u64 0, .int .u64 0]) : Sem Value).run Tryd.prog w = .ok (.bool (nz u)) w)
  (hn1 : ∀ (u : Nat) (p q : Operand) (w : World), (do eqGuard .neq 59 p q (.agg #[.int .u64 (l u 0 : Nat), .int .u64 (l u 1 : Nat), .int .u64 (l u 2 : Nat), .int .u64 (l u 3 : Nat)]) (.agg #[.int .u64 1, .int .u64 0, .int .u64 0, .int .u64 0]); binOp .neq 59 (.agg #[.int .u64 (l u 0 : Nat), .int .u64 (l u 1 : Nat), .int .u64 (l u 2 : Nat), .int .u64 (l u 3 : Nat)]) (.agg #[.int .u64 1, .int .u64 0, .int .u64 0, .int .u64 0]) : Sem Value).run Tryd.prog w = .ok (.bool (n1 u)) w)
  (hpar : ∀ (u : Nat) (p q : Operand) (w : World), (do eqGuard .and 28 p q (.int .u64 (l u 0 : Nat)) (.int .u64 1); binOp .and 28 (.int .u64 (l u 0 : Nat)) (.int .u64 1) : Sem Value).run Tryd.prog w = .ok (.int .u64 (par u : Nat)) w)
  (hhf : ∀ u v a d : Nat, R u v a d → nz u = true → par u = 0 → ∀ w', Gw w w' → Calls Tryd.prog 64 #[.agg #[.int .u64 (l u 0 : Nat), .int .u64 (l u 1 : Nat), .int .u64 (l u 2 : Nat), .int .u64 (l u 3 : Nat)], .int .u64 0] w' fun e w'' => e = .returned (.agg #[.int .u64 (l (hf u) 0 : Nat), .int .u64 (l (hf u) 1 : Nat), .int .u64 (l (hf u) 2 : Nat), .int .u64 (l (hf u) 3 : Nat)]) ∧ Gw w' w'')
  (hhv : ∀ u v a d : Nat, R u v a d → nz u = true → par u = 0 → ∀ w', Gw w w' → Calls Tryd.prog 65 #[.pointer (some ⟨b, 0, none⟩), .agg #[.int .u64 (l a 0 : Nat), .int .u64 (l a 1 : Nat), .int .u64 (l a 2 : Nat), .int .u64 (l a 3 : Nat)]] w' fun e w'' => e = .returned (.agg #[.int .u64 (l (hv a) 0 : Nat), .int .u64 (l (hv a) 1 : Nat), .int .u64 (l (hv a) 2 : Nat), .int .u64 (l (hv a) 3 : Nat)]) ∧ Gw w' w'')
  (hlt : ∀ u v a d : Nat, R u v a d → nz u = true → par u ≠ 0 → ∀ w', Gw w w' → Calls Tryd.prog 52 #[.agg #[.int .u64 (l u 0 : Nat), .int .u64 (l u 1 : Nat), .int .u64 (l u 2 : Nat), .int .u64 (l u 3 : Nat)], .agg #[.int .u64 (l v 0 : Nat), .int .u64 (l v 1 : Nat), .int .u64 (l v 2 : Nat), .int .u64 (l v 3 : Nat)]] w' fun e w'' => e = .returned (.bool (lt u v)) ∧ Gw w' w'')
  (hsb : ∀ u v a d : Nat, R u v a d → nz u = true → par u ≠ 0 → lt u v = false → ∀ w', Gw w w' → Calls Tryd.prog 61 #[.agg #[.int .u64 (l u 0 : Nat), .int .u64 (l u 1 : Nat), .int .u64 (l u 2 : Nat), .int .u64 (l u 3 : Nat)], .agg #[.int .u64 (l v 0 : Nat), .int .u64 (l v 1 : Nat), .int .u64 (l v 2 : Nat), .int .u64 (l v 3 : Nat)]] w' fun e w'' => e = .returned (.tuple #[.agg #[.int .u64 (l (sb u v) 0 : Nat), .int .u64 (l (sb u v) 1 : Nat), .int .u64 (l (sb u v) 2 : Nat), .int .u64 (l (sb u v) 3 : Nat)], .int .u64 (bo u v : Nat)]) ∧ Gw w' w'')
  (hsw : ∀ u v a d : Nat, R u v a d → nz u = true → par u ≠ 0 → lt u v = true → ∀ w', Gw w w' → Calls Tryd.prog 61 #[.agg #[.int .u64 (l v 0 : Nat), .int .u64 (l v 1 : Nat), .int .u64 (l v 2 : Nat), .int .u64 (l v 3 : Nat)], .agg #[.int .u64 (l u 0 : Nat), .int .u64 (l u 1 : Nat), .int .u64 (l u 2 : Nat), .int .u64 (l u 3 : Nat)]] w' fun e w'' => e = .returned (.tuple #[.agg #[.int .u64 (l (sb v u) 0 : Nat), .int .u64 (l (sb v u) 1 : Nat), .int .u64 (l (sb v u) 2 : Nat), .int .u64 (l (sb v u) 3 : Nat)], .int .u64 (bo v u : Nat)]) ∧ Gw w' w'')
  (hms : ∀ u v a d : Nat, R u v a d → nz u = true → par u ≠ 0 → lt u v = false → ∀ w', Gw w w' → Calls Tryd.prog 55 #[.pointer (some ⟨b, 0, none⟩), .agg #[.int .u64 (l a 0 : Nat), .int .u64 (l a 1 : Nat), .int .u64 (l a 2 : Nat), .int .u64 (l a 3 : Nat)], .agg #[.int .u64 (l d 0 : Nat), .int .u64 (l d 1 : Nat), .int .u64 (l d 2 : Nat), .int .u64 (l d 3 : Nat)]] w' fun e w'' => e = .returned (.agg #[.int .u64 (l (ms a d) 0 : Nat), .int .u64 (l (ms a d) 1 : Nat), .int .u64 (l (ms a d) 2 : Nat), .int .u64 (l (ms a d) 3 : Nat)]) ∧ Gw w' w'')
  (hmw : ∀ u v a d : Nat, R u v a d → nz u = true → par u ≠ 0 → lt u v = true → ∀ w', Gw w w' → Calls Tryd.prog 55 #[.pointer (some ⟨b, 0, none⟩), .agg #[.int .u64 (l d 0 : Nat), .int .u64 (l d 1 : Nat), .int .u64 (l d 2 : Nat), .int .u64 (l d 3 : Nat)], .agg #[.int .u64 (l a 0 : Nat), .int .u64 (l a 1 : Nat), .int .u64 (l a 2 : Nat), .int .u64 (l a 3 : Nat)]] w' fun e w'' => e = .returned (.agg #[.int .u64 (l (ms d a) 0 : Nat), .int .u64 (l (ms d a) 1 : Nat), .int .u64 (l (ms d a) 2 : Nat), .int .u64 (l (ms d a) 3 : Nat)]) ∧ Gw w' w'')
  (se : ∀ u v a d : Nat, R u v a d → nz u = true → par u = 0 → R (hf u) v (hv a) d ∧ hf u + v < u + v)
  (sg : ∀ u v a d : Nat, R u v a d → nz u = true → par u ≠ 0 → lt u v = false → R (sb u v) v (ms a d) d ∧ sb u v + v < u + v)
  (sl : ∀ u v a d : Nat, R u v a d → nz u = true → par u ≠ 0 → lt u v = true → R (sb v u) u (ms d a) a ∧ sb v u + u < u + v) :
  Calls Tryd.prog 58 #[.pointer (some ⟨b, 0, none⟩), .agg #[.int .u64 (l x 0 : Nat), .int .u64 (l x 1 : Nat), .int .u64 (l x 2 : Nat), .int .u64 (l x 3 : Nat)]] w fun e w' => (∃ u v a d, R u v a d ∧ nz u = false ∧ ((n1 v = true ∧ e = .returned (.tuple #[.agg #[.int .u64 0, .int .u64 0, .int .u64 0, .int .u64 0], .int .i64 1])) ∨ (n1 v = false ∧ e = .returned (.tuple #[.agg #[.int .u64 (l d 0 : Nat), .int .u64 (l d 1 : Nat), .int .u64 (l d 2 : Nat), .int .u64 (l d 3 : Nat)], .int .i64 0])))) ∧ Gw w w' := by
  go_enter Tryd.func58, Tryd.ntmps58
  refine ve_go ?_
  simp only [List.map_cons, List.map_nil]
  refine vseq ?_
  apply vrp
  · apply VE.cons
    · exact ev_box rfl rfl (gn rfl) rfl
    simp only [nm, seval]
    apply VE.cons
    · exact ev_alloc rfl rfl (gn rfl) Tryd.zeroValue59
    simp only [nm, seval]
    apply VE.cons
    · exact ev_assign rfl (gn rfl)
    simp only [nm, seval]
    exact VE.nil _
  · kernel_rfl
  change VOk _ _ _ _ _
  refine vseq ?_
  refine vseq ?_
  apply vrp
  · apply VE.cons
    · exact ev_move rfl (gn rfl)
    simp only [nm, seval]
    apply VE.cons
    · refine ev_pure' (gn rfl) (fun ρ w => by simp only [VS.act, SV.c, List.map_cons, List.map_nil]; go_simp; exact rfl) (fun _ _ => rfl)
    simp only [nm, seval]
    exact VE.nil _
  · kernel_rfl
  change VOk _ _ _ _ _
  refine vcond_f rfl ?_
  refine vskip ?_
  change VOk _ _ _ _ _
  refine vseq ?_
  apply vrd (by kernel_rfl)
  · apply VE.cons
    · exact ev_move rfl (gn rfl)
    simp only [nm, seval]
    apply VE.cons
    · first | exact ev_load rfl (gn rfl) rfl rfl Tryd.underlying59 rfl Tryd.sizeOf59 rfl rfl | exact ev_loadx rfl (gn rfl) rfl Tryd.underlying59 rfl Tryd.sizeOf59 (by assumption) rfl
    simp only [nm, seval]
    apply VE.cons
    · exact ev_call rfl (gn rfl) rfl (en_of Tryd.func62 (by kernel_rfl) rfl) (h1)
    simp only [nm, seval]
    apply VE.cons
    · exact ev_move rfl (gn rfl)
    simp only [nm, seval]
    apply VE.cons
    · first | exact ev_nil rfl (gn rfl) rfl | exact ev_nilx rfl (gn rfl) rfl
    simp only [nm, seval]
    apply VE.cons
    · first | exact ev_field rfl (gn rfl) rfl Tryd.underlying83 rfl Tryd.sizeOf59 | exact ev_fieldx rfl (gn rfl) rfl Tryd.underlying83 rfl Tryd.sizeOf59
    simp only [nm, seval]
    apply VE.cons
    · first | exact ev_load rfl (gn rfl) rfl rfl Tryd.underlying59 rfl Tryd.sizeOf59 rfl rfl | exact ev_loadx rfl (gn rfl) rfl Tryd.underlying59 rfl Tryd.sizeOf59 (by assumption) rfl
    simp only [nm, seval]
    apply VE.cons
    · exact ev_alloc rfl rfl (gn rfl) Tryd.zeroValue59
    simp only [nm, seval]
    apply VE.cons
    · exact ev_alloc rfl rfl (gn rfl) Tryd.zeroValue59
    simp only [nm, seval]
    apply VE.cons
    · exact ev_store rfl (gn rfl) rfl rfl rfl Tryd.sizeOf59 rfl (by simp) rfl
    simp only [nm, seval]
    apply VE.cons
    · exact ev_store rfl (gn rfl) rfl rfl rfl Tryd.sizeOf59 rfl (by simp) rfl
    simp only [nm, seval]
    exact VE.nil _
  · kernel_rfl
  change VOk _ _ _ _ _
  refine vseq ?_
  apply vrp
  · apply VE.cons
    · refine ev_pure' (gn rfl) (fun ρ w => by simp only [VS.act, SV.c, List.map_cons, List.map_nil]; go_simp; exact rfl) (fun _ _ => rfl)
    simp only [nm, seval]
    apply VE.cons
    · refine ev_pure' (gn rfl) (fun ρ w => by simp only [VS.act, SV.c, List.map_cons, List.map_nil]; go_simp; exact rfl) (fun _ _ => rfl)
    simp only [nm, seval]
    apply VE.cons
    · exact ev_alloc rfl rfl (gn rfl) Tryd.zeroValue59
    simp only [nm, seval]
    apply VE.cons
    · exact ev_alloc rfl rfl (gn rfl) Tryd.zeroValue59
    simp only [nm, seval]
    apply VE.cons
    · exact ev_store rfl (gn rfl) rfl rfl rfl Tryd.sizeOf59 rfl (by simp) rfl
    simp only [nm, seval]
    apply VE.cons
    · exact ev_store rfl (gn rfl) rfl rfl rfl Tryd.sizeOf59 rfl (by simp) rfl
    simp only [nm, seval]
    exact VE.nil _
  · kernel_rfl
  change VOk _ _ _ _ _
  refine vseq ?_
  refine vblock ?_
  refine vloop_inv (fun n s => ∃ (u v a d : Nat), n = u + v ∧ R u v a d ∧ s.fr = [.v (.pointer (some ⟨b, 0, none⟩)), .v (.agg #[.int .u64 (l x 0 : Nat), .int .u64 (l x 1 : Nat), .int .u64 (l x 2 : Nat), .int .u64 (l x 3 : Nat)]), .v undef, .p 3 0, .p 4 0, .v (.int .i64 0), .p 6 0, .p 7 0, .p 8 0, .p 9 0, s.fr.getD 10 default, s.fr.getD 11 default, s.fr.getD 12 default, s.fr.getD 13 default, s.fr.getD 14 default, s.fr.getD 15 default, s.fr.getD 16 default, s.fr.getD 17 default, s.fr.getD 18 default, s.fr.getD 19 default, s.fr.getD 20 default, s.fr.getD 21 default, s.fr.getD 22 default, s.fr.getD 23 default, s.fr.getD 24 default, s.fr.getD 25 default, s.fr.getD 26 default, s.fr.getD 27 default, s.fr.getD 28 default, s.fr.getD 29 default, s.fr.getD 30 default, s.fr.getD 31 default, s.fr.getD 32 default, s.fr.getD 33 default, s.fr.getD 34 default, s.fr.getD 35 default, s.fr.getD 36 default, s.fr.getD 37 default, s.fr.getD 38 default, s.fr.getD 39 default, s.fr.getD 40 default, s.fr.getD 41 default, s.fr.getD 42 default, s.fr.getD 43 default, s.fr.getD 44 default, s.fr.getD 45 default, s.fr.getD 46 default, s.fr.getD 47 default, s.fr.getD 48 default, s.fr.getD 49 default, s.fr.getD 50 default, s.fr.getD 51 default, s.fr.getD 52 default, s.fr.getD 53 default, s.fr.getD 54 default, s.fr.getD 55 default, s.fr.getD 56 default, s.fr.getD 57 default] ∧ s.mem = memOf [(9, ([.v (.int .u64 (l d 0 : Nat)), .v (.int .u64 (l d 1 : Nat)), .v (.int .u64 (l d 2 : Nat)), .v (.int .u64 (l d 3 : Nat))], 59)), (8, ([.v (.int .u64 (l a 0 : Nat)), .v (.int .u64 (l a 1 : Nat)), .v (.int .u64 (l a 2 : Nat)), .v (.int .u64 (l a 3 : Nat))], 59)), (7, ([.v (.int .u64 (l v 0 : Nat)), .v (.int .u64 (l v 1 : Nat)), .v (.int .u64 (l v 2 : Nat)), .v (.int .u64 (l v 3 : Nat))], 59)), (6, ([.v (.int .u64 (l u 0 : Nat)), .v (.int .u64 (l u 1 : Nat)), .v (.int .u64 (l u 2 : Nat)), .v (.int .u64 (l u 3 : Nat))], 59)), (4, ([.v (.int .u64 0), .v (.int .u64 0), .v (.int .u64 0), .v (.int .u64 0)], 59)), (3, ([.v (.int .u64 (l x 0 : Nat)), .v (.int .u64 (l x 1 : Nat)), .v (.int .u64 (l x 2 : Nat)), .v (.int .u64 (l x 3 : Nat))], 59))]) ?_ (u0 + m) ?_
  rotate_left
  · exact ⟨u0, m, one, zr, rfl, hR, rfl, by simp only [hone, hzero]; rfl⟩
  rintro n ⟨fr, mm⟩ ⟨u, v, a, d, hn, hRn, hfr, hmm⟩
  obtain ⟨f, hf⟩ : ∃ f : Nat → SV, fr = [.v (.pointer (some ⟨b, 0, none⟩)), .v (.agg #[.int .u64 (l x 0 : Nat), .int .u64 (l x 1 : Nat), .int .u64 (l x 2 : Nat), .int .u64 (l x 3 : Nat)]), .v undef, .p 3 0, .p 4 0, .v (.int .i64 0), .p 6 0, .p 7 0, .p 8 0, .p 9 0, f 10, f 11, f 12, f 13, f 14, f 15, f 16, f 17, f 18, f 19, f 20, f 21, f 22, f 23, f 24, f 25, f 26, f 27, f 28, f 29, f 30, f 31, f 32, f 33, f 34, f 35, f 36, f 37, f 38, f 39, f 40, f 41, f 42, f 43, f 44, f 45, f 46, f 47, f 48, f 49, f 50, f 51, f 52, f 53, f 54, f 55, f 56, f 57] := ⟨fun i => fr.getD i default, hfr⟩
  clear hfr
  simp only at hmm
  subst hf hmm
  by_cases hz : nz u = true
  · by_cases hp : par u = 0
    · have he : decide (((par u : Nat) : Int) = 0) = true := decide_eq_true (by omega)
      refine vseq ?_
      refine vseq ?_
      apply vrp
      · apply VE.cons
        · first | exact ev_load rfl (gn rfl) rfl rfl Tryd.underlying59 rfl Tryd.sizeOf59 rfl rfl | exact ev_loadx rfl (gn rfl) rfl Tryd.underlying59 rfl Tryd.sizeOf59 (by assumption) rfl
        simp only [nm, seval]
        apply VE.cons
        · refine ev_pure' (gn rfl) (fun ρ w => by simp only [VS.act, SV.c, List.map_cons, List.map_nil]; go_simp; exact rfl) (fun _ _ => rfl)
        simp only [nm, seval]
        apply VE.cons
        · exact ev_bin rfl (gn rfl) rfl rfl (fun w => (hnz _ _ _ w).trans (by rw [hz]))
        simp only [nm, seval]
        exact VE.nil _
      · kernel_rfl
      change VOk _ _ _ _ _
      refine vcond_t rfl ?_
      refine vskip ?_
      change VOk _ _ _ _ _
      refine vblock ?_
      refine vseq ?_
      refine vblock ?_
      refine vseq ?_
      apply vrp
      · apply VE.cons
        · first | exact ev_index rfl (gn rfl) rfl rfl Tryd.underlying59 Tryd.sizeOf28 (by decide) (by decide) | exact ev_indexx rfl (gn rfl) rfl rfl Tryd.underlying59 Tryd.sizeOf28 (by decide) (by decide)
        simp only [nm, seval]
        apply VE.cons
        · first | exact ev_load1 rfl (gn rfl) rfl rfl Tryd.underlying28 rfl rfl | exact ev_loadx1 rfl (gn rfl) rfl Tryd.underlying28 rfl (by first | assumption | exact hm 0 _ rfl | exact hm 1 _ rfl | exact hm 2 _ rfl | exact hm 3 _ rfl)
        simp only [nm, seval]
        apply VE.cons
        · exact ev_bin rfl (gn rfl) rfl rfl (fun w => hpar _ _ _ w)
        simp only [nm, seval]
        apply VE.cons
        · exact ev_eql (p := true) rfl (gn rfl) rfl rfl he
        simp only [nm, seval]
        apply VE.cons
        · exact ev_assign rfl (gn rfl)
        simp only [nm, seval]
        exact VE.nil _
      · kernel_rfl
      change VOk _ _ _ _ _
      refine vcond_t rfl ?_
      refine vseq ?_
      apply vrd (by kernel_rfl)
      · apply VE.cons
        · first | exact ev_load rfl (gn rfl) rfl rfl Tryd.underlying59 rfl Tryd.sizeOf59 rfl rfl | exact ev_loadx rfl (gn rfl) rfl Tryd.underlying59 rfl Tryd.sizeOf59 (by assumption) rfl
        simp only [nm, seval]
        apply VE.cons
        · exact ev_call rfl (gn rfl) rfl (en_of Tryd.func64 (by kernel_rfl) rfl) (hhf _ _ _ _ hRn hz hp)
        simp only [nm, seval]
        apply VE.cons
        · exact ev_move rfl (gn rfl)
        simp only [nm, seval]
        apply VE.cons
        · first | exact ev_load rfl (gn rfl) rfl rfl Tryd.underlying59 rfl Tryd.sizeOf59 rfl rfl | exact ev_loadx rfl (gn rfl) rfl Tryd.underlying59 rfl Tryd.sizeOf59 (by assumption) rfl
        simp only [nm, seval]
        apply VE.cons
        · exact ev_call rfl (gn rfl) rfl (en_of Tryd.func65 (by kernel_rfl) rfl) (hhv _ _ _ _ hRn hz hp)
        simp only [nm, seval]
        apply VE.cons
        · exact ev_store rfl (gn rfl) rfl rfl rfl Tryd.sizeOf59 rfl (by simp) rfl
        simp only [nm, seval]
        apply VE.cons
        · exact ev_store rfl (gn rfl) rfl rfl rfl Tryd.sizeOf59 rfl (by simp) rfl
        simp only [nm, seval]
        exact VE.nil _
      · kernel_rfl
      change VOk _ _ _ _ _
      refine vexit ?_
      exact ⟨_, by have := (se _ _ _ _ hRn hz hp).2; omega, _, _, _, _, rfl, (se _ _ _ _ hRn hz hp).1, rfl, rfl⟩
    · have he : decide (((par u : Nat) : Int) = 0) = false := decide_eq_false (by omega)
      cases hl : lt u v
      · skip
        refine vseq ?_
        refine vseq ?_
        apply vrp
        · apply VE.cons
          · first | exact ev_load rfl (gn rfl) rfl rfl Tryd.underlying59 rfl Tryd.sizeOf59 rfl rfl | exact ev_loadx rfl (gn rfl) rfl Tryd.underlying59 rfl Tryd.sizeOf59 (by assumption) rfl
          simp only [nm, seval]
          apply VE.cons
          · refine ev_pure' (gn rfl) (fun ρ w => by simp only [VS.act, SV.c, List.map_cons, List.map_nil]; go_simp; exact rfl) (fun _ _ => rfl)
          simp only [nm, seval]
          apply VE.cons
          · exact ev_bin rfl (gn rfl) rfl rfl (fun w => (hnz _ _ _ w).trans (by rw [hz]))
          simp only [nm, seval]
          exact VE.nil _
        · kernel_rfl
        change VOk _ _ _ _ _
        refine vcond_t rfl ?_
        refine vskip ?_
        change VOk _ _ _ _ _
        refine vblock ?_
        refine vseq ?_
        refine vblock ?_
        refine vseq ?_
        apply vrp
        · apply VE.cons
          · first | exact ev_index rfl (gn rfl) rfl rfl Tryd.underlying59 Tryd.sizeOf28 (by decide) (by decide) | exact ev_indexx rfl (gn rfl) rfl rfl Tryd.underlying59 Tryd.sizeOf28 (by decide) (by decide)
          simp only [nm, seval]
          apply VE.cons
          · first | exact ev_load1 rfl (gn rfl) rfl rfl Tryd.underlying28 rfl rfl | exact ev_loadx1 rfl (gn rfl) rfl Tryd.underlying28 rfl (by first | assumption | exact hm 0 _ rfl | exact hm 1 _ rfl | exact hm 2 _ rfl | exact hm 3 _ rfl)
          simp only [nm, seval]
          apply VE.cons
          · exact ev_bin rfl (gn rfl) rfl rfl (fun w => hpar _ _ _ w)
          simp only [nm, seval]
          apply VE.cons
          · exact ev_eql (p := false) rfl (gn rfl) rfl rfl he
          simp only [nm, seval]
          apply VE.cons
          · exact ev_assign rfl (gn rfl)
          simp only [nm, seval]
          exact VE.nil _
        · kernel_rfl
        change VOk _ _ _ _ _
        refine vcond_f rfl ?_
        refine vseq ?_
        apply vrp
        · apply VE.cons
          · first | exact ev_load rfl (gn rfl) rfl rfl Tryd.underlying59 rfl Tryd.sizeOf59 rfl rfl | exact ev_loadx rfl (gn rfl) rfl Tryd.underlying59 rfl Tryd.sizeOf59 (by assumption) rfl
          simp only [nm, seval]
          apply VE.cons
          · first | exact ev_load rfl (gn rfl) rfl rfl Tryd.underlying59 rfl Tryd.sizeOf59 rfl rfl | exact ev_loadx rfl (gn rfl) rfl Tryd.underlying59 rfl Tryd.sizeOf59 (by assumption) rfl
          simp only [nm, seval]
          apply VE.cons
          · exact ev_call (v := .bool false) rfl (gn rfl) rfl (en_of Tryd.func52 (by kernel_rfl) rfl) (fun w' hw' => by rw [← hl]; exact hlt _ _ _ _ hRn hz hp w' hw')
          simp only [nm, seval]
          apply VE.cons
          · exact ev_assign rfl (gn rfl)
          simp only [nm, seval]
          exact VE.nil _
        · kernel_rfl
        change VOk _ _ _ _ _
        refine vcond_f rfl ?_
        refine vskip ?_
        change VOk _ _ _ _ _
        refine vseq ?_
        apply vrp
        · apply VE.cons
          · first | exact ev_load rfl (gn rfl) rfl rfl Tryd.underlying59 rfl Tryd.sizeOf59 rfl rfl | exact ev_loadx rfl (gn rfl) rfl Tryd.underlying59 rfl Tryd.sizeOf59 (by assumption) rfl
          simp only [nm, seval]
          apply VE.cons
          · first | exact ev_load rfl (gn rfl) rfl rfl Tryd.underlying59 rfl Tryd.sizeOf59 rfl rfl | exact ev_loadx rfl (gn rfl) rfl Tryd.underlying59 rfl Tryd.sizeOf59 (by assumption) rfl
          simp only [nm, seval]
          apply VE.cons
          · exact ev_call rfl (gn rfl) rfl (en_of Tryd.func61 (by kernel_rfl) rfl) (hsb _ _ _ _ hRn hz hp hl)
          simp only [nm, seval]
          apply VE.cons
          · exact ev_move rfl (gn rfl)
          simp only [nm, seval]
          apply VE.cons
          · exact ev_extract rfl (gn rfl) rfl rfl
          simp only [nm, seval]
          apply VE.cons
          · exact ev_extract rfl (gn rfl) rfl rfl
          simp only [nm, seval]
          apply VE.cons
          · exact ev_store rfl (gn rfl) rfl rfl rfl Tryd.sizeOf59 rfl (by simp) rfl
          simp only [nm, seval]
          exact VE.nil _
        · kernel_rfl
        change VOk _ _ _ _ _
        apply vrp
        · apply VE.cons
          · exact ev_move rfl (gn rfl)
          simp only [nm, seval]
          apply VE.cons
          · first | exact ev_load rfl (gn rfl) rfl rfl Tryd.underlying59 rfl Tryd.sizeOf59 rfl rfl | exact ev_loadx rfl (gn rfl) rfl Tryd.underlying59 rfl Tryd.sizeOf59 (by assumption) rfl
          simp only [nm, seval]
          apply VE.cons
          · first | exact ev_load rfl (gn rfl) rfl rfl Tryd.underlying59 rfl Tryd.sizeOf59 rfl rfl | exact ev_loadx rfl (gn rfl) rfl Tryd.underlying59 rfl Tryd.sizeOf59 (by assumption) rfl
          simp only [nm, seval]
          apply VE.cons
          · exact ev_call rfl (gn rfl) rfl (en_of Tryd.func55 (by kernel_rfl) rfl) (hms _ _ _ _ hRn hz hp hl)
          simp only [nm, seval]
          apply VE.cons
          · exact ev_store rfl (gn rfl) rfl rfl rfl Tryd.sizeOf59 rfl (by simp) rfl
          simp only [nm, seval]
          exact VE.nil _
        · kernel_rfl
        exact ⟨_, by have := (sg _ _ _ _ hRn hz hp hl).2; omega, _, _, _, _, rfl, (sg _ _ _ _ hRn hz hp hl).1, rfl, rfl⟩
      · skip
        refine vseq ?_
        refine vseq ?_
        apply vrp
        · apply VE.cons
          · first | exact ev_load rfl (gn rfl) rfl rfl Tryd.underlying59 rfl Tryd.sizeOf59 rfl rfl | exact ev_loadx rfl (gn rfl) rfl Tryd.underlying59 rfl Tryd.sizeOf59 (by assumption) rfl
          simp only [nm, seval]
          apply VE.cons
          · refine ev_pure' (gn rfl) (fun ρ w => by simp only [VS.act, SV.c, List.map_cons, List.map_nil]; go_simp; exact rfl) (fun _ _ => rfl)
          simp only [nm, seval]
          apply VE.cons
          · exact ev_bin rfl (gn rfl) rfl rfl (fun w => (hnz _ _ _ w).trans (by rw [hz]))
          simp only [nm, seval]
          exact VE.nil _
        · kernel_rfl
        change VOk _ _ _ _ _
        refine vcond_t rfl ?_
        refine vskip ?_
        change VOk _ _ _ _ _
        refine vblock ?_
        refine vseq ?_
        refine vblock ?_
        refine vseq ?_
        apply vrp
        · apply VE.cons
          · first | exact ev_index rfl (gn rfl) rfl rfl Tryd.underlying59 Tryd.sizeOf28 (by decide) (by decide) | exact ev_indexx rfl (gn rfl) rfl rfl Tryd.underlying59 Tryd.sizeOf28 (by decide) (by decide)
          simp only [nm, seval]
          apply VE.cons
          · first | exact ev_load1 rfl (gn rfl) rfl rfl Tryd.underlying28 rfl rfl | exact ev_loadx1 rfl (gn rfl) rfl Tryd.underlying28 rfl (by first | assumption | exact hm 0 _ rfl | exact hm 1 _ rfl | exact hm 2 _ rfl | exact hm 3 _ rfl)
          simp only [nm, seval]
          apply VE.cons
          · exact ev_bin rfl (gn rfl) rfl rfl (fun w => hpar _ _ _ w)
          simp only [nm, seval]
          apply VE.cons
          · exact ev_eql (p := false) rfl (gn rfl) rfl rfl he
          simp only [nm, seval]
          apply VE.cons
          · exact ev_assign rfl (gn rfl)
          simp only [nm, seval]
          exact VE.nil _
        · kernel_rfl
        change VOk _ _ _ _ _
        refine vcond_f rfl ?_
        refine vseq ?_
        apply vrp
        · apply VE.cons
          · first | exact ev_load rfl (gn rfl) rfl rfl Tryd.underlying59 rfl Tryd.sizeOf59 rfl rfl | exact ev_loadx rfl (gn rfl) rfl Tryd.underlying59 rfl Tryd.sizeOf59 (by assumption) rfl
          simp only [nm, seval]
          apply VE.cons
          · first | exact ev_load rfl (gn rfl) rfl rfl Tryd.underlying59 rfl Tryd.sizeOf59 rfl rfl | exact ev_loadx rfl (gn rfl) rfl Tryd.underlying59 rfl Tryd.sizeOf59 (by assumption) rfl
          simp only [nm, seval]
          apply VE.cons
          · exact ev_call (v := .bool true) rfl (gn rfl) rfl (en_of Tryd.func52 (by kernel_rfl) rfl) (fun w' hw' => by rw [← hl]; exact hlt _ _ _ _ hRn hz hp w' hw')
          simp only [nm, seval]
          apply VE.cons
          · exact ev_assign rfl (gn rfl)
          simp only [nm, seval]
          exact VE.nil _
        · kernel_rfl
        change VOk _ _ _ _ _
        refine vcond_t rfl ?_
        apply vrd (by kernel_rfl)
        · apply VE.cons
          · first | exact ev_load rfl (gn rfl) rfl rfl Tryd.underlying59 rfl Tryd.sizeOf59 rfl rfl | exact ev_loadx rfl (gn rfl) rfl Tryd.underlying59 rfl Tryd.sizeOf59 (by assumption) rfl
          simp only [nm, seval]
          apply VE.cons
          · first | exact ev_load rfl (gn rfl) rfl rfl Tryd.underlying59 rfl Tryd.sizeOf59 rfl rfl | exact ev_loadx rfl (gn rfl) rfl Tryd.underlying59 rfl Tryd.sizeOf59 (by assumption) rfl
          simp only [nm, seval]
          apply VE.cons
          · first | exact ev_load rfl (gn rfl) rfl rfl Tryd.underlying59 rfl Tryd.sizeOf59 rfl rfl | exact ev_loadx rfl (gn rfl) rfl Tryd.underlying59 rfl Tryd.sizeOf59 (by assumption) rfl
          simp only [nm, seval]
          apply VE.cons
          · first | exact ev_load rfl (gn rfl) rfl rfl Tryd.underlying59 rfl Tryd.sizeOf59 rfl rfl | exact ev_loadx rfl (gn rfl) rfl Tryd.underlying59 rfl Tryd.sizeOf59 (by assumption) rfl
          simp only [nm, seval]
          apply VE.cons
          · exact ev_store rfl (gn rfl) rfl rfl rfl Tryd.sizeOf59 rfl (by simp) rfl
          simp only [nm, seval]
          apply VE.cons
          · exact ev_store rfl (gn rfl) rfl rfl rfl Tryd.sizeOf59 rfl (by simp) rfl
          simp only [nm, seval]
          apply VE.cons
          · exact ev_store rfl (gn rfl) rfl rfl rfl Tryd.sizeOf59 rfl (by simp) rfl
          simp only [nm, seval]
          apply VE.cons
          · exact ev_store rfl (gn rfl) rfl rfl rfl Tryd.sizeOf59 rfl (by simp) rfl
          simp only [nm, seval]
          exact VE.nil _
        · kernel_rfl
        change VOk _ _ _ _ _
        refine vseq ?_
        apply vrp
        · apply VE.cons
          · first | exact ev_load rfl (gn rfl) rfl rfl Tryd.underlying59 rfl Tryd.sizeOf59 rfl rfl | exact ev_loadx rfl (gn rfl) rfl Tryd.underlying59 rfl Tryd.sizeOf59 (by assumption) rfl
          simp only [nm, seval]
          apply VE.cons
          · first | exact ev_load rfl (gn rfl) rfl rfl Tryd.underlying59 rfl Tryd.sizeOf59 rfl rfl | exact ev_loadx rfl (gn rfl) rfl Tryd.underlying59 rfl Tryd.sizeOf59 (by assumption) rfl
          simp only [nm, seval]
          apply VE.cons
          · exact ev_call rfl (gn rfl) rfl (en_of Tryd.func61 (by kernel_rfl) rfl) (hsw _ _ _ _ hRn hz hp hl)
          simp only [nm, seval]
          apply VE.cons
          · exact ev_move rfl (gn rfl)
          simp only [nm, seval]
          apply VE.cons
          · exact ev_extract rfl (gn rfl) rfl rfl
          simp only [nm, seval]
          apply VE.cons
          · exact ev_extract rfl (gn rfl) rfl rfl
          simp only [nm, seval]
          apply VE.cons
          · exact ev_store rfl (gn rfl) rfl rfl rfl Tryd.sizeOf59 rfl (by simp) rfl
          simp only [nm, seval]
          exact VE.nil _
        · kernel_rfl
        change VOk _ _ _ _ _
        apply vrp
        · apply VE.cons
          · exact ev_move rfl (gn rfl)
          simp only [nm, seval]
          apply VE.cons
          · first | exact ev_load rfl (gn rfl) rfl rfl Tryd.underlying59 rfl Tryd.sizeOf59 rfl rfl | exact ev_loadx rfl (gn rfl) rfl Tryd.underlying59 rfl Tryd.sizeOf59 (by assumption) rfl
          simp only [nm, seval]
          apply VE.cons
          · first | exact ev_load rfl (gn rfl) rfl rfl Tryd.underlying59 rfl Tryd.sizeOf59 rfl rfl | exact ev_loadx rfl (gn rfl) rfl Tryd.underlying59 rfl Tryd.sizeOf59 (by assumption) rfl
          simp only [nm, seval]
          apply VE.cons
          · exact ev_call rfl (gn rfl) rfl (en_of Tryd.func55 (by kernel_rfl) rfl) (hmw _ _ _ _ hRn hz hp hl)
          simp only [nm, seval]
          apply VE.cons
          · exact ev_store rfl (gn rfl) rfl rfl rfl Tryd.sizeOf59 rfl (by simp) rfl
          simp only [nm, seval]
          exact VE.nil _
        · kernel_rfl
        exact ⟨_, by have := (sl _ _ _ _ hRn hz hp hl).2; omega, _, _, _, _, rfl, (sl _ _ _ _ hRn hz hp hl).1, rfl, rfl⟩
  · replace hz : nz u = false := by simpa using hz
    refine vseq ?_
    refine vseq ?_
    apply vrp
    · apply VE.cons
      · first | exact ev_load rfl (gn rfl) rfl rfl Tryd.underlying59 rfl Tryd.sizeOf59 rfl rfl | exact ev_loadx rfl (gn rfl) rfl Tryd.underlying59 rfl Tryd.sizeOf59 (by assumption) rfl
      simp only [nm, seval]
      apply VE.cons
      · refine ev_pure' (gn rfl) (fun ρ w => by simp only [VS.act, SV.c, List.map_cons, List.map_nil]; go_simp; exact rfl) (fun _ _ => rfl)
      simp only [nm, seval]
      apply VE.cons
      · exact ev_bin rfl (gn rfl) rfl rfl (fun w => (hnz _ _ _ w).trans (by rw [hz]))
      simp only [nm, seval]
      exact VE.nil _
    · kernel_rfl
    change VOk _ _ _ _ _
    refine vcond_f rfl ?_
    refine vexit ?_
    change VOk _ _ _ _ _
    cases h1v : n1 v
    · skip
      refine vseq ?_
      refine vseq ?_
      apply vrp
      · apply VE.cons
        · first | exact ev_load rfl (gn rfl) rfl rfl Tryd.underlying59 rfl Tryd.sizeOf59 rfl rfl | exact ev_loadx rfl (gn rfl) rfl Tryd.underlying59 rfl Tryd.sizeOf59 (by assumption) rfl
        simp only [nm, seval]
        apply VE.cons
        · refine ev_pure' (gn rfl) (fun ρ w => by simp only [VS.act, SV.c, List.map_cons, List.map_nil]; go_simp; exact rfl) (fun _ _ => rfl)
        simp only [nm, seval]
        apply VE.cons
        · exact ev_bin rfl (gn rfl) rfl rfl (fun w => (hn1 _ _ _ w).trans (by rw [h1v]))
        simp only [nm, seval]
        exact VE.nil _
      · kernel_rfl
      change VOk _ _ _ _ _
      refine vcond_f rfl ?_
      refine vskip ?_
      change VOk _ _ _ _ _
      refine vseq ?_
      apply vrp
      · apply VE.cons
        · first | exact ev_load rfl (gn rfl) rfl rfl Tryd.underlying59 rfl Tryd.sizeOf59 rfl rfl | exact ev_loadx rfl (gn rfl) rfl Tryd.underlying59 rfl Tryd.sizeOf59 (by assumption) rfl
        simp only [nm, seval]
        apply VE.cons
        · exact ev_store rfl (gn rfl) rfl rfl rfl Tryd.sizeOf59 rfl (by simp) rfl
        simp only [nm, seval]
        apply VE.cons
        · exact ev_assign rfl (gn rfl)
        simp only [nm, seval]
        exact VE.nil _
      · kernel_rfl
      change VOk _ _ _ _ _
      refine vret ?_
      refine post_ret (res2 Tryd.results58 (rv_cell rfl rfl Tryd.underlying59 rfl Tryd.sizeOf59 rfl rfl) (rv_tmp rfl)) ?_
      intro w' hg
      exact ⟨⟨_, _, _, _, hRn, hz, .inr ⟨h1v, rfl⟩⟩, hg⟩
    · skip
      refine vseq ?_
      refine vseq ?_
      apply vrp
      · apply VE.cons
        · first | exact ev_load rfl (gn rfl) rfl rfl Tryd.underlying59 rfl Tryd.sizeOf59 rfl rfl | exact ev_loadx rfl (gn rfl) rfl Tryd.underlying59 rfl Tryd.sizeOf59 (by assumption) rfl
        simp only [nm, seval]
        apply VE.cons
        · refine ev_pure' (gn rfl) (fun ρ w => by simp only [VS.act, SV.c, List.map_cons, List.map_nil]; go_simp; exact rfl) (fun _ _ => rfl)
        simp only [nm, seval]
        apply VE.cons
        · exact ev_bin rfl (gn rfl) rfl rfl (fun w => (hn1 _ _ _ w).trans (by rw [h1v]))
        simp only [nm, seval]
        exact VE.nil _
      · kernel_rfl
      change VOk _ _ _ _ _
      refine vcond_t rfl ?_
      refine vseq ?_
      apply vrp
      · apply VE.cons
        · refine ev_pure' (gn rfl) (fun ρ w => by simp only [VS.act, SV.c, List.map_cons, List.map_nil]; go_simp; exact rfl) (fun _ _ => rfl)
        simp only [nm, seval]
        apply VE.cons
        · exact ev_store rfl (gn rfl) rfl rfl rfl Tryd.sizeOf59 rfl (by simp) rfl
        simp only [nm, seval]
        apply VE.cons
        · exact ev_assign rfl (gn rfl)
        simp only [nm, seval]
        exact VE.nil _
      · kernel_rfl
      change VOk _ _ _ _ _
      refine vret ?_
      refine post_ret (res2 Tryd.results58 (rv_cell rfl rfl Tryd.underlying59 rfl Tryd.sizeOf59 rfl rfl) (rv_tmp rfl)) ?_
      intro w' hg
      exact ⟨⟨_, _, _, _, hRn, hz, .inl ⟨h1v, rfl⟩⟩, hg⟩
end Go.Proofs.YtbnfanmolphliaaDoor
