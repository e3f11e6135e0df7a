import Derived.Test.YtbnfanmolphliaaDoorProg
import Derived.Test.YtbnfanmolphliaaDoorVo
namespace Go.Proofs.YtbnfanmolphliaaDoor
open Go.RowKit Go.Toll
set_option maxHeartbeats 4000000
set_option maxRecDepth 100000
theorem rrest_core (l : Nat → Nat → Nat) (x m z zr : Nat) (w : World) (bt qo le rm sr : Nat → Nat) (sq ml _fz : Nat → Nat) (R : Nat → Nat → Prop)
  (hzero : l zr 0 = 0 ∧ l zr 1 = 0 ∧ l zr 2 = 0 ∧ l zr 3 = 0)
  (hq : ∀ (k : Nat) (_ : k < 256) (p q : Operand) (w : World), (do eqGuard .quo 3 p q (.int .i64 (((k + 1 : Nat) : Int) - 1)) (.int .i64 64); binOp .quo 3 (.int .i64 (((k + 1 : Nat) : Int) - 1)) (.int .i64 64) : Sem Value).run Tryd.prog w = .ok (.int .i64 (qo k : Nat)) w)
  (hq4 : ∀ k, k < 256 → qo k < 4)
  (hle : ∀ k, k < 256 → ([.v (.int .u64 (l x 0 : Nat)), .v (.int .u64 (l x 1 : Nat)), .v (.int .u64 (l x 2 : Nat)), .v (.int .u64 (l x 3 : Nat))] : List SV)[qo k]? = some (.v (.int .u64 (le k : Nat))))
  (hr : ∀ (k : Nat) (p q : Operand) (w : World), (do eqGuard .rem 3 p q (.int .i64 (((k + 1 : Nat) : Int) - 1)) (.int .i64 64); binOp .rem 3 (.int .i64 (((k + 1 : Nat) : Int) - 1)) (.int .i64 64) : Sem Value).run Tryd.prog w = .ok (.int .i64 (rm k : Nat)) w)
  (hsr : ∀ (k : Nat) (p q : Operand) (w : World), (do eqGuard .shr 28 p q (.int .u64 (le k : Nat)) (.int .i64 (rm k : Nat)); binOp .shr 28 (.int .u64 (le k : Nat)) (.int .i64 (rm k : Nat)) : Sem Value).run Tryd.prog w = .ok (.int .u64 (sr k : Nat)) w)
  (hr2 : ∀ (k : Nat) (p q : Operand) (w : World), (do eqGuard .rem 28 p q (.int .u64 (sr k : Nat)) (.int .u64 2); binOp .rem 28 (.int .u64 (sr k : Nat)) (.int .u64 2) : Sem Value).run Tryd.prog w = .ok (.int .u64 (bt k : Nat)) w)
  (hR : R 256 zr)
  (hsq : ∀ k y, k < 256 → R (k + 1) y → ∀ w', Gw w w' → Calls Tryd.prog 49 #[.agg #[.int .u64 (l y 0 : Nat), .int .u64 (l y 1 : Nat), .int .u64 (l y 2 : Nat), .int .u64 (l y 3 : Nat)], .agg #[.int .u64 (l y 0 : Nat), .int .u64 (l y 1 : Nat), .int .u64 (l y 2 : Nat), .int .u64 (l y 3 : Nat)], .agg #[.int .u64 (l m 0 : Nat), .int .u64 (l m 1 : Nat), .int .u64 (l m 2 : Nat), .int .u64 (l m 3 : Nat)]] w' fun e w'' => e = .returned (.agg #[.int .u64 (l (sq y) 0 : Nat), .int .u64 (l (sq y) 1 : Nat), .int .u64 (l (sq y) 2 : Nat), .int .u64 (l (sq y) 3 : Nat)]) ∧ Gw w' w'')
  (hml : ∀ k y, k < 256 → R (k + 1) y → bt k = 1 → ∀ w', Gw w w' → Calls Tryd.prog 49 #[.agg #[.int .u64 (l (sq y) 0 : Nat), .int .u64 (l (sq y) 1 : Nat), .int .u64 (l (sq y) 2 : Nat), .int .u64 (l (sq y) 3 : Nat)], .agg #[.int .u64 1, .int .u64 0, .int .u64 0, .int .u64 0], .agg #[.int .u64 (l m 0 : Nat), .int .u64 (l m 1 : Nat), .int .u64 (l m 2 : Nat), .int .u64 (l m 3 : Nat)]] w' fun e w'' => e = .returned (.agg #[.int .u64 (l (ml y) 0 : Nat), .int .u64 (l (ml y) 1 : Nat), .int .u64 (l (ml y) 2 : Nat), .int .u64 (l (ml y) 3 : Nat)]) ∧ Gw w' w'')
  (hs1 : ∀ k y, k < 256 → R (k + 1) y → bt k = 1 → R k (ml y))
  (hs0 : ∀ k y, k < 256 → R (k + 1) y → bt k ≠ 1 → R k (sq y))
  (hz : ∀ y, R 0 y → (.agg #[.int .u64 (l y 0 : Nat), .int .u64 (l y 1 : Nat), .int .u64 (l y 2 : Nat), .int .u64 (l y 3 : Nat)] : Value) = (.agg #[.int .u64 (l z 0 : Nat), .int .u64 (l z 1 : Nat), .int .u64 (l z 2 : Nat), .int .u64 (l z 3 : Nat)] : Value)) :
  Calls Tryd.prog 27 #[.agg #[.int .u64 (l x 0 : Nat), .int .u64 (l x 1 : Nat), .int .u64 (l x 2 : Nat), .int .u64 (l x 3 : Nat)], .agg #[.int .u64 (l m 0 : Nat), .int .u64 (l m 1 : Nat), .int .u64 (l m 2 : Nat), .int .u64 (l m 3 : Nat)]] w fun e w' => e = .returned (.agg #[.int .u64 (l z 0 : Nat), .int .u64 (l z 1 : Nat), .int .u64 (l z 2 : Nat), .int .u64 (l z 3 : Nat)]) ∧ Gw w w' := by
  go_enter Tryd.func27, Tryd.ntmps27
  refine ve_go ?_
  simp only [List.map_cons, List.map_nil]
  refine vseq ?_
  apply vrp
  · apply VE.cons
    · exact ev_box rfl rfl (gn rfl) rfl
    simp only [nm, seval]
    apply VE.cons
    · exact ev_box rfl rfl (gn rfl) rfl
    simp only [nm, seval]
    apply VE.cons
    · exact ev_alloc rfl rfl (gn rfl) Tryd.zeroValue29
    simp only [nm, seval]
    exact VE.nil _
  · kernel_rfl
  change VOk _ _ _ _ _
  refine vseq ?_
  apply vrp
  · apply VE.cons
    · exact ev_alloc rfl rfl (gn rfl) Tryd.zeroValue29
    simp only [nm, seval]
    exact VE.nil _
  · kernel_rfl
  change VOk _ _ _ _ _
  refine vseq ?_
  refine vseq ?_
  apply vrp
  · apply VE.cons
    · exact ev_assign rfl (gn rfl)
    simp only [nm, seval]
    exact VE.nil _
  · kernel_rfl
  change VOk _ _ _ _ _
  refine vblock ?_
  refine vloop_inv (fun n s => ∃ (y : Nat), n ≤ 256 ∧ R n y ∧ s.fr = [.v (.agg #[.int .u64 (l x 0 : Nat), .int .u64 (l x 1 : Nat), .int .u64 (l x 2 : Nat), .int .u64 (l x 3 : Nat)]), .v (.agg #[.int .u64 (l m 0 : Nat), .int .u64 (l m 1 : Nat), .int .u64 (l m 2 : Nat), .int .u64 (l m 3 : Nat)]), .p 2 0, .p 3 0, .p 4 0, .p 5 0, .v (.int .i64 ((n : Int) - 1)), s.fr.getD 7 default, s.fr.getD 8 default, s.fr.getD 9 default, s.fr.getD 10 default, s.fr.getD 11 default, s.fr.getD 12 default, s.fr.getD 13 default, s.fr.getD 14 default, s.fr.getD 15 default, s.fr.getD 16 default, s.fr.getD 17 default, s.fr.getD 18 default, s.fr.getD 19 default, s.fr.getD 20 default, s.fr.getD 21 default, s.fr.getD 22 default, s.fr.getD 23 default, s.fr.getD 24 default, s.fr.getD 25 default, s.fr.getD 26 default, s.fr.getD 27 default, s.fr.getD 28 default] ∧ s.mem = memOf [(5, ([.v (.int .u64 (l y 0 : Nat)), .v (.int .u64 (l y 1 : Nat)), .v (.int .u64 (l y 2 : Nat)), .v (.int .u64 (l y 3 : Nat))], 29)), (4, ([.v (.int .u64 0), .v (.int .u64 0), .v (.int .u64 0), .v (.int .u64 0)], 29)), (3, ([.v (.int .u64 (l m 0 : Nat)), .v (.int .u64 (l m 1 : Nat)), .v (.int .u64 (l m 2 : Nat)), .v (.int .u64 (l m 3 : Nat))], 29)), (2, ([.v (.int .u64 (l x 0 : Nat)), .v (.int .u64 (l x 1 : Nat)), .v (.int .u64 (l x 2 : Nat)), .v (.int .u64 (l x 3 : Nat))], 29))]) ?_ 256 ?_
  rotate_left
  · exact ⟨zr, Nat.le_refl _, hR, rfl, by simp only [hzero]; rfl⟩
  rintro n ⟨fr, mm⟩ ⟨y, hn, hRn, hfr, hmm⟩
  obtain ⟨f, hf⟩ : ∃ f : Nat → SV, fr = [.v (.agg #[.int .u64 (l x 0 : Nat), .int .u64 (l x 1 : Nat), .int .u64 (l x 2 : Nat), .int .u64 (l x 3 : Nat)]), .v (.agg #[.int .u64 (l m 0 : Nat), .int .u64 (l m 1 : Nat), .int .u64 (l m 2 : Nat), .int .u64 (l m 3 : Nat)]), .p 2 0, .p 3 0, .p 4 0, .p 5 0, .v (.int .i64 ((n : Int) - 1)), f 7, f 8, f 9, f 10, f 11, f 12, f 13, f 14, f 15, f 16, f 17, f 18, f 19, f 20, f 21, f 22, f 23, f 24, f 25, f 26, f 27, f 28] := ⟨fun i => fr.getD i default, hfr⟩
  clear hfr
  simp only at hmm
  subst hf hmm
  cases n with
  | succ k =>
    have hk : k < 256 := by omega
    have hge : decide ((0 : Int) ≤ ((k + 1 : Nat) : Int) - 1) = true := decide_eq_true (by omega)
    have hdn : IntKind.i64.wrap (((k + 1 : Nat) : Int) - 1 - 1) = (k : Int) - 1 := by rw [i64w (by omega) (by omega)]; omega
    by_cases hb : bt k = 1
    · have he : decide (((bt k : Nat) : Int) = 1) = true := decide_eq_true (by omega)
      refine vseq ?_
      refine vseq ?_
      apply vrp
      · apply VE.cons
        · exact ev_move rfl (gn rfl)
        simp only [nm, seval]
        apply VE.cons
        · exact ev_geq (p := true) rfl (gn rfl) rfl rfl hge
        simp only [nm, seval]
        exact VE.nil _
      · kernel_rfl
      change VOk _ _ _ _ _
      refine vcond_t rfl ?_
      refine vskip ?_
      change VOk _ _ _ _ _
      refine vseq ?_
      refine vblock ?_
      refine vseq ?_
      apply vrp
      · apply VE.cons
        · first | exact ev_load rfl (gn rfl) rfl rfl Tryd.underlying29 rfl Tryd.sizeOf29 rfl rfl | exact ev_loadx rfl (gn rfl) rfl Tryd.underlying29 rfl Tryd.sizeOf29 (by assumption) rfl
        simp only [nm, seval]
        apply VE.cons
        · first | exact ev_load rfl (gn rfl) rfl rfl Tryd.underlying29 rfl Tryd.sizeOf29 rfl rfl | exact ev_loadx rfl (gn rfl) rfl Tryd.underlying29 rfl Tryd.sizeOf29 (by assumption) rfl
        simp only [nm, seval]
        apply VE.cons
        · first | exact ev_load rfl (gn rfl) rfl rfl Tryd.underlying29 rfl Tryd.sizeOf29 rfl rfl | exact ev_loadx rfl (gn rfl) rfl Tryd.underlying29 rfl Tryd.sizeOf29 (by assumption) rfl
        simp only [nm, seval]
        apply VE.cons
        · exact ev_call rfl (gn rfl) rfl (en_of Tryd.func49 (by kernel_rfl) rfl) (hsq _ _ hk hRn)
        simp only [nm, seval]
        apply VE.cons
        · exact ev_store rfl (gn rfl) rfl rfl rfl Tryd.sizeOf29 rfl (by simp) rfl
        simp only [nm, seval]
        exact VE.nil _
      · kernel_rfl
      change VOk _ _ _ _ _
      refine vseq ?_
      apply vrp
      · apply VE.cons
        · exact ev_move rfl (gn rfl)
        simp only [nm, seval]
        apply VE.cons
        · exact ev_bin rfl (gn rfl) rfl rfl (fun w => hq _ hk _ _ w)
        simp only [nm, seval]
        apply VE.cons
        · exact ev_index rfl (gn rfl) rfl rfl Tryd.underlying29 Tryd.sizeOf28 (Int.natCast_nonneg _) (by have := hq4 k hk; omega)
        simp only [nm, seval]
        apply VE.cons
        · exact ev_load1 rfl (gn rfl) rfl rfl Tryd.underlying28 rfl (hle k hk)
        simp only [nm, seval]
        apply VE.cons
        · exact ev_move rfl (gn rfl)
        simp only [nm, seval]
        apply VE.cons
        · exact ev_bin rfl (gn rfl) rfl rfl (fun w => hr _  _ _ w)
        simp only [nm, seval]
        apply VE.cons
        · exact ev_bin rfl (gn rfl) rfl rfl (fun w => hsr _  _ _ w)
        simp only [nm, seval]
        apply VE.cons
        · exact ev_bin rfl (gn rfl) rfl rfl (fun w => hr2 _  _ _ w)
        simp only [nm, seval]
        apply VE.cons
        · exact ev_eql (p := true) rfl (gn rfl) rfl rfl he
        simp only [nm, seval]
        exact VE.nil _
      · kernel_rfl
      change VOk _ _ _ _ _
      refine vcond_t rfl ?_
      apply vrp
      · apply VE.cons
        · first | exact ev_load rfl (gn rfl) rfl rfl Tryd.underlying29 rfl Tryd.sizeOf29 rfl rfl | exact ev_loadx rfl (gn rfl) rfl Tryd.underlying29 rfl Tryd.sizeOf29 (by assumption) rfl
        simp only [nm, seval]
        apply VE.cons
        · refine ev_pure' (gn rfl) (fun ρ w => by simp only [VS.act, SV.c, List.map_cons, List.map_nil]; go_simp; exact rfl) (fun _ _ => rfl)
        simp only [nm, seval]
        apply VE.cons
        · first | exact ev_load rfl (gn rfl) rfl rfl Tryd.underlying29 rfl Tryd.sizeOf29 rfl rfl | exact ev_loadx rfl (gn rfl) rfl Tryd.underlying29 rfl Tryd.sizeOf29 (by assumption) rfl
        simp only [nm, seval]
        apply VE.cons
        · exact ev_call rfl (gn rfl) rfl (en_of Tryd.func49 (by kernel_rfl) rfl) (hml _ _ hk hRn hb)
        simp only [nm, seval]
        apply VE.cons
        · exact ev_store rfl (gn rfl) rfl rfl rfl Tryd.sizeOf29 rfl (by simp) rfl
        simp only [nm, seval]
        exact VE.nil _
      · kernel_rfl
      change VOk _ _ _ _ _
      apply vrp
      · apply VE.cons
        · exact ev_move rfl (gn rfl)
        simp only [nm, seval]
        apply VE.cons
        · exact ev_sub rfl (gn rfl) rfl rfl hdn
        simp only [nm, seval]
        apply VE.cons
        · exact ev_assign rfl (gn rfl)
        simp only [nm, seval]
        exact VE.nil _
      · kernel_rfl
      exact ⟨k, by omega, _, by omega, hs1 _ _ hk hRn hb, rfl, rfl⟩
    · have he : decide (((bt k : Nat) : Int) = 1) = false := decide_eq_false (by omega)
      refine vseq ?_
      refine vseq ?_
      apply vrp
      · apply VE.cons
        · exact ev_move rfl (gn rfl)
        simp only [nm, seval]
        apply VE.cons
        · exact ev_geq (p := true) rfl (gn rfl) rfl rfl hge
        simp only [nm, seval]
        exact VE.nil _
      · kernel_rfl
      change VOk _ _ _ _ _
      refine vcond_t rfl ?_
      refine vskip ?_
      change VOk _ _ _ _ _
      refine vseq ?_
      refine vblock ?_
      refine vseq ?_
      apply vrp
      · apply VE.cons
        · first | exact ev_load rfl (gn rfl) rfl rfl Tryd.underlying29 rfl Tryd.sizeOf29 rfl rfl | exact ev_loadx rfl (gn rfl) rfl Tryd.underlying29 rfl Tryd.sizeOf29 (by assumption) rfl
        simp only [nm, seval]
        apply VE.cons
        · first | exact ev_load rfl (gn rfl) rfl rfl Tryd.underlying29 rfl Tryd.sizeOf29 rfl rfl | exact ev_loadx rfl (gn rfl) rfl Tryd.underlying29 rfl Tryd.sizeOf29 (by assumption) rfl
        simp only [nm, seval]
        apply VE.cons
        · first | exact ev_load rfl (gn rfl) rfl rfl Tryd.underlying29 rfl Tryd.sizeOf29 rfl rfl | exact ev_loadx rfl (gn rfl) rfl Tryd.underlying29 rfl Tryd.sizeOf29 (by assumption) rfl
        simp only [nm, seval]
        apply VE.cons
        · exact ev_call rfl (gn rfl) rfl (en_of Tryd.func49 (by kernel_rfl) rfl) (hsq _ _ hk hRn)
        simp only [nm, seval]
        apply VE.cons
        · exact ev_store rfl (gn rfl) rfl rfl rfl Tryd.sizeOf29 rfl (by simp) rfl
        simp only [nm, seval]
        exact VE.nil _
      · kernel_rfl
      change VOk _ _ _ _ _
      refine vseq ?_
      apply vrp
      · apply VE.cons
        · exact ev_move rfl (gn rfl)
        simp only [nm, seval]
        apply VE.cons
        · exact ev_bin rfl (gn rfl) rfl rfl (fun w => hq _ hk _ _ w)
        simp only [nm, seval]
        apply VE.cons
        · exact ev_index rfl (gn rfl) rfl rfl Tryd.underlying29 Tryd.sizeOf28 (Int.natCast_nonneg _) (by have := hq4 k hk; omega)
        simp only [nm, seval]
        apply VE.cons
        · exact ev_load1 rfl (gn rfl) rfl rfl Tryd.underlying28 rfl (hle k hk)
        simp only [nm, seval]
        apply VE.cons
        · exact ev_move rfl (gn rfl)
        simp only [nm, seval]
        apply VE.cons
        · exact ev_bin rfl (gn rfl) rfl rfl (fun w => hr _  _ _ w)
        simp only [nm, seval]
        apply VE.cons
        · exact ev_bin rfl (gn rfl) rfl rfl (fun w => hsr _  _ _ w)
        simp only [nm, seval]
        apply VE.cons
        · exact ev_bin rfl (gn rfl) rfl rfl (fun w => hr2 _  _ _ w)
        simp only [nm, seval]
        apply VE.cons
        · exact ev_eql (p := false) rfl (gn rfl) rfl rfl he
        simp only [nm, seval]
        exact VE.nil _
      · kernel_rfl
      change VOk _ _ _ _ _
      refine vcond_f rfl ?_
      refine vskip ?_
      change VOk _ _ _ _ _
      apply vrp
      · apply VE.cons
        · exact ev_move rfl (gn rfl)
        simp only [nm, seval]
        apply VE.cons
        · exact ev_sub rfl (gn rfl) rfl rfl hdn
        simp only [nm, seval]
        apply VE.cons
        · exact ev_assign rfl (gn rfl)
        simp only [nm, seval]
        exact VE.nil _
      · kernel_rfl
      exact ⟨k, by omega, _, by omega, hs0 _ _ hk hRn hb, rfl, rfl⟩
  | zero =>
    refine vseq ?_
    refine vseq ?_
    apply vrp
    · apply VE.cons
      · exact ev_move rfl (gn rfl)
      simp only [nm, seval]
      apply VE.cons
      · exact ev_geq (p := false) rfl (gn rfl) rfl rfl (by decide)
      simp only [nm, seval]
      exact VE.nil _
    · kernel_rfl
    change VOk _ _ _ _ _
    refine vcond_f rfl ?_
    refine vexit ?_
    change VOk _ _ _ _ _
    change VOk _ _ _ _ _
    refine vseq ?_
    apply vrp
    · apply VE.cons
      · first | exact ev_load rfl (gn rfl) rfl rfl Tryd.underlying29 rfl Tryd.sizeOf29 rfl rfl | exact ev_loadx rfl (gn rfl) rfl Tryd.underlying29 rfl Tryd.sizeOf29 (by assumption) rfl
      simp only [nm, seval]
      apply VE.cons
      · exact ev_store rfl (gn rfl) rfl rfl rfl Tryd.sizeOf29 rfl (by simp) rfl
      simp only [nm, seval]
      exact VE.nil _
    · kernel_rfl
    change VOk _ _ _ _ _
    refine vret ?_
    refine post_ret (res1 Tryd.results27 (rv_cell rfl rfl Tryd.underlying29 rfl Tryd.sizeOf29 rfl rfl)) ?_
    intro w' hg
    exact ⟨by rw [hz y hRn], hg⟩
theorem rmul_core (l : Nat → Nat → Nat) (a e m x z zr : Nat) (w : World) (bt qo le rm sr : Nat → Nat) (sq ml _fz : Nat → Nat) (R : Nat → Nat → Prop)
  (hzero : l zr 0 = 0 ∧ l zr 1 = 0 ∧ l zr 2 = 0 ∧ l zr 3 = 0)
  (h1 : ∀ w', Gw w w' → Calls Tryd.prog 27 #[.agg #[.int .u64 (l a 0 : Nat), .int .u64 (l a 1 : Nat), .int .u64 (l a 2 : Nat), .int .u64 (l a 3 : Nat)], .agg #[.int .u64 (l m 0 : Nat), .int .u64 (l m 1 : Nat), .int .u64 (l m 2 : Nat), .int .u64 (l m 3 : Nat)]] w' fun e w'' => e = .returned (.agg #[.int .u64 (l x 0 : Nat), .int .u64 (l x 1 : Nat), .int .u64 (l x 2 : Nat), .int .u64 (l x 3 : Nat)]) ∧ Gw w' w'')
  (hq : ∀ (k : Nat) (_ : k < 256) (p q : Operand) (w : World), (do eqGuard .quo 3 p q (.int .i64 (((k + 1 : Nat) : Int) - 1)) (.int .i64 64); binOp .quo 3 (.int .i64 (((k + 1 : Nat) : Int) - 1)) (.int .i64 64) : Sem Value).run Tryd.prog w = .ok (.int .i64 (qo k : Nat)) w)
  (hq4 : ∀ k, k < 256 → qo k < 4)
  (hle : ∀ k, k < 256 → ([.v (.int .u64 (l e 0 : Nat)), .v (.int .u64 (l e 1 : Nat)), .v (.int .u64 (l e 2 : Nat)), .v (.int .u64 (l e 3 : Nat))] : List SV)[qo k]? = some (.v (.int .u64 (le k : Nat))))
  (hr : ∀ (k : Nat) (p q : Operand) (w : World), (do eqGuard .rem 3 p q (.int .i64 (((k + 1 : Nat) : Int) - 1)) (.int .i64 64); binOp .rem 3 (.int .i64 (((k + 1 : Nat) : Int) - 1)) (.int .i64 64) : Sem Value).run Tryd.prog w = .ok (.int .i64 (rm k : Nat)) w)
  (hsr : ∀ (k : Nat) (p q : Operand) (w : World), (do eqGuard .shr 28 p q (.int .u64 (le k : Nat)) (.int .i64 (rm k : Nat)); binOp .shr 28 (.int .u64 (le k : Nat)) (.int .i64 (rm k : Nat)) : Sem Value).run Tryd.prog w = .ok (.int .u64 (sr k : Nat)) w)
  (hr2 : ∀ (k : Nat) (p q : Operand) (w : World), (do eqGuard .rem 28 p q (.int .u64 (sr k : Nat)) (.int .u64 2); binOp .rem 28 (.int .u64 (sr k : Nat)) (.int .u64 2) : Sem Value).run Tryd.prog w = .ok (.int .u64 (bt k : Nat)) w)
  (hR : R 256 zr)
  (hsq : ∀ k y, k < 256 → R (k + 1) y → ∀ w', Gw w w' → Calls Tryd.prog 49 #[.agg #[.int .u64 (l y 0 : Nat), .int .u64 (l y 1 : Nat), .int .u64 (l y 2 : Nat), .int .u64 (l y 3 : Nat)], .agg #[.int .u64 (l y 0 : Nat), .int .u64 (l y 1 : Nat), .int .u64 (l y 2 : Nat), .int .u64 (l y 3 : Nat)], .agg #[.int .u64 (l m 0 : Nat), .int .u64 (l m 1 : Nat), .int .u64 (l m 2 : Nat), .int .u64 (l m 3 : Nat)]] w' fun e w'' => e = .returned (.agg #[.int .u64 (l (sq y) 0 : Nat), .int .u64 (l (sq y) 1 : Nat), .int .u64 (l (sq y) 2 : Nat), .int .u64 (l (sq y) 3 : Nat)]) ∧ Gw w' w'')
  (hml : ∀ k y, k < 256 → R (k + 1) y → bt k = 1 → ∀ w', Gw w w' → Calls Tryd.prog 49 #[.agg #[.int .u64 (l (sq y) 0 : Nat), .int .u64 (l (sq y) 1 : Nat), .int .u64 (l (sq y) 2 : Nat), .int .u64 (l (sq y) 3 : Nat)], .agg #[.int .u64 (l x 0 : Nat), .int .u64 (l x 1 : Nat), .int .u64 (l x 2 : Nat), .int .u64 (l x 3 : Nat)], .agg #[.int .u64 (l m 0 : Nat), .int .u64 (l m 1 : Nat), .int .u64 (l m 2 : Nat), .int .u64 (l m 3 : Nat)]] w' fun e w'' => e = .returned (.agg #[.int .u64 (l (ml y) 0 : Nat), .int .u64 (l (ml y) 1 : Nat), .int .u64 (l (ml y) 2 : Nat), .int .u64 (l (ml y) 3 : Nat)]) ∧ Gw w' w'')
  (hs1 : ∀ k y, k < 256 → R (k + 1) y → bt k = 1 → R k (ml y))
  (hs0 : ∀ k y, k < 256 → R (k + 1) y → bt k ≠ 1 → R k (sq y))
  (hz : ∀ y, R 0 y → (.agg #[.int .u64 (l y 0 : Nat), .int .u64 (l y 1 : Nat), .int .u64 (l y 2 : Nat), .int .u64 (l y 3 : Nat)] : Value) = (.agg #[.int .u64 (l z 0 : Nat), .int .u64 (l z 1 : Nat), .int .u64 (l z 2 : Nat), .int .u64 (l z 3 : Nat)] : Value)) :
  Calls Tryd.prog 38 #[.agg #[.int .u64 (l a 0 : Nat), .int .u64 (l a 1 : Nat), .int .u64 (l a 2 : Nat), .int .u64 (l a 3 : Nat)], .agg #[.int .u64 (l e 0 : Nat), .int .u64 (l e 1 : Nat), .int .u64 (l e 2 : Nat), .int .u64 (l e 3 : Nat)], .agg #[.int .u64 (l m 0 : Nat), .int .u64 (l m 1 : Nat), .int .u64 (l m 2 : Nat), .int .u64 (l m 3 : Nat)]] w fun e w' => e = .returned (.agg #[.int .u64 (l z 0 : Nat), .int .u64 (l z 1 : Nat), .int .u64 (l z 2 : Nat), .int .u64 (l z 3 : Nat)]) ∧ Gw w w' := by
  go_enter Tryd.func38, Tryd.ntmps38
  refine ve_go ?_
  simp only [List.map_cons, List.map_nil]
  refine vseq ?_
  apply vrp
  · apply VE.cons
    · exact ev_box rfl rfl (gn rfl) rfl
    simp only [nm, seval]
    apply VE.cons
    · exact ev_box rfl rfl (gn rfl) rfl
    simp only [nm, seval]
    apply VE.cons
    · exact ev_box rfl rfl (gn rfl) rfl
    simp only [nm, seval]
    apply VE.cons
    · exact ev_alloc rfl rfl (gn rfl) Tryd.zeroValue29
    simp only [nm, seval]
    exact VE.nil _
  · kernel_rfl
  change VOk _ _ _ _ _
  refine vseq ?_
  apply vrp
  · apply VE.cons
    · first | exact ev_load rfl (gn rfl) rfl rfl Tryd.underlying29 rfl Tryd.sizeOf29 rfl rfl | exact ev_loadx rfl (gn rfl) rfl Tryd.underlying29 rfl Tryd.sizeOf29 (by assumption) rfl
    simp only [nm, seval]
    apply VE.cons
    · first | exact ev_load rfl (gn rfl) rfl rfl Tryd.underlying29 rfl Tryd.sizeOf29 rfl rfl | exact ev_loadx rfl (gn rfl) rfl Tryd.underlying29 rfl Tryd.sizeOf29 (by assumption) rfl
    simp only [nm, seval]
    apply VE.cons
    · exact ev_call rfl (gn rfl) rfl (en_of Tryd.func27 (by kernel_rfl) rfl) (h1)
    simp only [nm, seval]
    apply VE.cons
    · exact ev_store rfl (gn rfl) rfl rfl rfl Tryd.sizeOf29 rfl (by simp) rfl
    simp only [nm, seval]
    exact VE.nil _
  · kernel_rfl
  change VOk _ _ _ _ _
  refine vseq ?_
  apply vrp
  · apply VE.cons
    · exact ev_alloc rfl rfl (gn rfl) Tryd.zeroValue29
    simp only [nm, seval]
    exact VE.nil _
  · kernel_rfl
  change VOk _ _ _ _ _
  refine vseq ?_
  refine vseq ?_
  apply vrp
  · apply VE.cons
    · exact ev_assign rfl (gn rfl)
    simp only [nm, seval]
    exact VE.nil _
  · kernel_rfl
  change VOk _ _ _ _ _
  refine vblock ?_
  refine vloop_inv (fun n s => ∃ (y : Nat), n ≤ 256 ∧ R n y ∧ s.fr = [.v (.agg #[.int .u64 (l a 0 : Nat), .int .u64 (l a 1 : Nat), .int .u64 (l a 2 : Nat), .int .u64 (l a 3 : Nat)]), .v (.agg #[.int .u64 (l e 0 : Nat), .int .u64 (l e 1 : Nat), .int .u64 (l e 2 : Nat), .int .u64 (l e 3 : Nat)]), .v (.agg #[.int .u64 (l m 0 : Nat), .int .u64 (l m 1 : Nat), .int .u64 (l m 2 : Nat), .int .u64 (l m 3 : Nat)]), .p 3 0, .p 4 0, .p 5 0, .p 6 0, .p 7 0, .v (.int .i64 ((n : Int) - 1)), s.fr.getD 9 default, s.fr.getD 10 default, s.fr.getD 11 default, s.fr.getD 12 default, s.fr.getD 13 default, s.fr.getD 14 default, s.fr.getD 15 default, s.fr.getD 16 default, s.fr.getD 17 default, s.fr.getD 18 default, s.fr.getD 19 default, s.fr.getD 20 default, s.fr.getD 21 default, s.fr.getD 22 default, s.fr.getD 23 default, s.fr.getD 24 default, s.fr.getD 25 default, s.fr.getD 26 default, s.fr.getD 27 default, s.fr.getD 28 default, s.fr.getD 29 default, s.fr.getD 30 default, s.fr.getD 31 default, s.fr.getD 32 default, s.fr.getD 33 default] ∧ s.mem = memOf [(7, ([.v (.int .u64 (l y 0 : Nat)), .v (.int .u64 (l y 1 : Nat)), .v (.int .u64 (l y 2 : Nat)), .v (.int .u64 (l y 3 : Nat))], 29)), (6, ([.v (.int .u64 0), .v (.int .u64 0), .v (.int .u64 0), .v (.int .u64 0)], 29)), (5, ([.v (.int .u64 (l m 0 : Nat)), .v (.int .u64 (l m 1 : Nat)), .v (.int .u64 (l m 2 : Nat)), .v (.int .u64 (l m 3 : Nat))], 29)), (4, ([.v (.int .u64 (l e 0 : Nat)), .v (.int .u64 (l e 1 : Nat)), .v (.int .u64 (l e 2 : Nat)), .v (.int .u64 (l e 3 : Nat))], 29)), (3, ([.v (.int .u64 (l x 0 : Nat)), .v (.int .u64 (l x 1 : Nat)), .v (.int .u64 (l x 2 : Nat)), .v (.int .u64 (l x 3 : Nat))], 29))]) ?_ 256 ?_
  rotate_left
  · exact ⟨zr, Nat.le_refl _, hR, rfl, by simp only [hzero]; rfl⟩
  rintro n ⟨fr, mm⟩ ⟨y, hn, hRn, hfr, hmm⟩
  obtain ⟨f, hf⟩ : ∃ f : Nat → SV, fr = [.v (.agg #[.int .u64 (l a 0 : Nat), .int .u64 (l a 1 : Nat), .int .u64 (l a 2 : Nat), .int .u64 (l a 3 : Nat)]), .v (.agg #[.int .u64 (l e 0 : Nat), .int .u64 (l e 1 : Nat), .int .u64 (l e 2 : Nat), .int .u64 (l e 3 : Nat)]), .v (.agg #[.int .u64 (l m 0 : Nat), .int .u64 (l m 1 : Nat), .int .u64 (l m 2 : Nat), .int .u64 (l m 3 : Nat)]), .p 3 0, .p 4 0, .p 5 0, .p 6 0, .p 7 0, .v (.int .i64 ((n : Int) - 1)), f 9, f 10, f 11, f 12, f 13, f 14, f 15, f 16, f 17, f 18, f 19, f 20, f 21, f 22, f 23, f 24, f 25, f 26, f 27, f 28, f 29, f 30, f 31, f 32, f 33] := ⟨fun i => fr.getD i default, hfr⟩
  clear hfr
  simp only at hmm
  subst hf hmm
  cases n with
  | succ k =>
    have hk : k < 256 := by omega
    have hge : decide ((0 : Int) ≤ ((k + 1 : Nat) : Int) - 1) = true := decide_eq_true (by omega)
    have hdn : IntKind.i64.wrap (((k + 1 : Nat) : Int) - 1 - 1) = (k : Int) - 1 := by rw [i64w (by omega) (by omega)]; omega
    by_cases hb : bt k = 1
    · have he : decide (((bt k : Nat) : Int) = 1) = true := decide_eq_true (by omega)
      refine vseq ?_
      refine vseq ?_
      apply vrp
      · apply VE.cons
        · exact ev_move rfl (gn rfl)
        simp only [nm, seval]
        apply VE.cons
        · exact ev_geq (p := true) rfl (gn rfl) rfl rfl hge
        simp only [nm, seval]
        exact VE.nil _
      · kernel_rfl
      change VOk _ _ _ _ _
      refine vcond_t rfl ?_
      refine vskip ?_
      change VOk _ _ _ _ _
      refine vseq ?_
      refine vblock ?_
      refine vseq ?_
      apply vrp
      · apply VE.cons
        · first | exact ev_load rfl (gn rfl) rfl rfl Tryd.underlying29 rfl Tryd.sizeOf29 rfl rfl | exact ev_loadx rfl (gn rfl) rfl Tryd.underlying29 rfl Tryd.sizeOf29 (by assumption) rfl
        simp only [nm, seval]
        apply VE.cons
        · first | exact ev_load rfl (gn rfl) rfl rfl Tryd.underlying29 rfl Tryd.sizeOf29 rfl rfl | exact ev_loadx rfl (gn rfl) rfl Tryd.underlying29 rfl Tryd.sizeOf29 (by assumption) rfl
        simp only [nm, seval]
        apply VE.cons
        · first | exact ev_load rfl (gn rfl) rfl rfl Tryd.underlying29 rfl Tryd.sizeOf29 rfl rfl | exact ev_loadx rfl (gn rfl) rfl Tryd.underlying29 rfl Tryd.sizeOf29 (by assumption) rfl
        simp only [nm, seval]
        apply VE.cons
        · exact ev_call rfl (gn rfl) rfl (en_of Tryd.func49 (by kernel_rfl) rfl) (hsq _ _ hk hRn)
        simp only [nm, seval]
        apply VE.cons
        · exact ev_store rfl (gn rfl) rfl rfl rfl Tryd.sizeOf29 rfl (by simp) rfl
        simp only [nm, seval]
        exact VE.nil _
      · kernel_rfl
      change VOk _ _ _ _ _
      refine vseq ?_
      apply vrp
      · apply VE.cons
        · exact ev_move rfl (gn rfl)
        simp only [nm, seval]
        apply VE.cons
        · exact ev_bin rfl (gn rfl) rfl rfl (fun w => hq _ hk _ _ w)
        simp only [nm, seval]
        apply VE.cons
        · exact ev_index rfl (gn rfl) rfl rfl Tryd.underlying29 Tryd.sizeOf28 (Int.natCast_nonneg _) (by have := hq4 k hk; omega)
        simp only [nm, seval]
        apply VE.cons
        · exact ev_load1 rfl (gn rfl) rfl rfl Tryd.underlying28 rfl (hle k hk)
        simp only [nm, seval]
        apply VE.cons
        · exact ev_move rfl (gn rfl)
        simp only [nm, seval]
        apply VE.cons
        · exact ev_bin rfl (gn rfl) rfl rfl (fun w => hr _  _ _ w)
        simp only [nm, seval]
        apply VE.cons
        · exact ev_bin rfl (gn rfl) rfl rfl (fun w => hsr _  _ _ w)
        simp only [nm, seval]
        apply VE.cons
        · exact ev_bin rfl (gn rfl) rfl rfl (fun w => hr2 _  _ _ w)
        simp only [nm, seval]
        apply VE.cons
        · exact ev_eql (p := true) rfl (gn rfl) rfl rfl he
        simp only [nm, seval]
        exact VE.nil _
      · kernel_rfl
      change VOk _ _ _ _ _
      refine vcond_t rfl ?_
      apply vrp
      · apply VE.cons
        · first | exact ev_load rfl (gn rfl) rfl rfl Tryd.underlying29 rfl Tryd.sizeOf29 rfl rfl | exact ev_loadx rfl (gn rfl) rfl Tryd.underlying29 rfl Tryd.sizeOf29 (by assumption) rfl
        simp only [nm, seval]
        apply VE.cons
        · first | exact ev_load rfl (gn rfl) rfl rfl Tryd.underlying29 rfl Tryd.sizeOf29 rfl rfl | exact ev_loadx rfl (gn rfl) rfl Tryd.underlying29 rfl Tryd.sizeOf29 (by assumption) rfl
        simp only [nm, seval]
        apply VE.cons
        · first | exact ev_load rfl (gn rfl) rfl rfl Tryd.underlying29 rfl Tryd.sizeOf29 rfl rfl | exact ev_loadx rfl (gn rfl) rfl Tryd.underlying29 rfl Tryd.sizeOf29 (by assumption) rfl
        simp only [nm, seval]
        apply VE.cons
        · exact ev_call rfl (gn rfl) rfl (en_of Tryd.func49 (by kernel_rfl) rfl) (hml _ _ hk hRn hb)
        simp only [nm, seval]
        apply VE.cons
        · exact ev_store rfl (gn rfl) rfl rfl rfl Tryd.sizeOf29 rfl (by simp) rfl
        simp only [nm, seval]
        exact VE.nil _
      · kernel_rfl
      change VOk _ _ _ _ _
      apply vrp
      · apply VE.cons
        · exact ev_move rfl (gn rfl)
        simp only [nm, seval]
        apply VE.cons
        · exact ev_sub rfl (gn rfl) rfl rfl hdn
        simp only [nm, seval]
        apply VE.cons
        · exact ev_assign rfl (gn rfl)
        simp only [nm, seval]
        exact VE.nil _
      · kernel_rfl
      exact ⟨k, by omega, _, by omega, hs1 _ _ hk hRn hb, rfl, rfl⟩
    · have he : decide (((bt k : Nat) : Int) = 1) = false := decide_eq_false (by omega)
      refine vseq ?_
      refine vseq ?_
      apply vrp
      · apply VE.cons
        · exact ev_move rfl (gn rfl)
        simp only [nm, seval]
        apply VE.cons
        · exact ev_geq (p := true) rfl (gn rfl) rfl rfl hge
        simp only [nm, seval]
        exact VE.nil _
      · kernel_rfl
      change VOk _ _ _ _ _
      refine vcond_t rfl ?_
      refine vskip ?_
      change VOk _ _ _ _ _
      refine vseq ?_
      refine vblock ?_
      refine vseq ?_
      apply vrp
      · apply VE.cons
        · first | exact ev_load rfl (gn rfl) rfl rfl Tryd.underlying29 rfl Tryd.sizeOf29 rfl rfl | exact ev_loadx rfl (gn rfl) rfl Tryd.underlying29 rfl Tryd.sizeOf29 (by assumption) rfl
        simp only [nm, seval]
        apply VE.cons
        · first | exact ev_load rfl (gn rfl) rfl rfl Tryd.underlying29 rfl Tryd.sizeOf29 rfl rfl | exact ev_loadx rfl (gn rfl) rfl Tryd.underlying29 rfl Tryd.sizeOf29 (by assumption) rfl
        simp only [nm, seval]
        apply VE.cons
        · first | exact ev_load rfl (gn rfl) rfl rfl Tryd.underlying29 rfl Tryd.sizeOf29 rfl rfl | exact ev_loadx rfl (gn rfl) rfl Tryd.underlying29 rfl Tryd.sizeOf29 (by assumption) rfl
        simp only [nm, seval]
        apply VE.cons
        · exact ev_call rfl (gn rfl) rfl (en_of Tryd.func49 (by kernel_rfl) rfl) (hsq _ _ hk hRn)
        simp only [nm, seval]
        apply VE.cons
        · exact ev_store rfl (gn rfl) rfl rfl rfl Tryd.sizeOf29 rfl (by simp) rfl
        simp only [nm, seval]
        exact VE.nil _
      · kernel_rfl
      change VOk _ _ _ _ _
      refine vseq ?_
      apply vrp
      · apply VE.cons
        · exact ev_move rfl (gn rfl)
        simp only [nm, seval]
        apply VE.cons
        · exact ev_bin rfl (gn rfl) rfl rfl (fun w => hq _ hk _ _ w)
        simp only [nm, seval]
        apply VE.cons
        · exact ev_index rfl (gn rfl) rfl rfl Tryd.underlying29 Tryd.sizeOf28 (Int.natCast_nonneg _) (by have := hq4 k hk; omega)
        simp only [nm, seval]
        apply VE.cons
        · exact ev_load1 rfl (gn rfl) rfl rfl Tryd.underlying28 rfl (hle k hk)
        simp only [nm, seval]
        apply VE.cons
        · exact ev_move rfl (gn rfl)
        simp only [nm, seval]
        apply VE.cons
        · exact ev_bin rfl (gn rfl) rfl rfl (fun w => hr _  _ _ w)
        simp only [nm, seval]
        apply VE.cons
        · exact ev_bin rfl (gn rfl) rfl rfl (fun w => hsr _  _ _ w)
        simp only [nm, seval]
        apply VE.cons
        · exact ev_bin rfl (gn rfl) rfl rfl (fun w => hr2 _  _ _ w)
        simp only [nm, seval]
        apply VE.cons
        · exact ev_eql (p := false) rfl (gn rfl) rfl rfl he
        simp only [nm, seval]
        exact VE.nil _
      · kernel_rfl
      change VOk _ _ _ _ _
      refine vcond_f rfl ?_
      refine vskip ?_
      change VOk _ _ _ _ _
      apply vrp
      · apply VE.cons
        · exact ev_move rfl (gn rfl)
        simp only [nm, seval]
        apply VE.cons
        · exact ev_sub rfl (gn rfl) rfl rfl hdn
        simp only [nm, seval]
        apply VE.cons
        · exact ev_assign rfl (gn rfl)
        simp only [nm, seval]
        exact VE.nil _
      · kernel_rfl
      exact ⟨k, by omega, _, by omega, hs0 _ _ hk hRn hb, rfl, rfl⟩
  | zero =>
    refine vseq ?_
    refine vseq ?_
    apply vrp
    · apply VE.cons
      · exact ev_move rfl (gn rfl)
      simp only [nm, seval]
      apply VE.cons
      · exact ev_geq (p := false) rfl (gn rfl) rfl rfl (by decide)
      simp only [nm, seval]
      exact VE.nil _
    · kernel_rfl
    change VOk _ _ _ _ _
    refine vcond_f rfl ?_
    refine vexit ?_
    change VOk _ _ _ _ _
    change VOk _ _ _ _ _
    refine vseq ?_
    apply vrp
    · apply VE.cons
      · first | exact ev_load rfl (gn rfl) rfl rfl Tryd.underlying29 rfl Tryd.sizeOf29 rfl rfl | exact ev_loadx rfl (gn rfl) rfl Tryd.underlying29 rfl Tryd.sizeOf29 (by assumption) rfl
      simp only [nm, seval]
      apply VE.cons
      · exact ev_store rfl (gn rfl) rfl rfl rfl Tryd.sizeOf29 rfl (by simp) rfl
      simp only [nm, seval]
      exact VE.nil _
    · kernel_rfl
    change VOk _ _ _ _ _
    refine vret ?_
    refine post_ret (res1 Tryd.results38 (rv_cell rfl rfl Tryd.underlying29 rfl Tryd.sizeOf29 rfl rfl)) ?_
    intro w' hg
    exact ⟨by rw [hz y hRn], hg⟩
theorem rpow_core (l : Nat → Nat → Nat) (x e m z one : Nat) (w : World) (bt qo le rm sr : Nat → Nat) (sq ml _fz : Nat → Nat) (R : Nat → Nat → Prop)
  (hone : l one 0 = 1 ∧ l one 1 = 0 ∧ l one 2 = 0 ∧ l one 3 = 0)
  (hq : ∀ (k : Nat) (_ : k < 256) (p q : Operand) (w : World), (do eqGuard .quo 3 p q (.int .i64 (((k + 1 : Nat) : Int) - 1)) (.int .i64 64); binOp .quo 3 (.int .i64 (((k + 1 : Nat) : Int) - 1)) (.int .i64 64) : Sem Value).run Tryd.prog w = .ok (.int .i64 (qo k : Nat)) w)
  (hq4 : ∀ k, k < 256 → qo k < 4)
  (hle : ∀ k, k < 256 → ([.v (.int .u64 (l e 0 : Nat)), .v (.int .u64 (l e 1 : Nat)), .v (.int .u64 (l e 2 : Nat)), .v (.int .u64 (l e 3 : Nat))] : List SV)[qo k]? = some (.v (.int .u64 (le k : Nat))))
  (hr : ∀ (k : Nat) (p q : Operand) (w : World), (do eqGuard .rem 3 p q (.int .i64 (((k + 1 : Nat) : Int) - 1)) (.int .i64 64); binOp .rem 3 (.int .i64 (((k + 1 : Nat) : Int) - 1)) (.int .i64 64) : Sem Value).run Tryd.prog w = .ok (.int .i64 (rm k : Nat)) w)
  (hsr : ∀ (k : Nat) (p q : Operand) (w : World), (do eqGuard .shr 28 p q (.int .u64 (le k : Nat)) (.int .i64 (rm k : Nat)); binOp .shr 28 (.int .u64 (le k : Nat)) (.int .i64 (rm k : Nat)) : Sem Value).run Tryd.prog w = .ok (.int .u64 (sr k : Nat)) w)
  (hr2 : ∀ (k : Nat) (p q : Operand) (w : World), (do eqGuard .rem 28 p q (.int .u64 (sr k : Nat)) (.int .u64 2); binOp .rem 28 (.int .u64 (sr k : Nat)) (.int .u64 2) : Sem Value).run Tryd.prog w = .ok (.int .u64 (bt k : Nat)) w)
  (hR : R 256 one)
  (hsq : ∀ k y, k < 256 → R (k + 1) y → ∀ w', Gw w w' → Calls Tryd.prog 38 #[.agg #[.int .u64 (l y 0 : Nat), .int .u64 (l y 1 : Nat), .int .u64 (l y 2 : Nat), .int .u64 (l y 3 : Nat)], .agg #[.int .u64 (l y 0 : Nat), .int .u64 (l y 1 : Nat), .int .u64 (l y 2 : Nat), .int .u64 (l y 3 : Nat)], .agg #[.int .u64 (l m 0 : Nat), .int .u64 (l m 1 : Nat), .int .u64 (l m 2 : Nat), .int .u64 (l m 3 : Nat)]] w' fun e w'' => e = .returned (.agg #[.int .u64 (l (sq y) 0 : Nat), .int .u64 (l (sq y) 1 : Nat), .int .u64 (l (sq y) 2 : Nat), .int .u64 (l (sq y) 3 : Nat)]) ∧ Gw w' w'')
  (hml : ∀ k y, k < 256 → R (k + 1) y → bt k = 1 → ∀ w', Gw w w' → Calls Tryd.prog 38 #[.agg #[.int .u64 (l (sq y) 0 : Nat), .int .u64 (l (sq y) 1 : Nat), .int .u64 (l (sq y) 2 : Nat), .int .u64 (l (sq y) 3 : Nat)], .agg #[.int .u64 (l x 0 : Nat), .int .u64 (l x 1 : Nat), .int .u64 (l x 2 : Nat), .int .u64 (l x 3 : Nat)], .agg #[.int .u64 (l m 0 : Nat), .int .u64 (l m 1 : Nat), .int .u64 (l m 2 : Nat), .int .u64 (l m 3 : Nat)]] w' fun e w'' => e = .returned (.agg #[.int .u64 (l (ml y) 0 : Nat), .int .u64 (l (ml y) 1 : Nat), .int .u64 (l (ml y) 2 : Nat), .int .u64 (l (ml y) 3 : Nat)]) ∧ Gw w' w'')
  (hs1 : ∀ k y, k < 256 → R (k + 1) y → bt k = 1 → R k (ml y))
  (hs0 : ∀ k y, k < 256 → R (k + 1) y → bt k ≠ 1 → R k (sq y))
  (hz : ∀ y, R 0 y → (.agg #[.int .u64 (l y 0 : Nat), .int .u64 (l y 1 : Nat), .int .u64 (l y 2 : Nat), .int .u64 (l y 3 : Nat)] : Value) = (.agg #[.int .u64 (l z 0 : Nat), .int .u64 (l z 1 : Nat), .int .u64 (l z 2 : Nat), .int .u64 (l z 3 : Nat)] : Value)) :
  Calls Tryd.prog 48 #[.agg #[.int .u64 (l x 0 : Nat), .int .u64 (l x 1 : Nat), .int .u64 (l x 2 : Nat), .int .u64 (l x 3 : Nat)], .agg #[.int .u64 (l e 0 : Nat), .int .u64 (l e 1 : Nat), .int .u64 (l e 2 : Nat), .int .u64 (l e 3 : Nat)], .agg #[.int .u64 (l m 0 : Nat), .int .u64 (l m 1 : Nat), .int .u64 (l m 2 : Nat), .int .u64 (l m 3 : Nat)]] w fun e w' => e = .returned (.agg #[.int .u64 (l z 0 : Nat), .int .u64 (l z 1 : Nat), .int .u64 (l z 2 : Nat), .int .u64 (l z 3 : Nat)]) ∧ Gw w w' := by
  go_enter Tryd.func48, Tryd.ntmps48
  refine ve_go ?_
  simp only [List.map_cons, List.map_nil]
  refine vseq ?_
  apply vrp
  · apply VE.cons
    · exact ev_box rfl rfl (gn rfl) rfl
    simp only [nm, seval]
    apply VE.cons
    · exact ev_box rfl rfl (gn rfl) rfl
    simp only [nm, seval]
    apply VE.cons
    · exact ev_box rfl rfl (gn rfl) rfl
    simp only [nm, seval]
    apply VE.cons
    · exact ev_alloc rfl rfl (gn rfl) Tryd.zeroValue29
    simp only [nm, seval]
    exact VE.nil _
  · kernel_rfl
  change VOk _ _ _ _ _
  refine vseq ?_
  apply vrp
  · apply VE.cons
    · refine ev_pure' (gn rfl) (fun ρ w => by simp only [VS.act, SV.c, List.map_cons, List.map_nil]; go_simp; exact rfl) (fun _ _ => rfl)
    simp only [nm, seval]
    apply VE.cons
    · exact ev_alloc rfl rfl (gn rfl) Tryd.zeroValue29
    simp only [nm, seval]
    apply VE.cons
    · exact ev_store rfl (gn rfl) rfl rfl rfl Tryd.sizeOf29 rfl (by simp) rfl
    simp only [nm, seval]
    exact VE.nil _
  · kernel_rfl
  change VOk _ _ _ _ _
  refine vseq ?_
  refine vseq ?_
  apply vrp
  · apply VE.cons
    · exact ev_assign rfl (gn rfl)
    simp only [nm, seval]
    exact VE.nil _
  · kernel_rfl
  change VOk _ _ _ _ _
  refine vblock ?_
  refine vloop_inv (fun n s => ∃ (y : Nat), n ≤ 256 ∧ R n y ∧ s.fr = [.v (.agg #[.int .u64 (l x 0 : Nat), .int .u64 (l x 1 : Nat), .int .u64 (l x 2 : Nat), .int .u64 (l x 3 : Nat)]), .v (.agg #[.int .u64 (l e 0 : Nat), .int .u64 (l e 1 : Nat), .int .u64 (l e 2 : Nat), .int .u64 (l e 3 : Nat)]), .v (.agg #[.int .u64 (l m 0 : Nat), .int .u64 (l m 1 : Nat), .int .u64 (l m 2 : Nat), .int .u64 (l m 3 : Nat)]), .p 3 0, .p 4 0, .p 5 0, .p 6 0, .p 7 0, .v (.int .i64 ((n : Int) - 1)), s.fr.getD 9 default, s.fr.getD 10 default, s.fr.getD 11 default, s.fr.getD 12 default, s.fr.getD 13 default, s.fr.getD 14 default, s.fr.getD 15 default, s.fr.getD 16 default, s.fr.getD 17 default, s.fr.getD 18 default, s.fr.getD 19 default, s.fr.getD 20 default, s.fr.getD 21 default, s.fr.getD 22 default, s.fr.getD 23 default, s.fr.getD 24 default, s.fr.getD 25 default, s.fr.getD 26 default, s.fr.getD 27 default, s.fr.getD 28 default, s.fr.getD 29 default, s.fr.getD 30 default, s.fr.getD 31 default] ∧ s.mem = memOf [(7, ([.v (.int .u64 (l y 0 : Nat)), .v (.int .u64 (l y 1 : Nat)), .v (.int .u64 (l y 2 : Nat)), .v (.int .u64 (l y 3 : Nat))], 29)), (6, ([.v (.int .u64 0), .v (.int .u64 0), .v (.int .u64 0), .v (.int .u64 0)], 29)), (5, ([.v (.int .u64 (l m 0 : Nat)), .v (.int .u64 (l m 1 : Nat)), .v (.int .u64 (l m 2 : Nat)), .v (.int .u64 (l m 3 : Nat))], 29)), (4, ([.v (.int .u64 (l e 0 : Nat)), .v (.int .u64 (l e 1 : Nat)), .v (.int .u64 (l e 2 : Nat)), .v (.int .u64 (l e 3 : Nat))], 29)), (3, ([.v (.int .u64 (l x 0 : Nat)), .v (.int .u64 (l x 1 : Nat)), .v (.int .u64 (l x 2 : Nat)), .v (.int .u64 (l x 3 : Nat))], 29))]) ?_ 256 ?_
  rotate_left
  · exact ⟨one, Nat.le_refl _, hR, rfl, by simp only [hone]; rfl⟩
  rintro n ⟨fr, mm⟩ ⟨y, hn, hRn, hfr, hmm⟩
  obtain ⟨f, hf⟩ : ∃ f : Nat → SV, fr = [.v (.agg #[.int .u64 (l x 0 : Nat), .int .u64 (l x 1 : Nat), .int .u64 (l x 2 : Nat), .int .u64 (l x 3 : Nat)]), .v (.agg #[.int .u64 (l e 0 : Nat), .int .u64 (l e 1 : Nat), .int .u64 (l e 2 : Nat), .int .u64 (l e 3 : Nat)]), .v (.agg #[.int .u64 (l m 0 : Nat), .int .u64 (l m 1 : Nat), .int .u64 (l m 2 : Nat), .int .u64 (l m 3 : Nat)]), .p 3 0, .p 4 0, .p 5 0, .p 6 0, .p 7 0, .v (.int .i64 ((n : Int) - 1)), f 9, f 10, f 11, f 12, f 13, f 14, f 15, f 16, f 17, f 18, f 19, f 20, f 21, f 22, f 23, f 24, f 25, f 26, f 27, f 28, f 29, f 30, f 31] := ⟨fun i => fr.getD i default, hfr⟩
  clear hfr
  simp only at hmm
  subst hf hmm
  cases n with
  | succ k =>
    have hk : k < 256 := by omega
    have hge : decide ((0 : Int) ≤ ((k + 1 : Nat) : Int) - 1) = true := decide_eq_true (by omega)
    have hdn : IntKind.i64.wrap (((k + 1 : Nat) : Int) - 1 - 1) = (k : Int) - 1 := by rw [i64w (by omega) (by omega)]; omega
    by_cases hb : bt k = 1
    · have he : decide (((bt k : Nat) : Int) = 1) = true := decide_eq_true (by omega)
      refine vseq ?_
      refine vseq ?_
      apply vrp
      · apply VE.cons
        · exact ev_move rfl (gn rfl)
        simp only [nm, seval]
        apply VE.cons
        · exact ev_geq (p := true) rfl (gn rfl) rfl rfl hge
        simp only [nm, seval]
        exact VE.nil _
      · kernel_rfl
      change VOk _ _ _ _ _
      refine vcond_t rfl ?_
      refine vskip ?_
      change VOk _ _ _ _ _
      refine vseq ?_
      refine vblock ?_
      refine vseq ?_
      apply vrp
      · apply VE.cons
        · first | exact ev_load rfl (gn rfl) rfl rfl Tryd.underlying29 rfl Tryd.sizeOf29 rfl rfl | exact ev_loadx rfl (gn rfl) rfl Tryd.underlying29 rfl Tryd.sizeOf29 (by assumption) rfl
        simp only [nm, seval]
        apply VE.cons
        · first | exact ev_load rfl (gn rfl) rfl rfl Tryd.underlying29 rfl Tryd.sizeOf29 rfl rfl | exact ev_loadx rfl (gn rfl) rfl Tryd.underlying29 rfl Tryd.sizeOf29 (by assumption) rfl
        simp only [nm, seval]
        apply VE.cons
        · first | exact ev_load rfl (gn rfl) rfl rfl Tryd.underlying29 rfl Tryd.sizeOf29 rfl rfl | exact ev_loadx rfl (gn rfl) rfl Tryd.underlying29 rfl Tryd.sizeOf29 (by assumption) rfl
        simp only [nm, seval]
        apply VE.cons
        · exact ev_call rfl (gn rfl) rfl (en_of Tryd.func38 (by kernel_rfl) rfl) (hsq _ _ hk hRn)
        simp only [nm, seval]
        apply VE.cons
        · exact ev_store rfl (gn rfl) rfl rfl rfl Tryd.sizeOf29 rfl (by simp) rfl
        simp only [nm, seval]
        exact VE.nil _
      · kernel_rfl
      change VOk _ _ _ _ _
      refine vseq ?_
      apply vrp
      · apply VE.cons
        · exact ev_move rfl (gn rfl)
        simp only [nm, seval]
        apply VE.cons
        · exact ev_bin rfl (gn rfl) rfl rfl (fun w => hq _ hk _ _ w)
        simp only [nm, seval]
        apply VE.cons
        · exact ev_index rfl (gn rfl) rfl rfl Tryd.underlying29 Tryd.sizeOf28 (Int.natCast_nonneg _) (by have := hq4 k hk; omega)
        simp only [nm, seval]
        apply VE.cons
        · exact ev_load1 rfl (gn rfl) rfl rfl Tryd.underlying28 rfl (hle k hk)
        simp only [nm, seval]
        apply VE.cons
        · exact ev_move rfl (gn rfl)
        simp only [nm, seval]
        apply VE.cons
        · exact ev_bin rfl (gn rfl) rfl rfl (fun w => hr _  _ _ w)
        simp only [nm, seval]
        apply VE.cons
        · exact ev_bin rfl (gn rfl) rfl rfl (fun w => hsr _  _ _ w)
        simp only [nm, seval]
        apply VE.cons
        · exact ev_bin rfl (gn rfl) rfl rfl (fun w => hr2 _  _ _ w)
        simp only [nm, seval]
        apply VE.cons
        · exact ev_eql (p := true) rfl (gn rfl) rfl rfl he
        simp only [nm, seval]
        exact VE.nil _
      · kernel_rfl
      change VOk _ _ _ _ _
      refine vcond_t rfl ?_
      apply vrp
      · apply VE.cons
        · first | exact ev_load rfl (gn rfl) rfl rfl Tryd.underlying29 rfl Tryd.sizeOf29 rfl rfl | exact ev_loadx rfl (gn rfl) rfl Tryd.underlying29 rfl Tryd.sizeOf29 (by assumption) rfl
        simp only [nm, seval]
        apply VE.cons
        · first | exact ev_load rfl (gn rfl) rfl rfl Tryd.underlying29 rfl Tryd.sizeOf29 rfl rfl | exact ev_loadx rfl (gn rfl) rfl Tryd.underlying29 rfl Tryd.sizeOf29 (by assumption) rfl
        simp only [nm, seval]
        apply VE.cons
        · first | exact ev_load rfl (gn rfl) rfl rfl Tryd.underlying29 rfl Tryd.sizeOf29 rfl rfl | exact ev_loadx rfl (gn rfl) rfl Tryd.underlying29 rfl Tryd.sizeOf29 (by assumption) rfl
        simp only [nm, seval]
        apply VE.cons
        · exact ev_call rfl (gn rfl) rfl (en_of Tryd.func38 (by kernel_rfl) rfl) (hml _ _ hk hRn hb)
        simp only [nm, seval]
        apply VE.cons
        · exact ev_store rfl (gn rfl) rfl rfl rfl Tryd.sizeOf29 rfl (by simp) rfl
        simp only [nm, seval]
        exact VE.nil _
      · kernel_rfl
      change VOk _ _ _ _ _
      apply vrp
      · apply VE.cons
        · exact ev_move rfl (gn rfl)
        simp only [nm, seval]
        apply VE.cons
        · exact ev_sub rfl (gn rfl) rfl rfl hdn
        simp only [nm, seval]
        apply VE.cons
        · exact ev_assign rfl (gn rfl)
        simp only [nm, seval]
        exact VE.nil _
      · kernel_rfl
      exact ⟨k, by omega, _, by omega, hs1 _ _ hk hRn hb, rfl, rfl⟩
    · have he : decide (((bt k : Nat) : Int) = 1) = false := decide_eq_false (by omega)
      refine vseq ?_
      refine vseq ?_
      apply vrp
      · apply VE.cons
        · exact ev_move rfl (gn rfl)
        simp only [nm, seval]
        apply VE.cons
        · exact ev_geq (p := true) rfl (gn rfl) rfl rfl hge
        simp only [nm, seval]
        exact VE.nil _
      · kernel_rfl
      change VOk _ _ _ _ _
      refine vcond_t rfl ?_
      refine vskip ?_
      change VOk _ _ _ _ _
      refine vseq ?_
      refine vblock ?_
      refine vseq ?_
      apply vrp
      · apply VE.cons
        · first | exact ev_load rfl (gn rfl) rfl rfl Tryd.underlying29 rfl Tryd.sizeOf29 rfl rfl | exact ev_loadx rfl (gn rfl) rfl Tryd.underlying29 rfl Tryd.sizeOf29 (by assumption) rfl
        simp only [nm, seval]
        apply VE.cons
        · first | exact ev_load rfl (gn rfl) rfl rfl Tryd.underlying29 rfl Tryd.sizeOf29 rfl rfl | exact ev_loadx rfl (gn rfl) rfl Tryd.underlying29 rfl Tryd.sizeOf29 (by assumption) rfl
        simp only [nm, seval]
        apply VE.cons
        · first | exact ev_load rfl (gn rfl) rfl rfl Tryd.underlying29 rfl Tryd.sizeOf29 rfl rfl | exact ev_loadx rfl (gn rfl) rfl Tryd.underlying29 rfl Tryd.sizeOf29 (by assumption) rfl
        simp only [nm, seval]
        apply VE.cons
        · exact ev_call rfl (gn rfl) rfl (en_of Tryd.func38 (by kernel_rfl) rfl) (hsq _ _ hk hRn)
        simp only [nm, seval]
        apply VE.cons
        · exact ev_store rfl (gn rfl) rfl rfl rfl Tryd.sizeOf29 rfl (by simp) rfl
        simp only [nm, seval]
        exact VE.nil _
      · kernel_rfl
      change VOk _ _ _ _ _
      refine vseq ?_
      apply vrp
      · apply VE.cons
        · exact ev_move rfl (gn rfl)
        simp only [nm, seval]
        apply VE.cons
        · exact ev_bin rfl (gn rfl) rfl rfl (fun w => hq _ hk _ _ w)
        simp only [nm, seval]
        apply VE.cons
        · exact ev_index rfl (gn rfl) rfl rfl Tryd.underlying29 Tryd.sizeOf28 (Int.natCast_nonneg _) (by have := hq4 k hk; omega)
        simp only [nm, seval]
        apply VE.cons
        · exact ev_load1 rfl (gn rfl) rfl rfl Tryd.underlying28 rfl (hle k hk)
        simp only [nm, seval]
        apply VE.cons
        · exact ev_move rfl (gn rfl)
        simp only [nm, seval]
        apply VE.cons
        · exact ev_bin rfl (gn rfl) rfl rfl (fun w => hr _  _ _ w)
        simp only [nm, seval]
        apply VE.cons
        · exact ev_bin rfl (gn rfl) rfl rfl (fun w => hsr _  _ _ w)
        simp only [nm, seval]
        apply VE.cons
        · exact ev_bin rfl (gn rfl) rfl rfl (fun w => hr2 _  _ _ w)
        simp only [nm, seval]
        apply VE.cons
        · exact ev_eql (p := false) rfl (gn rfl) rfl rfl he
        simp only [nm, seval]
        exact VE.nil _
      · kernel_rfl
      change VOk _ _ _ _ _
      refine vcond_f rfl ?_
      refine vskip ?_
      change VOk _ _ _ _ _
      apply vrp
      · apply VE.cons
        · exact ev_move rfl (gn rfl)
        simp only [nm, seval]
        apply VE.cons
        · exact ev_sub rfl (gn rfl) rfl rfl hdn
        simp only [nm, seval]
        apply VE.cons
        · exact ev_assign rfl (gn rfl)
        simp only [nm, seval]
        exact VE.nil _
      · kernel_rfl
      exact ⟨k, by omega, _, by omega, hs0 _ _ hk hRn hb, rfl, rfl⟩
  | zero =>
    refine vseq ?_
    refine vseq ?_
    apply vrp
    · apply VE.cons
      · exact ev_move rfl (gn rfl)
      simp only [nm, seval]
      apply VE.cons
      · exact ev_geq (p := false) rfl (gn rfl) rfl rfl (by decide)
      simp only [nm, seval]
      exact VE.nil _
    · kernel_rfl
    change VOk _ _ _ _ _
    refine vcond_f rfl ?_
    refine vexit ?_
    change VOk _ _ _ _ _
    change VOk _ _ _ _ _
    refine vseq ?_
    apply vrp
    · apply VE.cons
      · first | exact ev_load rfl (gn rfl) rfl rfl Tryd.underlying29 rfl Tryd.sizeOf29 rfl rfl | exact ev_loadx rfl (gn rfl) rfl Tryd.underlying29 rfl Tryd.sizeOf29 (by assumption) rfl
      simp only [nm, seval]
      apply VE.cons
      · exact ev_store rfl (gn rfl) rfl rfl rfl Tryd.sizeOf29 rfl (by simp) rfl
      simp only [nm, seval]
      exact VE.nil _
    · kernel_rfl
    change VOk _ _ _ _ _
    refine vret ?_
    refine post_ret (res1 Tryd.results48 (rv_cell rfl rfl Tryd.underlying29 rfl Tryd.sizeOf29 rfl rfl)) ?_
    intro w' hg
    exact ⟨by rw [hz y hRn], hg⟩
end Go.Proofs.YtbnfanmolphliaaDoor
