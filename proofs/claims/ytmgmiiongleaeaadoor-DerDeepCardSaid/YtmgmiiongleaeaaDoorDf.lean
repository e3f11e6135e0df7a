import Derived.Test.YtmgmiiongleaeaaDoorDe
namespace Go.Proofs.YtmgmiiongleaeaaDoor
open Go.RowKit Go.Vx
open Go.Toll (Gw)
set_option maxHeartbeats 4000000
set_option maxRecDepth 100000
theorem rem8 {a b : Nat} (_hb : b < 8) (p q : Operand) (w : World) : (do eqGuard .rem 5 p q (.int .u8 (a : Nat)) (.int .u8 ((2 ^ b : Nat) : Int)); binOp .rem 5 (.int .u8 (a : Nat)) (.int .u8 ((2 ^ b : Nat) : Int)) : Sem Value).run Tryd.prog w = .ok (.int .u8 ((md a b : Nat) : Int)) w := by
  have h0 := Nat.two_pow_pos b
  have h1 : ¬ ((2 ^ b : Nat) : Int) = 0 := by omega
  have h2 : ((a : Int).tmod ((2 ^ b : Nat) : Int)) = ((md a b : Nat) : Int) := by rw [Int.tmod_eq_emod_of_nonneg (Int.natCast_nonneg _)]; rfl
  obtain ⟨m, hm⟩ : ∃ m, 2 ^ b = m := ⟨_, rfl⟩
  rw [hm] at h0 h1 h2 ⊢
  go_simp
  omega
theorem oidGo_end : ∀ (l : List Nat) (a c : Bool), oidGo a l = some c → l ≠ [] → c = decide (lastT l < 128)
  | [], _, _, _, h => absurd rfl h
  | [b], a, c, h, _ => by
    cases hc : (a && decide (b = 128)) with
    | true => rw [oidGo_t hc] at h; cases h
    | false => rw [oidGo_f hc] at h; simp only [oidGo, Option.some.injEq] at h; rw [← h]; rfl
  | b :: b' :: r, a, c, h, _ => by
    cases hc : (a && decide (b = 128)) with
    | true => rw [oidGo_t hc] at h; cases h
    | false => rw [oidGo_f hc] at h; rw [oidGo_end (b' :: r) _ c h (by simp)]; simp [lastT, List.getD]
theorem oid_no {b : List Nat} (h : b.length = 0 ∨ lastT b ≥ 128) : oidT b = false := by
  unfold oidT
  cases hg : oidGo true b with
  | none => rfl
  | some a =>
    simp only
    rcases h with h | h
    · simp [h]
    · by_cases hb : b = []
      · subst hb; simp
      · rw [oidGo_end b true a hg hb]; simp; intro _; omega
theorem oid_yes {b : List Nat} {a : Bool} (h : oidGo true b = some a) (hn : b.length ≠ 0) (hl : lastT b < 128) : oidT b = true := by
  unfold oidT
  rw [h]
  simp only
  rw [oidGo_end b true a h (by intro c; subst c; exact hn rfl)]
  simp; omega
def begT (b : List Nat) (i : Nat) : Bool := decide (i = 0) || decide (b.getD (i - 1) 0 < 128)
theorem beg_next {b : List Nat} {i c : Nat} (h : b[i]? = some c) : begT b (i + 1) = decide (c < 128) := by
  simp [begT, List.getD, h]
theorem rbody_3n (w : World) : Calls Tryd.prog 36 #[.int .i64 3, .string (bstr [])] w fun e w' => e = .returned (.bool (false)) ∧ Bw w w' := by
  go_enter Tryd.func36, Tryd.ntmps36
  refine ve_go ?_
  simp only [List.map_cons, List.map_nil]
  refine vseq ?_
  apply vrp
  · apply VE.cons
    · exact ev_assign rfl (gn rfl)
    simp only [nm, seval]
    exact VE.nil _
  · kernel_rfl
  change VOk _ _ _ _ _
  refine vseq ?_
  apply vrp
  · apply VE.cons
    · exact ev_move rfl (gn rfl)
    simp only [nm, seval]
    apply VE.cons
    · exact ev_lenb rfl (gn rfl) rfl Tryd.underlying9
    simp only [nm, seval]
    apply VE.cons
    · exact ev_assign rfl (gn rfl)
    simp only [nm, seval]
    exact VE.nil _
  · kernel_rfl
  change VOk _ _ _ _ _
  refine vseq ?_
  refine vseq ?_
  apply vrp
  · apply VE.cons
    · exact ev_move rfl (gn rfl)
    simp only [nm, seval]
    exact VE.nil _
  · kernel_rfl
  change VOk _ _ _ _ _
  refine vblock ?_
  refine vseq ?_
  apply vrp
  · apply VE.cons
    · exact ev_eql (p := false) rfl (gn rfl) rfl rfl (by decide)
    simp only [nm, seval]
    apply VE.cons
    · exact ev_assign rfl (gn rfl)
    simp only [nm, seval]
    exact VE.nil _
  · kernel_rfl
  change VOk _ _ _ _ _
  refine vcond_f rfl ?_
  refine vseq ?_
  apply vrp
  · apply VE.cons
    · exact ev_eql (p := false) rfl (gn rfl) rfl rfl (by decide)
    simp only [nm, seval]
    apply VE.cons
    · exact ev_assign rfl (gn rfl)
    simp only [nm, seval]
    exact VE.nil _
  · kernel_rfl
  change VOk _ _ _ _ _
  refine vcond_f rfl ?_
  refine vseq ?_
  apply vrp
  · apply VE.cons
    · exact ev_eql (p := true) rfl (gn rfl) rfl rfl (by decide)
    simp only [nm, seval]
    apply VE.cons
    · exact ev_assign rfl (gn rfl)
    simp only [nm, seval]
    exact VE.nil _
  · kernel_rfl
  change VOk _ _ _ _ _
  refine vcond_t rfl ?_
  refine vseq ?_
  refine vseq ?_
  apply vrp
  · apply VE.cons
    · exact ev_move rfl (gn rfl)
    simp only [nm, seval]
    apply VE.cons
    · exact ev_eql (p := true) rfl (gn rfl) rfl rfl (by decide)
    simp only [nm, seval]
    apply VE.cons
    · exact ev_move rfl (gn rfl)
    simp only [nm, seval]
    apply VE.cons
    · first | exact Ev.skip (fun _ => rfl) | exact ev_move rfl (fun _ => rfl)
    simp only [nm, seval]
    apply VE.cons
    · first | exact Ev.skip (fun _ => rfl) | refine ev_pure' (fun _ => rfl) (fun ρ w => by simp only [VS.act, SV.c, List.map_cons, List.map_nil]; go_simp; exact rfl) (fun _ _ => rfl)
    simp only [nm, seval]
    apply VE.cons
    · first | exact Ev.skip (fun _ => rfl) | refine ev_pure' (fun _ => rfl) (fun ρ w => by simp only [VS.act, SV.c, List.map_cons, List.map_nil]; go_simp; exact rfl) (fun _ _ => rfl)
    simp only [nm, seval]
    apply VE.cons
    · first | exact ev_pick_t rfl (gn rfl) rfl rfl | exact ev_pick_f rfl (gn rfl) rfl rfl
    simp only [nm, seval]
    apply VE.cons
    · exact ev_move rfl (gn rfl)
    simp only [nm, seval]
    apply VE.cons
    · first | exact Ev.skip (fun _ => rfl) | exact ev_move rfl (fun _ => rfl)
    simp only [nm, seval]
    apply VE.cons
    · first | exact Ev.skip (fun _ => rfl) | refine ev_pure' (fun _ => rfl) (fun ρ w => by simp only [VS.act, SV.c, List.map_cons, List.map_nil]; go_simp; exact rfl) (fun _ _ => rfl)
    simp only [nm, seval]
    apply VE.cons
    · first | exact Ev.skip (fun _ => rfl) | exact ev_move rfl (fun _ => rfl)
    simp only [nm, seval]
    apply VE.cons
    · first | exact Ev.skip (fun _ => rfl) | exact ev_move rfl (fun _ => rfl)
    simp only [nm, seval]
    apply VE.cons
    · first | exact Ev.skip (fun _ => rfl) | refine ev_pure' (fun _ => rfl) (fun ρ w => by simp only [VS.act, SV.c, List.map_cons, List.map_nil]; go_simp; exact rfl) (fun _ _ => rfl)
    simp only [nm, seval]
    apply VE.cons
    · first | exact Ev.skip (fun _ => rfl) | refine ev_pure' (fun _ => rfl) (fun ρ w => by simp only [VS.act, SV.c, List.map_cons, List.map_nil]; go_simp; exact rfl) (fun _ _ => rfl)
    simp only [nm, seval]
    apply VE.cons
    · first | exact Ev.skip (fun _ => rfl) | exact ev_pick_t rfl (fun _ => rfl) rfl rfl | exact ev_pick_f rfl (fun _ => rfl) rfl rfl
    simp only [nm, seval]
    apply VE.cons
    · first | exact ev_pick_t rfl (gn rfl) rfl rfl | exact ev_pick_f rfl (gn rfl) rfl rfl
    simp only [nm, seval]
    exact VE.nil _
  · kernel_rfl
  change VOk _ _ _ _ _
  refine vcond_t rfl ?_
  refine vseq ?_
  apply vrp
  · apply VE.cons
    · exact ev_assign rfl (gn rfl)
    simp only [nm, seval]
    exact VE.nil _
  · kernel_rfl
  change VOk _ _ _ _ _
  refine vret ?_
  refine post_ret (res1 Tryd.results36 (rv_tmp rfl)) ?_
  intro ρ w' hr
  exact ⟨rfl, hr.1⟩
theorem rbody_3c {b0 : Nat} {r : List Nat} (h8 : ∀ z ∈ b0 :: r, z < 256) (hm : (b0 :: r).length ≤ 1048576) (w : World) : Calls Tryd.prog 36 #[.int .i64 3, .string (bstr (b0 :: r))] w fun e w' => e = .returned (.bool (bits1 b0 r)) ∧ Bw w w' := by
  unfold bits1
  obtain ⟨q1, h_q1⟩ : ∃ p, decide (b0 ≥ 8) = p := ⟨_, rfl⟩
  obtain ⟨q2, h_q2⟩ : ∃ p, decide (r.length + 1 = 1) = p := ⟨_, rfl⟩
  obtain ⟨q3, h_q3⟩ : ∃ p, decide (b0 = 0) = p := ⟨_, rfl⟩
  rw [h_q1, h_q2, h_q3]
  have h_q1' : decide ((b0 : Int) > ((7 : Nat) : Int)) = q1 := by rw [← h_q1]; exact decide_eq_decide.2 (by omega)
  have h_q2' := (nat_eq (r.length + 1) 1).trans h_q2
  have h_q3' : decide ((b0 : Int) ≠ ((0 : Nat) : Int)) = !q3 := by rw [← h_q3, ← decide_not]; exact decide_eq_decide.2 (by omega)
  have hlast : (b0 :: r)[r.length]? = some (lastT (b0 :: r)) := by unfold lastT; exact getD_get (by simp)
  have hl8 : lastT (b0 :: r) < 256 := h8 _ (List.mem_of_getElem? hlast)
  have hb8 : q1 = false → b0 < 8 := fun h => by rw [h] at h_q1; have := of_decide_eq_false h_q1; omega
  go_enter Tryd.func36, Tryd.ntmps36
  refine ve_go ?_
  simp only [List.map_cons, List.map_nil]
  cases q1 <;> cases q2 <;> cases q3 <;>
  (
    refine vseq ?_
    apply vrp
    · apply VE.cons
      · exact ev_assign rfl (gn rfl)
      simp only [nm, seval]
      exact VE.nil _
    · kernel_rfl
    change VOk _ _ _ _ _
    refine vseq ?_
    apply vrp
    · apply VE.cons
      · exact ev_move rfl (gn rfl)
      simp only [nm, seval]
      apply VE.cons
      · exact ev_lenb rfl (gn rfl) rfl Tryd.underlying9
      simp only [nm, seval]
      apply VE.cons
      · exact ev_assign rfl (gn rfl)
      simp only [nm, seval]
      exact VE.nil _
    · kernel_rfl
    change VOk _ _ _ _ _
    refine vseq ?_
    refine vseq ?_
    apply vrp
    · apply VE.cons
      · exact ev_move rfl (gn rfl)
      simp only [nm, seval]
      exact VE.nil _
    · kernel_rfl
    change VOk _ _ _ _ _
    refine vblock ?_
    refine vseq ?_
    apply vrp
    · apply VE.cons
      · exact ev_eql (p := false) rfl (gn rfl) rfl rfl (by decide)
      simp only [nm, seval]
      apply VE.cons
      · exact ev_assign rfl (gn rfl)
      simp only [nm, seval]
      exact VE.nil _
    · kernel_rfl
    change VOk _ _ _ _ _
    refine vcond_f rfl ?_
    refine vseq ?_
    apply vrp
    · apply VE.cons
      · exact ev_eql (p := false) rfl (gn rfl) rfl rfl (by decide)
      simp only [nm, seval]
      apply VE.cons
      · exact ev_assign rfl (gn rfl)
      simp only [nm, seval]
      exact VE.nil _
    · kernel_rfl
    change VOk _ _ _ _ _
    refine vcond_f rfl ?_
    refine vseq ?_
    apply vrp
    · apply VE.cons
      · exact ev_eql (p := true) rfl (gn rfl) rfl rfl (by decide)
      simp only [nm, seval]
      apply VE.cons
      · exact ev_assign rfl (gn rfl)
      simp only [nm, seval]
      exact VE.nil _
    · kernel_rfl
    change VOk _ _ _ _ _
    refine vcond_t rfl ?_
    refine vseq ?_
    refine vseq ?_
    apply vrp
    · apply VE.cons
      · exact ev_move rfl (gn rfl)
      simp only [nm, seval]
      apply VE.cons
      · exact ev_eql (p := false) rfl (gn rfl) rfl rfl (decide_eq_false (by simp only [List.length_cons]; omega))
      simp only [nm, seval]
      apply VE.cons
      · exact ev_move rfl (gn rfl)
      simp only [nm, seval]
      apply VE.cons
      · first | exact Ev.skip (fun _ => rfl) | exact ev_move rfl (fun _ => rfl)
      simp only [nm, seval]
      apply VE.cons
      · first | exact Ev.skip (fun _ => rfl) | exact ev_idxb (k := 0) rfl (fun _ => rfl) rfl rfl Tryd.underlying9 (rfl) (h8 _ (by simp))
      simp only [nm, seval]
      apply VE.cons
      · first | exact Ev.skip (fun _ => rfl) | exact ev_gtr rfl (fun _ => rfl) rfl rfl h_q1'
      simp only [nm, seval]
      apply VE.cons
      · first | exact ev_pick_t rfl (gn rfl) rfl rfl | exact ev_pick_f rfl (gn rfl) rfl rfl
      simp only [nm, seval]
      apply VE.cons
      · exact ev_move rfl (gn rfl)
      simp only [nm, seval]
      apply VE.cons
      · first | exact Ev.skip (fun _ => rfl) | exact ev_move rfl (fun _ => rfl)
      simp only [nm, seval]
      apply VE.cons
      · first | exact Ev.skip (fun _ => rfl) | exact ev_eql rfl (fun _ => rfl) rfl rfl h_q2'
      simp only [nm, seval]
      apply VE.cons
      · first | exact Ev.skip (fun _ => rfl) | exact ev_move rfl (fun _ => rfl)
      simp only [nm, seval]
      apply VE.cons
      · first | exact Ev.skip (fun _ => rfl) | exact ev_move rfl (fun _ => rfl)
      simp only [nm, seval]
      apply VE.cons
      · first | exact Ev.skip (fun _ => rfl) | exact ev_idxb (k := 0) rfl (fun _ => rfl) rfl rfl Tryd.underlying9 (rfl) (h8 _ (by simp))
      simp only [nm, seval]
      apply VE.cons
      · first | exact Ev.skip (fun _ => rfl) | exact ev_neq rfl (fun _ => rfl) rfl rfl h_q3'
      simp only [nm, seval]
      apply VE.cons
      · first | exact Ev.skip (fun _ => rfl) | exact ev_pick_t rfl (fun _ => rfl) rfl rfl | exact ev_pick_f rfl (fun _ => rfl) rfl rfl
      simp only [nm, seval]
      apply VE.cons
      · first | exact ev_pick_t rfl (gn rfl) rfl rfl | exact ev_pick_f rfl (gn rfl) rfl rfl
      simp only [nm, seval]
      exact VE.nil _
    · kernel_rfl
    change VOk _ _ _ _ _
    first
    | (
        refine vcond_t rfl ?_
        refine vseq ?_
        apply vrp
        · apply VE.cons
          · exact ev_assign rfl (gn rfl)
          simp only [nm, seval]
          exact VE.nil _
        · kernel_rfl
        change VOk _ _ _ _ _
        refine vret ?_
        refine post_ret (res1 Tryd.results36 (rv_tmp rfl)) ?_
        intro ρ w' hr
        exact ⟨rfl, hr.1⟩
      )
    | (
        refine vcond_f rfl ?_
        refine vskip ?_
        change VOk _ _ _ _ _
        refine vseq ?_
        apply vrd (by kernel_rfl)
        · apply VE.cons
          · exact ev_move rfl (gn rfl)
          simp only [nm, seval]
          apply VE.cons
          · exact ev_eql rfl (gn rfl) rfl rfl h_q2'
          simp only [nm, seval]
          apply VE.cons
          · exact ev_move rfl (gn rfl)
          simp only [nm, seval]
          apply VE.cons
          · first | exact Ev.skip (fun _ => rfl) | exact ev_move rfl (fun _ => rfl)
          simp only [nm, seval]
          apply VE.cons
          · first | exact Ev.skip (fun _ => rfl) | exact ev_move rfl (fun _ => rfl)
          simp only [nm, seval]
          apply VE.cons
          · first | exact Ev.skip (fun _ => rfl) | exact ev_sub (c := ((r.length : Nat) : Int)) rfl (fun _ => rfl) rfl rfl (by simp only [List.length_cons] at hm ⊢; rw [i64w (by omega) (by omega)]; omega)
          simp only [nm, seval]
          apply VE.cons
          · first | exact Ev.skip (fun _ => rfl) | exact ev_idxb (k := r.length) rfl (fun _ => rfl) rfl rfl Tryd.underlying9 (hlast) (hl8)
          simp only [nm, seval]
          apply VE.cons
          · first | exact Ev.skip (fun _ => rfl) | exact ev_move rfl (fun _ => rfl)
          simp only [nm, seval]
          apply VE.cons
          · first | exact Ev.skip (fun _ => rfl) | exact ev_idxb (k := 0) rfl (fun _ => rfl) rfl rfl Tryd.underlying9 (rfl) (h8 _ (by simp))
          simp only [nm, seval]
          apply VE.cons
          · first | exact Ev.skip (fun _ => rfl) | exact ev_bin rfl (fun _ => rfl) rfl rfl (fun w => shl8 (hb8 rfl) _ _ w)
          simp only [nm, seval]
          apply VE.cons
          · first | exact Ev.skip (fun _ => rfl) | exact ev_bin rfl (fun _ => rfl) rfl rfl (fun w => rem8 (hb8 rfl) _ _ w)
          simp only [nm, seval]
          apply VE.cons
          · first | exact Ev.skip (fun _ => rfl) | exact ev_eql rfl (fun _ => rfl) rfl rfl (nat_eq _ 0)
          simp only [nm, seval]
          apply VE.cons
          · first | exact ev_pick_t rfl (gn rfl) rfl rfl | exact ev_pick_f rfl (gn rfl) rfl rfl
          simp only [nm, seval]
          apply VE.cons
          · exact ev_assign rfl (gn rfl)
          simp only [nm, seval]
          exact VE.nil _
        · kernel_rfl
        change VOk _ _ _ _ _
        refine vret ?_
        refine post_ret (res1 Tryd.results36 (rv_tmp rfl)) ?_
        intro ρ w' hr
        exact ⟨rfl, hr.1⟩
      )
  )
theorem rbody_12 {b : List Nat} (h8 : ∀ x ∈ b, x < 256) (hm : b.length ≤ 1048576) (w : World) : Calls Tryd.prog 36 #[.int .i64 12, .string (bstr b)] w fun e w' => e = .returned (.bool (plainT b)) ∧ Bw w w' := by
  go_enter Tryd.func36, Tryd.ntmps36
  refine ve_go ?_
  simp only [List.map_cons, List.map_nil]
  refine vseq ?_
  apply vrp
  · apply VE.cons
    · exact ev_assign rfl (gn rfl)
    simp only [nm, seval]
    exact VE.nil _
  · kernel_rfl
  change VOk _ _ _ _ _
  refine vseq ?_
  apply vrp
  · apply VE.cons
    · exact ev_move rfl (gn rfl)
    simp only [nm, seval]
    apply VE.cons
    · exact ev_lenb rfl (gn rfl) rfl Tryd.underlying9
    simp only [nm, seval]
    apply VE.cons
    · exact ev_assign rfl (gn rfl)
    simp only [nm, seval]
    exact VE.nil _
  · kernel_rfl
  change VOk _ _ _ _ _
  refine vseq ?_
  refine vseq ?_
  apply vrp
  · apply VE.cons
    · exact ev_move rfl (gn rfl)
    simp only [nm, seval]
    exact VE.nil _
  · kernel_rfl
  change VOk _ _ _ _ _
  refine vblock ?_
  refine vseq ?_
  apply vrp
  · apply VE.cons
    · exact ev_eql (p := false) rfl (gn rfl) rfl rfl (by decide)
    simp only [nm, seval]
    apply VE.cons
    · exact ev_assign rfl (gn rfl)
    simp only [nm, seval]
    exact VE.nil _
  · kernel_rfl
  change VOk _ _ _ _ _
  refine vcond_f rfl ?_
  refine vseq ?_
  apply vrp
  · apply VE.cons
    · exact ev_eql (p := false) rfl (gn rfl) rfl rfl (by decide)
    simp only [nm, seval]
    apply VE.cons
    · exact ev_assign rfl (gn rfl)
    simp only [nm, seval]
    exact VE.nil _
  · kernel_rfl
  change VOk _ _ _ _ _
  refine vcond_f rfl ?_
  refine vseq ?_
  apply vrp
  · apply VE.cons
    · exact ev_eql (p := false) rfl (gn rfl) rfl rfl (by decide)
    simp only [nm, seval]
    apply VE.cons
    · exact ev_assign rfl (gn rfl)
    simp only [nm, seval]
    exact VE.nil _
  · kernel_rfl
  change VOk _ _ _ _ _
  refine vcond_f rfl ?_
  refine vseq ?_
  apply vrp
  · apply VE.cons
    · exact ev_eql (p := false) rfl (gn rfl) rfl rfl (by decide)
    simp only [nm, seval]
    apply VE.cons
    · exact ev_assign rfl (gn rfl)
    simp only [nm, seval]
    exact VE.nil _
  · kernel_rfl
  change VOk _ _ _ _ _
  refine vcond_f rfl ?_
  refine vseq ?_
  apply vrp
  · apply VE.cons
    · exact ev_eql (p := false) rfl (gn rfl) rfl rfl (by decide)
    simp only [nm, seval]
    apply VE.cons
    · exact ev_assign rfl (gn rfl)
    simp only [nm, seval]
    exact VE.nil _
  · kernel_rfl
  change VOk _ _ _ _ _
  refine vcond_f rfl ?_
  refine vseq ?_
  apply vrp
  · apply VE.cons
    · exact ev_eql (p := true) rfl (gn rfl) rfl rfl (by decide)
    simp only [nm, seval]
    apply VE.cons
    · exact ev_assign rfl (gn rfl)
    simp only [nm, seval]
    exact VE.nil _
  · kernel_rfl
  change VOk _ _ _ _ _
  refine vcond_t rfl ?_
  refine vseq ?_
  refine vseq ?_
  apply vrp
  · apply VE.cons
    · exact ev_assign rfl (gn rfl)
    simp only [nm, seval]
    exact VE.nil _
  · kernel_rfl
  change VOk _ _ _ _ _
  refine vblock ?_
  refine vloop_w (α := {i : Nat // i ≤ b.length ∧ b.any plainB = (b.drop i).any plainB}) (fun (x : {i : Nat // i ≤ b.length ∧ b.any plainB = (b.drop i).any plainB}) f => ⟨[.v (.int .i64 12), .v (.string (bstr b)), .v (f 2), .v (f 3), .v (.bool false), .v (.int .i64 (b.length : Nat)), .v (f 6), .v (.int .i64 (x.1 : Nat)), .v (f 8), .v (f 9), .v (f 10), .v (f 11), .v (f 12), .v (f 13), .v (f 14), .v (f 15), .v (f 16), .v (f 17), .v (f 18), .v (f 19), .v (f 20), .v (f 21), .v (f 22), .v (f 23), .v (f 24), .v (f 25), .v (f 26), .v (f 27), .v (f 28), .v (f 29), .v (f 30), .v (f 31), .v (f 32), .v (f 33), .v (f 34), .v (f 35), .v (f 36), .v (f 37), .v (f 38), .v (f 39), .v (f 40), .v (f 41), .v (f 42), .v (f 43), .v (f 44), .v (f 45), .v (f 46), .v (f 47), .v (f 48), .v (f 49), .v (f 50), .v (f 51), .v (f 52), .v (f 53), .v (f 54), .v (f 55), .v (f 56), .v (f 57), .v (f 58), .v (f 59), .v (f 60), .v (f 61), .v (f 62), .v (f 63), .v (f 64), .v (f 65), .v (f 66), .v (f 67), .v (f 68), .v (f 69), .v (f 70), .v (f 71), .v (f 72), .v (f 73), .v (f 74), .v (f 75), .v (f 76), .v (f 77), .v (f 78), .v (f 79), .v (f 80), .v (f 81), .v (f 82), .v (f 83), .v (f 84), .v (f 85), .v (f 86), .v (f 87), .v (f 88), .v (f 89), .v (f 90), .v (f 91), .v (f 92), .v (f 93), .v (f 94), .v (f 95), .v (f 96), .v (f 97), .v (f 98), .v (f 99), .v (f 100), .v (f 101), .v (f 102), .v (f 103), .v (f 104), .v (f 105), .v (f 106), .v (f 107), .v (f 108), .v (f 109), .v (f 110), .v (f 111), .v (f 112), .v (f 113), .v (f 114), .v (f 115), .v (f 116), .v (f 117), .v (f 118), .v (f 119), .v (f 120), .v (f 121), .v (f 122), .v (f 123), .v (f 124), .v (f 125), .v (f 126), .v (f 127), .v (f 128), .v (f 129), .v (f 130), .v (f 131), .v (f 132), .v (f 133)], memOf []⟩) (fun x => b.length - x.1) ?_ (⟨0, Nat.zero_le _, rfl⟩) ?_
  · rintro ⟨i, hi, hidx⟩ f
    obtain ⟨q, h_q⟩ : ∃ q, decide ((i : Int) < (b.length : Int)) = q := ⟨_, rfl⟩
    change VOk _ _ _ _ _
    refine vseq ?_
    refine vseq ?_
    apply vrp
    · apply VE.cons
      · exact ev_move rfl (gn rfl)
      simp only [nm, seval]
      apply VE.cons
      · exact ev_move rfl (gn rfl)
      simp only [nm, seval]
      apply VE.cons
      · exact ev_lss rfl (gn rfl) rfl rfl h_q
      simp only [nm, seval]
      exact VE.nil _
    · kernel_rfl
    change VOk _ _ _ _ _
    cases q
    · refine vcond_f rfl ?_
      have hge : b.length ≤ i := by have := of_decide_eq_false h_q; omega
      rw [List.drop_eq_nil_of_le hge] at hidx
      refine vexit ?_
      change VOk _ _ _ _ _
      refine vseq ?_
      apply vrp
      · apply VE.cons
        · exact ev_assign rfl (gn rfl)
        simp only [nm, seval]
        exact VE.nil _
      · kernel_rfl
      change VOk _ _ _ _ _
      refine vret ?_
      refine post_ret (res1 Tryd.results36 (rv_tmp rfl)) ?_
      intro ρ w' hr
      (first | (refine ⟨?_, hr.1⟩; unfold plainT; rw [hidx, drop_get hk, List.any_cons]; unfold plainB; rw [h_q2, h_q3]; rfl) | (refine ⟨?_, hr.1⟩; unfold plainT; rw [hidx]; rfl))
    · refine vcond_t rfl ?_
      have hlt : i < b.length := by have := of_decide_eq_true h_q; omega
      obtain ⟨c, hk⟩ := get_some hlt
      have hc8 := h8 c (List.mem_of_getElem? hk)
      obtain ⟨q2, h_q2⟩ : ∃ q2, decide (c < 32) = q2 := ⟨_, rfl⟩
      obtain ⟨q3, h_q3⟩ : ∃ q3, decide (c > 126) = q3 := ⟨_, rfl⟩
      have h_q2' := (nat_lt c 32).trans h_q2
      have h_q3' := (nat_gt c 126).trans h_q3
      cases q2 <;> cases q3 <;>
      (
        refine vskip ?_
        change VOk _ _ _ _ _
        refine vseq ?_
        refine vblock ?_
        refine vseq ?_
        apply vrp
        · apply VE.cons
          · exact ev_move rfl (gn rfl)
          simp only [nm, seval]
          apply VE.cons
          · exact ev_move rfl (gn rfl)
          simp only [nm, seval]
          apply VE.cons
          · exact ev_idxb (k := i) rfl (gn rfl) rfl rfl Tryd.underlying9 (hk) (hc8)
          simp only [nm, seval]
          apply VE.cons
          · exact ev_lss5 rfl (gn rfl) rfl rfl h_q2'
          simp only [nm, seval]
          apply VE.cons
          · exact ev_move rfl (gn rfl)
          simp only [nm, seval]
          apply VE.cons
          · first | exact Ev.skip (fun _ => rfl) | exact ev_move rfl (fun _ => rfl)
          simp only [nm, seval]
          apply VE.cons
          · first | exact Ev.skip (fun _ => rfl) | exact ev_move rfl (fun _ => rfl)
          simp only [nm, seval]
          apply VE.cons
          · first | exact Ev.skip (fun _ => rfl) | exact ev_idxb (k := i) rfl (fun _ => rfl) rfl rfl Tryd.underlying9 (hk) (hc8)
          simp only [nm, seval]
          apply VE.cons
          · first | exact Ev.skip (fun _ => rfl) | exact ev_gtr rfl (fun _ => rfl) rfl rfl h_q3'
          simp only [nm, seval]
          apply VE.cons
          · first | exact ev_pick_t rfl (gn rfl) rfl rfl | exact ev_pick_f rfl (gn rfl) rfl rfl
          simp only [nm, seval]
          exact VE.nil _
        · kernel_rfl
        change VOk _ _ _ _ _
        first
        | (
            refine vcond_t rfl ?_
            refine vseq ?_
            apply vrp
            · apply VE.cons
              · exact ev_assign rfl (gn rfl)
              simp only [nm, seval]
              exact VE.nil _
            · kernel_rfl
            change VOk _ _ _ _ _
            refine vret ?_
            refine post_ret (res1 Tryd.results36 (rv_tmp rfl)) ?_
            intro ρ w' hr
            (first | (refine ⟨?_, hr.1⟩; unfold plainT; rw [hidx, drop_get hk, List.any_cons]; unfold plainB; rw [h_q2, h_q3]; rfl) | (refine ⟨?_, hr.1⟩; unfold plainT; rw [hidx]; rfl))
          )
        | (
            refine vcond_f rfl ?_
            refine vskip ?_
            change VOk _ _ _ _ _
            apply vrp
            · apply VE.cons
              · exact ev_move rfl (gn rfl)
              simp only [nm, seval]
              apply VE.cons
              · exact ev_add (c := ((i + 1 : Nat) : Int)) rfl (gn rfl) rfl rfl (by rw [i64w (by omega) (by omega)]; omega)
              simp only [nm, seval]
              apply VE.cons
              · exact ev_assign rfl (gn rfl)
              simp only [nm, seval]
              exact VE.nil _
            · kernel_rfl
            refine ⟨⟨i + 1, by omega, by rw [hidx, drop_get hk, List.any_cons]; unfold plainB; rw [h_q2, h_q3]; rfl⟩, by show b.length - (i + 1) < b.length - i; omega, ?_⟩
            exact weaker_forget (fun i => i == 0 || i == 1 || i == 4 || i == 5 || i == 7) []
          )
      )
  · exact weaker_forget (fun i => i == 0 || i == 1 || i == 4 || i == 5 || i == 7) []
theorem rbody_6 {b : List Nat} (h8 : ∀ x ∈ b, x < 256) (hm : b.length ≤ 1048576) (w : World) : Calls Tryd.prog 36 #[.int .i64 6, .string (bstr b)] w fun e w' => e = .returned (.bool (oidT b)) ∧ Bw w w' := by
  obtain ⟨p1, h_p1⟩ : ∃ p, decide (b.length = 0) = p := ⟨_, rfl⟩
  obtain ⟨p2, h_p2⟩ : ∃ p, decide (lastT b ≥ 128) = p := ⟨_, rfl⟩
  have h_p1' := (nat_eq b.length 0).trans h_p1
  have h_p2' := (nat_ge (lastT b) 128).trans h_p2
  go_enter Tryd.func36, Tryd.ntmps36
  refine ve_go ?_
  simp only [List.map_cons, List.map_nil]
  cases p1 <;> cases p2 <;>
  (
    refine vseq ?_
    apply vrp
    · apply VE.cons
      · exact ev_assign rfl (gn rfl)
      simp only [nm, seval]
      exact VE.nil _
    · kernel_rfl
    change VOk _ _ _ _ _
    refine vseq ?_
    apply vrp
    · apply VE.cons
      · exact ev_move rfl (gn rfl)
      simp only [nm, seval]
      apply VE.cons
      · exact ev_lenb rfl (gn rfl) rfl Tryd.underlying9
      simp only [nm, seval]
      apply VE.cons
      · exact ev_assign rfl (gn rfl)
      simp only [nm, seval]
      exact VE.nil _
    · kernel_rfl
    change VOk _ _ _ _ _
    refine vseq ?_
    refine vseq ?_
    apply vrp
    · apply VE.cons
      · exact ev_move rfl (gn rfl)
      simp only [nm, seval]
      exact VE.nil _
    · kernel_rfl
    change VOk _ _ _ _ _
    refine vblock ?_
    refine vseq ?_
    apply vrp
    · apply VE.cons
      · exact ev_eql (p := false) rfl (gn rfl) rfl rfl (by decide)
      simp only [nm, seval]
      apply VE.cons
      · exact ev_assign rfl (gn rfl)
      simp only [nm, seval]
      exact VE.nil _
    · kernel_rfl
    change VOk _ _ _ _ _
    refine vcond_f rfl ?_
    refine vseq ?_
    apply vrp
    · apply VE.cons
      · exact ev_eql (p := false) rfl (gn rfl) rfl rfl (by decide)
      simp only [nm, seval]
      apply VE.cons
      · exact ev_assign rfl (gn rfl)
      simp only [nm, seval]
      exact VE.nil _
    · kernel_rfl
    change VOk _ _ _ _ _
    refine vcond_f rfl ?_
    refine vseq ?_
    apply vrp
    · apply VE.cons
      · exact ev_eql (p := false) rfl (gn rfl) rfl rfl (by decide)
      simp only [nm, seval]
      apply VE.cons
      · exact ev_assign rfl (gn rfl)
      simp only [nm, seval]
      exact VE.nil _
    · kernel_rfl
    change VOk _ _ _ _ _
    refine vcond_f rfl ?_
    refine vseq ?_
    apply vrp
    · apply VE.cons
      · exact ev_eql (p := false) rfl (gn rfl) rfl rfl (by decide)
      simp only [nm, seval]
      apply VE.cons
      · exact ev_assign rfl (gn rfl)
      simp only [nm, seval]
      exact VE.nil _
    · kernel_rfl
    change VOk _ _ _ _ _
    refine vcond_f rfl ?_
    refine vseq ?_
    apply vrp
    · apply VE.cons
      · exact ev_eql (p := true) rfl (gn rfl) rfl rfl (by decide)
      simp only [nm, seval]
      apply VE.cons
      · exact ev_assign rfl (gn rfl)
      simp only [nm, seval]
      exact VE.nil _
    · kernel_rfl
    change VOk _ _ _ _ _
    refine vcond_t rfl ?_
    refine vseq ?_
    refine vseq ?_
    apply vrp
    · apply VE.cons
      · exact ev_move rfl (gn rfl)
      simp only [nm, seval]
      apply VE.cons
      · exact ev_eql rfl (gn rfl) rfl rfl h_p1'
      simp only [nm, seval]
      apply VE.cons
      · exact ev_move rfl (gn rfl)
      simp only [nm, seval]
      apply VE.cons
      · first | exact Ev.skip (fun _ => rfl) | exact ev_move rfl (fun _ => rfl)
      simp only [nm, seval]
      apply VE.cons
      · first | exact Ev.skip (fun _ => rfl) | exact ev_move rfl (fun _ => rfl)
      simp only [nm, seval]
      apply VE.cons
      · first | exact Ev.skip (fun _ => rfl) | exact ev_sub (c := ((b.length - 1 : Nat) : Int)) rfl (fun _ => rfl) rfl rfl (by have := of_decide_eq_false h_p1; rw [i64w (by omega) (by omega)]; omega)
      simp only [nm, seval]
      apply VE.cons
      · first | exact Ev.skip (fun _ => rfl) | exact ev_idxb (k := b.length - 1) rfl (fun _ => rfl) rfl rfl Tryd.underlying9 (getD_get (by have := of_decide_eq_false h_p1; omega)) (h8 _ (List.mem_of_getElem? (getD_get (by have := of_decide_eq_false h_p1; omega))))
      simp only [nm, seval]
      apply VE.cons
      · first | exact Ev.skip (fun _ => rfl) | exact ev_geq5 rfl (fun _ => rfl) rfl rfl h_p2'
      simp only [nm, seval]
      apply VE.cons
      · first | exact ev_pick_t rfl (gn rfl) rfl rfl | exact ev_pick_f rfl (gn rfl) rfl rfl
      simp only [nm, seval]
      exact VE.nil _
    · kernel_rfl
    change VOk _ _ _ _ _
    first
    | (
        refine vcond_t rfl ?_
        refine vseq ?_
        apply vrp
        · apply VE.cons
          · exact ev_assign rfl (gn rfl)
          simp only [nm, seval]
          exact VE.nil _
        · kernel_rfl
        change VOk _ _ _ _ _
        refine vret ?_
        refine post_ret (res1 Tryd.results36 (rv_tmp rfl)) ?_
        intro ρ w' hr
        (first | (refine ⟨?_, hr.1⟩; rw [oid_no (by first | exact .inl (of_decide_eq_true h_p1) | exact .inr (of_decide_eq_true h_p2))]; rfl) | (refine ⟨?_, hr.1⟩; rw [show oidT b = false by unfold oidT; rw [hgo, drop_get hk, oidGo_t (by unfold begT; rw [h_q2, h_q3, h_q4]; rfl)]]; rfl) | (refine ⟨?_, hr.1⟩; rw [oid_yes (hgo.trans rfl) (of_decide_eq_false h_p1) (by have := of_decide_eq_false h_p2; unfold lastT at *; omega)]; rfl))
      )
    | (
        refine vcond_f rfl ?_
        refine vskip ?_
        change VOk _ _ _ _ _
        refine vseq ?_
        refine vseq ?_
        apply vrp
        · apply VE.cons
          · exact ev_assign rfl (gn rfl)
          simp only [nm, seval]
          exact VE.nil _
        · kernel_rfl
        change VOk _ _ _ _ _
        refine vblock ?_
        refine vloop_w (α := {i : Nat // i ≤ b.length ∧ oidGo true b = oidGo (begT b i) (b.drop i)}) (fun (x : {i : Nat // i ≤ b.length ∧ oidGo true b = oidGo (begT b i) (b.drop i)}) f => ⟨[.v (.int .i64 6), .v (.string (bstr b)), .v (f 2), .v (f 3), .v (.bool false), .v (.int .i64 (b.length : Nat)), .v (.int .i64 (x.1 : Nat)), .v (f 7), .v (f 8), .v (f 9), .v (f 10), .v (f 11), .v (f 12), .v (f 13), .v (f 14), .v (f 15), .v (f 16), .v (f 17), .v (f 18), .v (f 19), .v (f 20), .v (f 21), .v (f 22), .v (f 23), .v (f 24), .v (f 25), .v (f 26), .v (f 27), .v (f 28), .v (f 29), .v (f 30), .v (f 31), .v (f 32), .v (f 33), .v (f 34), .v (f 35), .v (f 36), .v (f 37), .v (f 38), .v (f 39), .v (f 40), .v (f 41), .v (f 42), .v (f 43), .v (f 44), .v (f 45), .v (f 46), .v (f 47), .v (f 48), .v (f 49), .v (f 50), .v (f 51), .v (f 52), .v (f 53), .v (f 54), .v (f 55), .v (f 56), .v (f 57), .v (f 58), .v (f 59), .v (f 60), .v (f 61), .v (f 62), .v (f 63), .v (f 64), .v (f 65), .v (f 66), .v (f 67), .v (f 68), .v (f 69), .v (f 70), .v (f 71), .v (f 72), .v (f 73), .v (f 74), .v (f 75), .v (f 76), .v (f 77), .v (f 78), .v (f 79), .v (f 80), .v (f 81), .v (f 82), .v (f 83), .v (f 84), .v (f 85), .v (f 86), .v (f 87), .v (f 88), .v (f 89), .v (f 90), .v (f 91), .v (f 92), .v (f 93), .v (f 94), .v (f 95), .v (f 96), .v (f 97), .v (f 98), .v (f 99), .v (f 100), .v (f 101), .v (f 102), .v (f 103), .v (f 104), .v (f 105), .v (f 106), .v (f 107), .v (f 108), .v (f 109), .v (f 110), .v (f 111), .v (f 112), .v (f 113), .v (f 114), .v (f 115), .v (f 116), .v (f 117), .v (f 118), .v (f 119), .v (f 120), .v (f 121), .v (f 122), .v (f 123), .v (f 124), .v (f 125), .v (f 126), .v (f 127), .v (f 128), .v (f 129), .v (f 130), .v (f 131), .v (f 132), .v (f 133)], memOf []⟩) (fun x => b.length - x.1) ?_ (⟨0, Nat.zero_le _, rfl⟩) ?_
        · rintro ⟨i, hi, hgo⟩ f
          obtain ⟨q, h_q⟩ : ∃ q, decide ((i : Int) < (b.length : Int)) = q := ⟨_, rfl⟩
          change VOk _ _ _ _ _
          refine vseq ?_
          refine vseq ?_
          apply vrp
          · apply VE.cons
            · exact ev_move rfl (gn rfl)
            simp only [nm, seval]
            apply VE.cons
            · exact ev_move rfl (gn rfl)
            simp only [nm, seval]
            apply VE.cons
            · exact ev_lss rfl (gn rfl) rfl rfl h_q
            simp only [nm, seval]
            exact VE.nil _
          · kernel_rfl
          change VOk _ _ _ _ _
          cases q
          · refine vcond_f rfl ?_
            have hge : b.length ≤ i := by have := of_decide_eq_false h_q; omega
            rw [List.drop_eq_nil_of_le hge] at hgo
            refine vexit ?_
            change VOk _ _ _ _ _
            refine vseq ?_
            apply vrp
            · apply VE.cons
              · exact ev_assign rfl (gn rfl)
              simp only [nm, seval]
              exact VE.nil _
            · kernel_rfl
            change VOk _ _ _ _ _
            refine vret ?_
            refine post_ret (res1 Tryd.results36 (rv_tmp rfl)) ?_
            intro ρ w' hr
            (first | (refine ⟨?_, hr.1⟩; rw [oid_no (by first | exact .inl (of_decide_eq_true h_p1) | exact .inr (of_decide_eq_true h_p2))]; rfl) | (refine ⟨?_, hr.1⟩; rw [show oidT b = false by unfold oidT; rw [hgo, drop_get hk, oidGo_t (by unfold begT; rw [h_q2, h_q3, h_q4]; rfl)]]; rfl) | (refine ⟨?_, hr.1⟩; rw [oid_yes (hgo.trans rfl) (of_decide_eq_false h_p1) (by have := of_decide_eq_false h_p2; unfold lastT at *; omega)]; rfl))
          · refine vcond_t rfl ?_
            have hlt : i < b.length := by have := of_decide_eq_true h_q; omega
            obtain ⟨c, hk⟩ := get_some hlt
            have hc8 := h8 c (List.mem_of_getElem? hk)
            obtain ⟨q2, h_q2⟩ : ∃ q2, decide (i = 0) = q2 := ⟨_, rfl⟩
            obtain ⟨q3, h_q3⟩ : ∃ q3, decide (b.getD (i - 1) 0 < 128) = q3 := ⟨_, rfl⟩
            obtain ⟨q4, h_q4⟩ : ∃ q4, decide (c = 128) = q4 := ⟨_, rfl⟩
            have h_q2' := (nat_eq i 0).trans h_q2
            have h_q3' := (nat_lt (b.getD (i - 1) 0) 128).trans h_q3
            have h_q4' := (nat_eq c 128).trans h_q4
            cases q2 <;> cases q3 <;> cases q4 <;>
            (
              refine vskip ?_
              change VOk _ _ _ _ _
              refine vseq ?_
              refine vblock ?_
              refine vseq ?_
              apply vrp
              · apply VE.cons
                · exact ev_move rfl (gn rfl)
                simp only [nm, seval]
                apply VE.cons
                · exact ev_move rfl (gn rfl)
                simp only [nm, seval]
                apply VE.cons
                · exact ev_idxb (k := i) rfl (gn rfl) rfl rfl Tryd.underlying9 (hk) (hc8)
                simp only [nm, seval]
                apply VE.cons
                · exact ev_eql rfl (gn rfl) rfl rfl h_q4'
                simp only [nm, seval]
                apply VE.cons
                · exact ev_move rfl (gn rfl)
                simp only [nm, seval]
                apply VE.cons
                · first | exact Ev.skip (fun _ => rfl) | exact ev_move rfl (fun _ => rfl)
                simp only [nm, seval]
                apply VE.cons
                · first | exact Ev.skip (fun _ => rfl) | exact ev_eql rfl (fun _ => rfl) rfl rfl h_q2'
                simp only [nm, seval]
                apply VE.cons
                · first | exact Ev.skip (fun _ => rfl) | exact ev_move rfl (fun _ => rfl)
                simp only [nm, seval]
                apply VE.cons
                · first | exact Ev.skip (fun _ => rfl) | exact ev_move rfl (fun _ => rfl)
                simp only [nm, seval]
                apply VE.cons
                · first | exact Ev.skip (fun _ => rfl) | exact ev_move rfl (fun _ => rfl)
                simp only [nm, seval]
                apply VE.cons
                · first | exact Ev.skip (fun _ => rfl) | exact ev_sub (c := ((i - 1 : Nat) : Int)) rfl (fun _ => rfl) rfl rfl (by have := of_decide_eq_false h_q2; rw [i64w (by omega) (by omega)]; omega)
                simp only [nm, seval]
                apply VE.cons
                · first | exact Ev.skip (fun _ => rfl) | exact ev_idxb (k := i - 1) rfl (fun _ => rfl) rfl rfl Tryd.underlying9 (getD_get (by have := of_decide_eq_false h_q2; omega)) (h8 _ (List.mem_of_getElem? (getD_get (by have := of_decide_eq_false h_q2; omega))))
                simp only [nm, seval]
                apply VE.cons
                · first | exact Ev.skip (fun _ => rfl) | exact ev_lss5 rfl (fun _ => rfl) rfl rfl h_q3'
                simp only [nm, seval]
                apply VE.cons
                · first | exact Ev.skip (fun _ => rfl) | exact ev_pick_t rfl (fun _ => rfl) rfl rfl | exact ev_pick_f rfl (fun _ => rfl) rfl rfl
                simp only [nm, seval]
                apply VE.cons
                · first | exact ev_pick_t rfl (gn rfl) rfl rfl | exact ev_pick_f rfl (gn rfl) rfl rfl
                simp only [nm, seval]
                exact VE.nil _
              · kernel_rfl
              change VOk _ _ _ _ _
              first
              | (
                  refine vcond_t rfl ?_
                  refine vseq ?_
                  apply vrp
                  · apply VE.cons
                    · exact ev_assign rfl (gn rfl)
                    simp only [nm, seval]
                    exact VE.nil _
                  · kernel_rfl
                  change VOk _ _ _ _ _
                  refine vret ?_
                  refine post_ret (res1 Tryd.results36 (rv_tmp rfl)) ?_
                  intro ρ w' hr
                  (first | (refine ⟨?_, hr.1⟩; rw [oid_no (by first | exact .inl (of_decide_eq_true h_p1) | exact .inr (of_decide_eq_true h_p2))]; rfl) | (refine ⟨?_, hr.1⟩; rw [show oidT b = false by unfold oidT; rw [hgo, drop_get hk, oidGo_t (by unfold begT; rw [h_q2, h_q3, h_q4]; rfl)]]; rfl) | (refine ⟨?_, hr.1⟩; rw [oid_yes (hgo.trans rfl) (of_decide_eq_false h_p1) (by have := of_decide_eq_false h_p2; unfold lastT at *; omega)]; rfl))
                )
              | (
                  refine vcond_f rfl ?_
                  refine vskip ?_
                  change VOk _ _ _ _ _
                  apply vrp
                  · apply VE.cons
                    · exact ev_move rfl (gn rfl)
                    simp only [nm, seval]
                    apply VE.cons
                    · exact ev_add (c := ((i + 1 : Nat) : Int)) rfl (gn rfl) rfl rfl (by rw [i64w (by omega) (by omega)]; omega)
                    simp only [nm, seval]
                    apply VE.cons
                    · exact ev_assign rfl (gn rfl)
                    simp only [nm, seval]
                    exact VE.nil _
                  · kernel_rfl
                  refine ⟨⟨i + 1, by omega, by rw [hgo, drop_get hk, beg_next hk, oidGo_f (by unfold begT; rw [h_q2, h_q3, h_q4]; rfl)]⟩, by show b.length - (i + 1) < b.length - i; omega, ?_⟩
                  exact weaker_forget (fun i => i == 0 || i == 1 || i == 4 || i == 5 || i == 6) []
                )
            )
        · exact weaker_forget (fun i => i == 0 || i == 1 || i == 4 || i == 5 || i == 6) []
      )
  )
end Go.Proofs.YtmgmiiongleaeaaDoor
