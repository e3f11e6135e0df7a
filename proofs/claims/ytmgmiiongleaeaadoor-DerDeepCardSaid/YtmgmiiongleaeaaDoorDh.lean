import Derived.Test.YtmgmiiongleaeaaDoorDg
import Derived.Lib.BufferMore
namespace Go.Proofs.YtmgmiiongleaeaaDoor
open Go.RowKit Go.Vx
open Go.Toll (Gw)
set_option maxHeartbeats 4000000
set_option maxRecDepth 100000
def n8 (n : Nat) : Nat := n % 256
theorem cvu8 (n : Nat) (w : World) : (convert 3 5 (.int .i64 (n : Nat))).run Tryd.prog w = .ok (.int .u8 ((n8 n : Nat) : Int)) w := by
  unfold convert
  go_simp
  rw [IntKind.wrap_u8']; rfl
def tb (t : Int) : Nat := (t % 256).toNat
theorem cvt8 (t : Int) (w : World) : (convert 3 5 (.int .i64 t)).run Tryd.prog w = .ok (.int .u8 ((tb t : Nat) : Int)) w := by
  unfold convert
  go_simp
  rw [IntKind.wrap_u8']; unfold tb; omega
def hb (n k : Nat) : Nat := n / 2 ^ k
theorem shr_8 (n : Nat) (_hn : n < 9223372036854775808) (p q : Operand) (w : World) : (do eqGuard .shr 3 p q (.int .i64 (n : Nat)) (.int .u64 8); binOp .shr 3 (.int .i64 (n : Nat)) (.int .u64 8) : Sem Value).run Tryd.prog w = .ok (.int .i64 ((hb n 8 : Nat) : Int)) w := by
  go_simp
  unfold hb
  try rfl
theorem shr_16 (n : Nat) (_hn : n < 9223372036854775808) (p q : Operand) (w : World) : (do eqGuard .shr 3 p q (.int .i64 (n : Nat)) (.int .u64 16); binOp .shr 3 (.int .i64 (n : Nat)) (.int .u64 16) : Sem Value).run Tryd.prog w = .ok (.int .i64 ((hb n 16 : Nat) : Int)) w := by
  go_simp
  unfold hb
  try rfl
def countD (n : Nat) : List Nat := bif decide (n < 128) then [n8 n] else bif decide (n < 256) then [129, n8 n] else bif decide (n < 65536) then [130, n8 (hb n 8), n8 n] else [131, n8 (hb n 16), n8 (hb n 8), n8 n]
theorem eqnil_t (n c : Nat) (p q : Operand) (w : World) : (do eqGuard .eql 26 p q (.slice none n c) (.slice none 0 0); binOp .eql 26 (.slice none n c) (.slice none 0 0) : Sem Value).run Tryd.prog w = .ok (.bool true) w := by
  go_simp
  exact Go.Lib.run_eql_slice_nil_nil w n c Tryd.underlying26
theorem eqnil_f (a : Addr) (n c : Nat) (p q : Operand) (w : World) : (do eqGuard .eql 26 p q (.slice (some a) n c) (.slice none 0 0); binOp .eql 26 (.slice (some a) n c) (.slice none 0 0) : Sem Value).run Tryd.prog w = .ok (.bool false) w := by
  go_simp
  exact Go.Lib.run_eql_slice_some_nil w a n c Tryd.underlying26
theorem sl_nil (w : World) : SlAt w (.slice none 0 0) 0 1 [] (fun _ => False) := ⟨none, 0, rfl, Nat.le_refl _, rfl, .inl rfl⟩
theorem b8_all (bs : List Nat) : (bs.map b8).all (·.oneCell') = true := by
  rw [List.all_map]; exact List.all_eq_true.2 fun _ _ => rfl
theorem count_ok (n : Nat) (hn : n < 9223372036854775808) (w : World) : Calls Tryd.prog 47 #[.int .i64 (n : Nat)] w fun e w' => ∃ v, e = .returned v ∧ RetRow w w' v ((countD n).length) 1 5 ((countD n).map b8) ∧ Bw w w' := by
  unfold countD
  obtain ⟨q1, h_q1⟩ : ∃ p, decide (n < 128) = p := ⟨_, rfl⟩
  obtain ⟨q2, h_q2⟩ : ∃ p, decide (n < 256) = p := ⟨_, rfl⟩
  obtain ⟨q3, h_q3⟩ : ∃ p, decide (n < 65536) = p := ⟨_, rfl⟩
  rw [h_q1, h_q2, h_q3]
  have h_q1' := (nat_lt n 128).trans h_q1
  have h_q2' := (nat_lt n 256).trans h_q2
  have h_q3' := (nat_lt n 65536).trans h_q3
  go_enter Tryd.func47, Tryd.ntmps47
  refine ve_go ?_
  simp only [List.map_cons, List.map_nil]
  refine vseq ?_
  apply vrp
  · apply VE.cons
    · exact ev_assign rfl (gn rfl)
    simp only [nm, seval]
    exact VE.nil _
  · kernel_rfl
  change VOk _ _ _ _ _
  refine vseq ?_
  refine vblock ?_
  refine vseq ?_
  apply vrp
  · apply VE.cons
    · exact ev_move rfl (gn rfl)
    simp only [nm, seval]
    apply VE.cons
    · exact ev_lss5 rfl (gn rfl) rfl rfl h_q1'
    simp only [nm, seval]
    apply VE.cons
    · exact ev_assign rfl (gn rfl)
    simp only [nm, seval]
    exact VE.nil _
  · kernel_rfl
  change VOk _ _ _ _ _
  cases q1
  · refine vcond_f rfl ?_
    refine vseq ?_
    apply vrp
    · apply VE.cons
      · exact ev_move rfl (gn rfl)
      simp only [nm, seval]
      apply VE.cons
      · exact ev_lss5 rfl (gn rfl) rfl rfl h_q2'
      simp only [nm, seval]
      apply VE.cons
      · exact ev_assign rfl (gn rfl)
      simp only [nm, seval]
      exact VE.nil _
    · kernel_rfl
    change VOk _ _ _ _ _
    cases q2
    · refine vcond_f rfl ?_
      refine vseq ?_
      apply vrp
      · apply VE.cons
        · exact ev_move rfl (gn rfl)
        simp only [nm, seval]
        apply VE.cons
        · exact ev_lss5 rfl (gn rfl) rfl rfl h_q3'
        simp only [nm, seval]
        apply VE.cons
        · exact ev_assign rfl (gn rfl)
        simp only [nm, seval]
        exact VE.nil _
      · kernel_rfl
      change VOk _ _ _ _ _
      cases q3
      · refine vcond_f rfl ?_
        refine vskip ?_
        change VOk _ _ _ _ _
        refine vseq ?_
        apply vrp
        · apply VE.cons
          · exact ev_move rfl (gn rfl)
          simp only [nm, seval]
          apply VE.cons
          · exact ev_bin rfl (gn rfl) rfl rfl (fun w => shr_16 _ hn _ _ w)
          simp only [nm, seval]
          apply VE.cons
          · exact ev_conv rfl (gn rfl) rfl (fun w => cvu8 _ w)
          simp only [nm, seval]
          apply VE.cons
          · exact ev_move rfl (gn rfl)
          simp only [nm, seval]
          apply VE.cons
          · exact ev_bin rfl (gn rfl) rfl rfl (fun w => shr_8 _ hn _ _ w)
          simp only [nm, seval]
          apply VE.cons
          · exact ev_conv rfl (gn rfl) rfl (fun w => cvu8 _ w)
          simp only [nm, seval]
          apply VE.cons
          · exact ev_move rfl (gn rfl)
          simp only [nm, seval]
          apply VE.cons
          · exact ev_conv rfl (gn rfl) rfl (fun w => cvu8 _ w)
          simp only [nm, seval]
          apply VE.cons
          · exact ev_buildslice rfl rfl (gn rfl) rfl (e := 5) (l := [b8 (131), b8 (n8 (hb n 16)), b8 (n8 (hb n 8)), b8 (n8 n)]) rfl (by decide) (fun _ => by kernel_rfl)
          simp only [nm, seval]
          apply VE.cons
          · exact ev_assign rfl (gn rfl)
          simp only [nm, seval]
          exact VE.nil _
        · kernel_rfl
        change VOk _ _ _ _ _
        refine vret ?_
        refine post_ret (res1 Tryd.results47 (rv_tmp rfl)) ?_
        intro ρ w' hr
        exact ⟨_, rfl, ret_row hr rfl, hr.1⟩
      · refine vcond_t rfl ?_
        refine vseq ?_
        apply vrp
        · apply VE.cons
          · exact ev_move rfl (gn rfl)
          simp only [nm, seval]
          apply VE.cons
          · exact ev_bin rfl (gn rfl) rfl rfl (fun w => shr_8 _ hn _ _ w)
          simp only [nm, seval]
          apply VE.cons
          · exact ev_conv rfl (gn rfl) rfl (fun w => cvu8 _ w)
          simp only [nm, seval]
          apply VE.cons
          · exact ev_move rfl (gn rfl)
          simp only [nm, seval]
          apply VE.cons
          · exact ev_conv rfl (gn rfl) rfl (fun w => cvu8 _ w)
          simp only [nm, seval]
          apply VE.cons
          · exact ev_buildslice rfl rfl (gn rfl) rfl (e := 5) (l := [b8 (130), b8 (n8 (hb n 8)), b8 (n8 n)]) rfl (by decide) (fun _ => by kernel_rfl)
          simp only [nm, seval]
          apply VE.cons
          · exact ev_assign rfl (gn rfl)
          simp only [nm, seval]
          exact VE.nil _
        · kernel_rfl
        change VOk _ _ _ _ _
        refine vret ?_
        refine post_ret (res1 Tryd.results47 (rv_tmp rfl)) ?_
        intro ρ w' hr
        exact ⟨_, rfl, ret_row hr rfl, hr.1⟩
    · refine vcond_t rfl ?_
      refine vseq ?_
      apply vrp
      · apply VE.cons
        · exact ev_move rfl (gn rfl)
        simp only [nm, seval]
        apply VE.cons
        · exact ev_conv rfl (gn rfl) rfl (fun w => cvu8 _ w)
        simp only [nm, seval]
        apply VE.cons
        · exact ev_buildslice rfl rfl (gn rfl) rfl (e := 5) (l := [b8 (129), b8 (n8 n)]) rfl (by decide) (fun _ => by kernel_rfl)
        simp only [nm, seval]
        apply VE.cons
        · exact ev_assign rfl (gn rfl)
        simp only [nm, seval]
        exact VE.nil _
      · kernel_rfl
      change VOk _ _ _ _ _
      refine vret ?_
      refine post_ret (res1 Tryd.results47 (rv_tmp rfl)) ?_
      intro ρ w' hr
      exact ⟨_, rfl, ret_row hr rfl, hr.1⟩
  · refine vcond_t rfl ?_
    refine vseq ?_
    apply vrp
    · apply VE.cons
      · exact ev_move rfl (gn rfl)
      simp only [nm, seval]
      apply VE.cons
      · exact ev_conv rfl (gn rfl) rfl (fun w => cvu8 _ w)
      simp only [nm, seval]
      apply VE.cons
      · exact ev_buildslice rfl rfl (gn rfl) rfl (e := 5) (l := [b8 (n8 n)]) rfl (by decide) (fun _ => by kernel_rfl)
      simp only [nm, seval]
      apply VE.cons
      · exact ev_assign rfl (gn rfl)
      simp only [nm, seval]
      exact VE.nil _
    · kernel_rfl
    change VOk _ _ _ _ _
    refine vret ?_
    refine post_ret (res1 Tryd.results47 (rv_tmp rfl)) ?_
    intro ρ w' hr
    exact ⟨_, rfl, ret_row hr rfl, hr.1⟩
theorem clone_n {n c : Nat} (w : World) : Calls Tryd.prog 45 #[.slice none n c] w fun e w' => ∃ v, e = .returned v ∧ RetRow w w' v (0) 1 5 ([]) ∧ Bw w w' := by
  go_enter Tryd.func45, Tryd.ntmps45
  refine ve_go ?_
  simp only [List.map_cons, List.map_nil]
  refine vseq ?_
  apply vrp
  · apply VE.cons
    · exact ev_assign rfl (gn rfl)
    simp only [nm, seval]
    exact VE.nil _
  · kernel_rfl
  change VOk _ _ _ _ _
  refine vseq ?_
  refine vseq ?_
  apply vrp
  · apply VE.cons
    · exact ev_move rfl (gn rfl)
    simp only [nm, seval]
    apply VE.cons
    · exact ev_bin (c := .bool true) rfl (gn rfl) rfl rfl (fun w => eqnil_t _ _ _ _ w)
    simp only [nm, seval]
    exact VE.nil _
  · kernel_rfl
  change VOk _ _ _ _ _
  refine vcond_t rfl ?_
  refine vseq ?_
  apply vrp
  · apply VE.cons
    · exact ev_assign rfl (gn rfl)
    simp only [nm, seval]
    exact VE.nil _
  · kernel_rfl
  change VOk _ _ _ _ _
  refine vret ?_
  refine post_ret (res1 Tryd.results45 (rv_tmp rfl)) ?_
  intro ρ w' hr
  exact ⟨_, rfl, ret_nil _ _ _ _, hr.1⟩
theorem clone_s {a : Addr} {n c : Nat} {bs : List Nat} {S : Nat → Prop} (w : World) (hv : SlAt w (.slice (some a) n c) bs.length 1 (bs.map b8) S) (hm : bs.length ≤ 1073741824) : Calls Tryd.prog 45 #[.slice (some a) n c] w fun e w' => ∃ v, e = .returned v ∧ RetRow w w' v (bs.length) 1 5 (bs.map b8) ∧ Bw w w' := by
  go_enter Tryd.func45, Tryd.ntmps45
  refine ve_go ?_
  simp only [List.map_cons, List.map_nil]
  refine vseq ?_
  apply vrp
  · apply VE.cons
    · exact ev_assign rfl (gn rfl)
    simp only [nm, seval]
    exact VE.nil _
  · kernel_rfl
  change VOk _ _ _ _ _
  refine vseq ?_
  refine vseq ?_
  apply vrp
  · apply VE.cons
    · exact ev_move rfl (gn rfl)
    simp only [nm, seval]
    apply VE.cons
    · exact ev_bin (c := .bool false) rfl (gn rfl) rfl rfl (fun w => eqnil_f _ _ _ _ _ w)
    simp only [nm, seval]
    exact VE.nil _
  · kernel_rfl
  change VOk _ _ _ _ _
  refine vcond_f rfl ?_
  refine vskip ?_
  change VOk _ _ _ _ _
  refine vseq ?_
  apply vrp
  · apply VE.cons
    · exact ev_buildslice rfl rfl (gn rfl) rfl (e := 5) (l := []) rfl (by decide) (fun _ => by kernel_rfl)
    simp only [nm, seval]
    apply VE.cons
    · exact ev_move rfl (gn rfl)
    simp only [nm, seval]
    apply VE.cons
    · exact ev_append rfl rfl (gn rfl) rfl rfl rfl (rdg_arg hv) Tryd.underlying26 el5 (by decide) rfl (b8_all bs) (by simp only [maxLen]; omega) (by omega) (by simp)
    simp only [nm, seval]
    apply VE.cons
    · exact ev_assign rfl (gn rfl)
    simp only [nm, seval]
    exact VE.nil _
  · kernel_rfl
  change VOk _ _ _ _ _
  refine vret ?_
  refine post_ret (res1 Tryd.results45 (rv_tmp rfl)) ?_
  intro ρ w' hr
  exact ⟨_, rfl, ret_row (id := 7) hr rfl, hr.1⟩
theorem clone_ok {v : Value} {bs : List Nat} {S : Nat → Prop} (w : World) (hv : SlAt w v bs.length 1 (bs.map b8) S) (hm : bs.length ≤ 1073741824) : Calls Tryd.prog 45 #[v] w fun e w' => ∃ v, e = .returned v ∧ RetRow w w' v (bs.length) 1 5 (bs.map b8) ∧ Bw w w' := by
  have hv' := hv
  obtain ⟨ao, cap, rfl, h1, h2, h3⟩ := hv'
  cases ao with
  | none =>
    have : bs = [] := by
      rcases h3 with h3 | ⟨a, h3, _⟩
      · simpa using h3
      · cases h3
    subst this
    exact clone_n w
  | some a => exact clone_s w hv hm
theorem grow_ok (n : Nat) (hn : n ≤ 140737488355328) (w : World) : Calls Tryd.prog 56 #[.slice none 0 0, .int .i64 (n : Nat)] w fun e w' => ∃ v, e = .returned v ∧ RetRow w w' v (0) 1 5 ([]) ∧ Bw w w' := by
  obtain ⟨q, h_q⟩ : ∃ p, decide (n > 0) = p := ⟨_, rfl⟩
  have h_q' := (nat_gt n 0).trans h_q
  go_enter Tryd.func56, Tryd.ntmps56
  refine ve_go ?_
  simp only [List.map_cons, List.map_nil]
  refine vseq ?_
  apply vrp
  · apply VE.cons
    · exact ev_assign rfl (gn rfl)
    simp only [nm, seval]
    exact VE.nil _
  · kernel_rfl
  change VOk _ _ _ _ _
  refine vseq ?_
  refine vseq ?_
  apply vrp
  · apply VE.cons
    · exact ev_move rfl (gn rfl)
    simp only [nm, seval]
    apply VE.cons
    · exact ev_lss5 (p := false) rfl (gn rfl) rfl rfl (decide_eq_false (by omega))
    simp only [nm, seval]
    exact VE.nil _
  · kernel_rfl
  change VOk _ _ _ _ _
  refine vcond_f rfl ?_
  refine vskip ?_
  change VOk _ _ _ _ _
  refine vseq ?_
  refine vseq ?_
  apply vrp
  · apply VE.cons
    · exact ev_move rfl (gn rfl)
    simp only [nm, seval]
    apply VE.cons
    · exact ev_move rfl (gn rfl)
    simp only [nm, seval]
    apply VE.cons
    · refine ev_pure' (gn rfl) (fun ρ w => by simp only [VS.act, SV.c, List.map_cons, List.map_nil]; go_simp; exact rfl) (fun _ _ => rfl)
    simp only [nm, seval]
    apply VE.cons
    · exact ev_move rfl (gn rfl)
    simp only [nm, seval]
    apply VE.cons
    · exact ev_len rfl (gn rfl) rfl Tryd.underlying26 (rdg_arg (sl_nil w))
    simp only [nm, seval]
    apply VE.cons
    · exact ev_sub (c := 0) rfl (gn rfl) rfl rfl rfl
    simp only [nm, seval]
    apply VE.cons
    · exact ev_sub (c := ((n : Nat) : Int)) rfl (gn rfl) rfl rfl (by rw [i64w (by omega) (by omega)]; omega)
    simp only [nm, seval]
    apply VE.cons
    · exact ev_assign rfl (gn rfl)
    simp only [nm, seval]
    exact VE.nil _
  · kernel_rfl
  change VOk _ _ _ _ _
  refine vseq ?_
  apply vrp
  · apply VE.cons
    · exact ev_move rfl (gn rfl)
    simp only [nm, seval]
    apply VE.cons
    · exact ev_gtr rfl (gn rfl) rfl rfl h_q'
    simp only [nm, seval]
    exact VE.nil _
  · kernel_rfl
  change VOk _ _ _ _ _
  cases q
  · refine vcond_f rfl ?_
    refine vskip ?_
    change VOk _ _ _ _ _
    refine vseq ?_
    apply vrp
    · apply VE.cons
      · exact ev_move rfl (gn rfl)
      simp only [nm, seval]
      apply VE.cons
      · exact ev_assign rfl (gn rfl)
      simp only [nm, seval]
      exact VE.nil _
    · kernel_rfl
    change VOk _ _ _ _ _
    refine vret ?_
    refine post_ret (res1 Tryd.results56 (rv_tmp rfl)) ?_
    intro ρ w' hr
    (first | exact ⟨_, rfl, ret_nil _ _ _ _, hr.1⟩ | exact ⟨_, rfl, ret_row hr rfl, hr.1⟩)
  · refine vcond_t rfl ?_
    apply vrp
    · apply VE.cons
      · exact ev_move rfl (gn rfl)
      simp only [nm, seval]
      apply VE.cons
      · exact ev_move rfl (gn rfl)
      simp only [nm, seval]
      apply VE.cons
      · refine ev_pure' (gn rfl) (fun ρ w => by simp only [VS.act, SV.c, List.map_cons, List.map_nil]; go_simp; exact rfl) (fun _ _ => rfl)
      simp only [nm, seval]
      apply VE.cons
      · exact ev_cutx (a := 0) (b := 0) rfl (gn rfl) rfl Tryd.underlying26 Tryd.sizeOf5 (rdg_arg (sl_nil w)) rfl rfl (by decide) (by decide) rfl
      simp only [nm, seval]
      apply VE.cons
      · exact ev_move rfl (gn rfl)
      simp only [nm, seval]
      apply VE.cons
      · exact ev_appendmake rfl rfl (gn rfl) rfl rfl Tryd.underlying26 Tryd.underlying3 el5 Tryd.zeroValue5 rfl (by have := of_decide_eq_true h_q; omega) hn
      simp only [nm, seval]
      apply VE.cons
      · exact ev_move rfl (gn rfl)
      simp only [nm, seval]
      apply VE.cons
      · exact ev_len rfl (gn rfl) rfl Tryd.underlying26 (rdg_arg (sl_nil w))
      simp only [nm, seval]
      apply VE.cons
      · exact ev_cutrow (b := 0) rfl rfl (gn rfl) rfl rfl Tryd.underlying26 Tryd.sizeOf5 rfl rfl (Nat.zero_le _) rfl (by simp)
      simp only [nm, seval]
      apply VE.cons
      · exact ev_assign rfl (gn rfl)
      simp only [nm, seval]
      exact VE.nil _
    · kernel_rfl
    change VOk _ _ _ _ _
    refine vseq ?_
    apply vrp
    · apply VE.cons
      · exact ev_move rfl (gn rfl)
      simp only [nm, seval]
      apply VE.cons
      · exact ev_assign rfl (gn rfl)
      simp only [nm, seval]
      exact VE.nil _
    · kernel_rfl
    change VOk _ _ _ _ _
    refine vret ?_
    refine post_ret (res1 Tryd.results56 (rv_tmp rfl)) ?_
    intro ρ w' hr
    (first | exact ⟨_, rfl, ret_nil _ _ _ _, hr.1⟩ | exact ⟨_, rfl, ret_row hr rfl, hr.1⟩)
end Go.Proofs.YtmgmiiongleaeaaDoor
