import Derived.Test.YtmgmiiongleaeaaDoorEb
namespace Go.Proofs.YtmgmiiongleaeaaDoor
open Go.RowKit Go.Vx
open Go.Toll (Gw)
set_option maxHeartbeats 4000000
set_option maxRecDepth 100000
/-- a number of 64 bits, without its sign. -/
def unsg (c : Int) : Nat := (c % 18446744073709551616).toNat
theorem cv361 (c : Int) (w : World) : (convert 3 61 (.int .i64 c)).run Tryd.prog w = .ok (.int .u64 ((unsg c : Nat) : Int)) w := by
  unfold convert unsg
  go_simp
  rw [IntKind.wrap_u64]; omega
theorem cv613 {x : Nat} (hx : x < 9223372036854775808) (w : World) : (convert 61 3 (.int .u64 (x : Nat))).run Tryd.prog w = .ok (.int .i64 ((x : Nat) : Int)) w := by
  unfold convert
  go_simp
  exact i64w (by omega) (by omega)
theorem rem61 (x m : Nat) (hm : 0 < m) (a b : Operand) (w : World) : (do eqGuard .rem 61 a b (.int .u64 (x : Nat)) (.int .u64 (m : Nat)); binOp .rem 61 (.int .u64 (x : Nat)) (.int .u64 (m : Nat)) : Sem Value).run Tryd.prog w = .ok (.int .u64 ((x % m : Nat) : Int)) w := by
  have h1 : ¬ ((m : Nat) : Int) = 0 := by omega
  have h2 : ((x : Int).tmod ((m : Nat) : Int)) = ((x % m : Nat) : Int) := by rw [Int.tmod_eq_emod_of_nonneg (Int.natCast_nonneg _)]; rfl
  go_simp
  all_goals omega
theorem back_n {t : Tr} {x0 x1 x2 : Value} {S : Nat → Prop} {c : Int} (w : World) (ok0 : t.okL) (hx0 : RN w S t [x0, x1, x2]) (he : (wrT (tm t)).2 ≠ 0) (hl : (wrT (tm t)).1.length = 0) : Calls Tryd.prog 8 #[.agg #[x0, x1, x2], .int .i64 c] w fun e w' => e = .returned (.bool true) ∧ Bw w w' := by
  have hk := tm_ok ok0
  have hwt := tm_wt t
  go_enter Tryd.func8, Tryd.ntmps8
  refine ve_go ?_
  simp only [List.map_cons, List.map_nil]
  refine vseq ?_
  apply vrp
  · apply VE.cons
    · exact ev_box rfl rfl (gn rfl) rfl
    simp only [nm, seval]
    apply VE.cons
    · exact ev_assign rfl (gn rfl)
    simp only [nm, seval]
    exact VE.nil _
  · kernel_rfl
  change VOk _ _ _ _ _
  refine vseq ?_
  apply vrp
  · apply VE.cons
    · exact ev_loada rfl (gn rfl) rfl rfl Tryd.underlying24 rfl Tryd.sizeOf24 rfl
    simp only [nm, seval]
    apply VE.cons
    · exact ev_calld (D := datR (tm t)) [] rfl rfl (gn rfl) rfl (en_of Tryd.func10 (by kernel_rfl) rfl) (fun ρ S w' hb _ => tame_ok w' ok0 (RN_bw hb hx0))
    simp only [nm, seval]
    apply VE.cons
    · exact ev_storeR (vl := [.fn (cellV 0) (.d 14), .fn (cellV 1) (.d 14), .fn (cellV 2) (.d 14)]) [2, 14] rfl (gn rfl) rfl rfl rfl Tryd.sizeOf24 rfl (fun ρ S w' _ hR => by obtain ⟨c, h1, h2⟩ := datR_get (id := 14) hR (by simp) rfl; have hf := fn3 h1 (RN_len h2); exact ⟨hf.1, hf.2 ▸ RN_one h2⟩) rfl (by simp)
    simp only [nm, seval]
    exact VE.nil _
  · kernel_rfl
  change VOk _ _ _ _ _
  refine vseq ?_
  apply vrp
  · apply VE.cons
    · exact ev_loada rfl (gn rfl) rfl rfl Tryd.underlying24 rfl Tryd.sizeOf24 rfl
    simp only [nm, seval]
    apply VE.cons
    · exact ev_calld (D := datN (tm t)) [14] rfl rfl (gn rfl) rfl (en_of Tryd.func11 (by kernel_rfl) rfl) (fun ρ S w' hb hR => c_to 14 hk hR (by simp) rfl)
    simp only [nm, seval]
    apply VE.cons
    · exact ev_callrowt [17] rfl rfl (gn rfl) rfl (en_of Tryd.func12 (by kernel_rfl) rfl) (n := (wrT (tm t)).1.length) (size := 1) (l := (wrT (tm t)).1.map b8) (y := .int .i64 (wrT (tm t)).2) (by simp) (fun ρ S w' hb hR => c_writeD 17 hk (by omega) hR (by simp) rfl)
    simp only [nm, seval]
    apply VE.cons
    · exact ev_move rfl (gn rfl)
    simp only [nm, seval]
    apply VE.cons
    · first | exact ev_extract rfl (gn rfl) rfl rfl | exact ev_extractt rfl (gn rfl) rfl rfl
    simp only [nm, seval]
    apply VE.cons
    · first | exact ev_extract rfl (gn rfl) rfl rfl | exact ev_extractt rfl (gn rfl) rfl rfl
    simp only [nm, seval]
    apply VE.cons
    · exact ev_assign rfl (gn rfl)
    simp only [nm, seval]
    apply VE.cons
    · exact ev_assign rfl (gn rfl)
    simp only [nm, seval]
    exact VE.nil _
  · kernel_rfl
  change VOk _ _ _ _ _
  refine vseq ?_
  refine vseq ?_
  apply vrp
  · apply VE.cons
    · exact ev_callb rfl (gn rfl) rfl (en_of Tryd.func14 (by kernel_rfl) rfl) (fun w' hb => ders_ok w')
    simp only [nm, seval]
    apply VE.cons
    · exact ev_not rfl (gn rfl) rfl
    simp only [nm, seval]
    apply VE.cons
    · exact ev_move rfl (gn rfl)
    simp only [nm, seval]
    apply VE.cons
    · first | exact Ev.skip (fun _ => rfl) | exact ev_move rfl (fun _ => rfl)
    simp only [nm, seval]
    apply VE.cons
    · first | exact Ev.skip (fun _ => rfl) | exact ev_neq (p := true) rfl (fun _ => rfl) rfl rfl (decide_eq_true he)
    simp only [nm, seval]
    apply VE.cons
    · first | exact ev_pick_t rfl (gn rfl) rfl rfl | exact ev_pick_f rfl (gn rfl) rfl rfl
    simp only [nm, seval]
    exact VE.nil _
  · kernel_rfl
  change VOk _ _ _ _ _
  refine vcond_t rfl ?_
  refine vseq ?_
  apply vrp
  · apply VE.cons
    · exact ev_callb rfl (gn rfl) rfl (en_of Tryd.func14 (by kernel_rfl) rfl) (fun w' hb => ders_ok w')
    simp only [nm, seval]
    apply VE.cons
    · exact ev_move rfl (gn rfl)
    simp only [nm, seval]
    apply VE.cons
    · first | exact Ev.skip (fun _ => rfl) | exact ev_move rfl (fun _ => rfl)
    simp only [nm, seval]
    apply VE.cons
    · first | exact Ev.skip (fun _ => rfl) | exact ev_len rfl (fun _ => rfl) rfl Tryd.underlying26 (rdg_row rfl)
    simp only [nm, seval]
    apply VE.cons
    · first | exact Ev.skip (fun _ => rfl) | exact ev_eql (p := true) rfl (fun _ => rfl) rfl rfl (decide_eq_true (by omega))
    simp only [nm, seval]
    apply VE.cons
    · first | exact ev_pick_t rfl (gn rfl) rfl rfl | exact ev_pick_f rfl (gn rfl) rfl rfl
    simp only [nm, seval]
    apply VE.cons
    · exact ev_assign rfl (gn rfl)
    simp only [nm, seval]
    exact VE.nil _
  · kernel_rfl
  change VOk _ _ _ _ _
  refine vret ?_
  refine post_ret (res1 Tryd.results8 (rv_tmp rfl)) ?_
  intro ρ w' hr
  exact ⟨rfl, hr.1⟩
theorem back_a {t : Tr} {x0 x1 x2 : Value} {S : Nat → Prop} {c : Int} (w : World) (ok0 : t.okL) (hx0 : RN w S t [x0, x1, x2]) {B : List Nat} {m : Nat} (hB : (wrT (tm t)).1 = B) (he : (wrT (tm t)).2 = 0) (hB8 : ∀ x ∈ B, x < 256) (hl : B.length ≤ 2048) (hpos : 0 < B.length) (hmm : unsg c % B.length = m) (hml : m < B.length) (hr1 : rdT B = (tm t, 0)) (hr2 : rdT (B.take m) = (noT, 2)) (hr3 : rdT (B ++ [tb c]) = (noT, 2)) : Calls Tryd.prog 8 #[.agg #[x0, x1, x2], .int .i64 c] w fun e w' => e = .returned (.bool true) ∧ Bw w w' := by
  have hk := tm_ok ok0
  have hwt := tm_wt t
  have hrem := fun (p q : Operand) (w : World) => rem61 (unsg c) B.length hpos p q w
  rw [hmm] at hrem
  go_enter Tryd.func8, Tryd.ntmps8
  refine ve_go ?_
  simp only [List.map_cons, List.map_nil]
  refine vseq ?_
  apply vrp
  · apply VE.cons
    · exact ev_box rfl rfl (gn rfl) rfl
    simp only [nm, seval]
    apply VE.cons
    · exact ev_assign rfl (gn rfl)
    simp only [nm, seval]
    exact VE.nil _
  · kernel_rfl
  change VOk _ _ _ _ _
  refine vseq ?_
  apply vrp
  · apply VE.cons
    · exact ev_loada rfl (gn rfl) rfl rfl Tryd.underlying24 rfl Tryd.sizeOf24 rfl
    simp only [nm, seval]
    apply VE.cons
    · exact ev_calld (D := datR (tm t)) [] rfl rfl (gn rfl) rfl (en_of Tryd.func10 (by kernel_rfl) rfl) (fun ρ S w' hb _ => tame_ok w' ok0 (RN_bw hb hx0))
    simp only [nm, seval]
    apply VE.cons
    · exact ev_storeR (vl := [.fn (cellV 0) (.d 14), .fn (cellV 1) (.d 14), .fn (cellV 2) (.d 14)]) [2, 14] rfl (gn rfl) rfl rfl rfl Tryd.sizeOf24 rfl (fun ρ S w' _ hR => by obtain ⟨c, h1, h2⟩ := datR_get (id := 14) hR (by simp) rfl; have hf := fn3 h1 (RN_len h2); exact ⟨hf.1, hf.2 ▸ RN_one h2⟩) rfl (by simp)
    simp only [nm, seval]
    exact VE.nil _
  · kernel_rfl
  change VOk _ _ _ _ _
  refine vseq ?_
  apply vrp
  · apply VE.cons
    · exact ev_loada rfl (gn rfl) rfl rfl Tryd.underlying24 rfl Tryd.sizeOf24 rfl
    simp only [nm, seval]
    apply VE.cons
    · exact ev_calld (D := datN (tm t)) [14] rfl rfl (gn rfl) rfl (en_of Tryd.func11 (by kernel_rfl) rfl) (fun ρ S w' hb hR => c_to 14 hk hR (by simp) rfl)
    simp only [nm, seval]
    apply VE.cons
    · exact ev_callrowt [17] rfl rfl (gn rfl) rfl (en_of Tryd.func12 (by kernel_rfl) rfl) (n := B.length) (size := 1) (l := B.map b8) (y := .int .i64 (wrT (tm t)).2) (by simp) (fun ρ S w' hb hR => by have := c_writeD 17 hk (by omega) hR (by simp) rfl; rw [hB] at this; exact this)
    simp only [nm, seval]
    apply VE.cons
    · exact ev_move rfl (gn rfl)
    simp only [nm, seval]
    apply VE.cons
    · first | exact ev_extract rfl (gn rfl) rfl rfl | exact ev_extractt rfl (gn rfl) rfl rfl
    simp only [nm, seval]
    apply VE.cons
    · first | exact ev_extract rfl (gn rfl) rfl rfl | exact ev_extractt rfl (gn rfl) rfl rfl
    simp only [nm, seval]
    apply VE.cons
    · exact ev_assign rfl (gn rfl)
    simp only [nm, seval]
    apply VE.cons
    · exact ev_assign rfl (gn rfl)
    simp only [nm, seval]
    exact VE.nil _
  · kernel_rfl
  change VOk _ _ _ _ _
  refine vseq ?_
  refine vseq ?_
  apply vrp
  · apply VE.cons
    · exact ev_callb rfl (gn rfl) rfl (en_of Tryd.func14 (by kernel_rfl) rfl) (fun w' hb => ders_ok w')
    simp only [nm, seval]
    apply VE.cons
    · exact ev_not rfl (gn rfl) rfl
    simp only [nm, seval]
    apply VE.cons
    · exact ev_move rfl (gn rfl)
    simp only [nm, seval]
    apply VE.cons
    · first | exact Ev.skip (fun _ => rfl) | exact ev_move rfl (fun _ => rfl)
    simp only [nm, seval]
    apply VE.cons
    · first | exact Ev.skip (fun _ => rfl) | exact ev_neq (p := false) rfl (fun _ => rfl) rfl rfl (decide_eq_false (fun h => h he))
    simp only [nm, seval]
    apply VE.cons
    · first | exact ev_pick_t rfl (gn rfl) rfl rfl | exact ev_pick_f rfl (gn rfl) rfl rfl
    simp only [nm, seval]
    exact VE.nil _
  · kernel_rfl
  change VOk _ _ _ _ _
  refine vcond_f rfl ?_
  refine vskip ?_
  change VOk _ _ _ _ _
  refine vseq ?_
  apply vrp
  · apply VE.cons
    · exact ev_move rfl (gn rfl)
    simp only [nm, seval]
    apply VE.cons
    · exact ev_calldt (D := datN (tm t)) (ys := [.int .i64 0]) [18] rfl rfl (gn rfl) rfl (en_of Tryd.func28 (by kernel_rfl) rfl) (fun ρ S w' hb hR => by obtain ⟨_, s0⟩ := sl_row (id := 18) hR (by simp) rfl; have := Read_ok w' s0 hB8 (by omega); rw [hr1] at this; exact this)
    simp only [nm, seval]
    apply VE.cons
    · exact ev_move rfl (gn rfl)
    simp only [nm, seval]
    apply VE.cons
    · first | exact ev_extract rfl (gn rfl) rfl rfl | exact ev_extractt rfl (gn rfl) rfl rfl
    simp only [nm, seval]
    apply VE.cons
    · first | exact ev_extract rfl (gn rfl) rfl rfl | exact ev_extractt rfl (gn rfl) rfl rfl
    simp only [nm, seval]
    apply VE.cons
    · exact ev_alloc rfl rfl (gn rfl) Tryd.zeroValue29
    simp only [nm, seval]
    apply VE.cons
    · first | exact ev_storeR (vl := [.fn (cellV 0) (.d 35), .fn (cellV 1) (.d 35), .fn (cellV 2) (.d 35)]) [7, 35] rfl (gn rfl) rfl rfl rfl Tryd.sizeOf29 rfl (fun ρ S w' _ hR => by obtain ⟨c, h1, h2⟩ := datN_get (id := 35) hR (by simp) rfl; have hf := fn3 h1 (DN_len h2); exact ⟨hf.1, hf.2 ▸ DN_one h2⟩) rfl (by simp) | exact ev_storeR (vl := [.fn (cellV 0) (.d 48), .fn (cellV 1) (.d 48), .fn (cellV 2) (.d 48)]) [9, 48] rfl (gn rfl) rfl rfl rfl Tryd.sizeOf29 rfl (fun ρ S w' _ hR => by obtain ⟨c, h1, h2⟩ := datN_get (id := 48) hR (by simp) rfl; have hf := fn3 h1 (DN_len h2); exact ⟨hf.1, hf.2 ▸ DN_one h2⟩) rfl (by simp) | exact ev_storeR (vl := [.fn (cellV 0) (.d 59), .fn (cellV 1) (.d 59), .fn (cellV 2) (.d 59)]) [11, 59] rfl (gn rfl) rfl rfl rfl Tryd.sizeOf29 rfl (fun ρ S w' _ hR => by obtain ⟨c, h1, h2⟩ := datN_get (id := 59) hR (by simp) rfl; have hf := fn3 h1 (DN_len h2); exact ⟨hf.1, hf.2 ▸ DN_one h2⟩) rfl (by simp)
    simp only [nm, seval]
    apply VE.cons
    · exact ev_assign rfl (gn rfl)
    simp only [nm, seval]
    exact VE.nil _
  · kernel_rfl
  change VOk _ _ _ _ _
  refine vseq ?_
  apply vrp
  · apply VE.cons
    · exact ev_move rfl (gn rfl)
    simp only [nm, seval]
    apply VE.cons
    · exact ev_move rfl (gn rfl)
    simp only [nm, seval]
    apply VE.cons
    · exact ev_conv rfl (gn rfl) rfl (fun w => cv361 c w)
    simp only [nm, seval]
    apply VE.cons
    · exact ev_move rfl (gn rfl)
    simp only [nm, seval]
    apply VE.cons
    · exact ev_len rfl (gn rfl) rfl Tryd.underlying26 (rdg_row rfl)
    simp only [nm, seval]
    apply VE.cons
    · exact ev_conv rfl (gn rfl) rfl (fun w => by have := cv361 (B.length : Int) w; rw [show unsg (B.length : Int) = B.length by unfold unsg; omega] at this; exact this)
    simp only [nm, seval]
    apply VE.cons
    · exact ev_bin rfl (gn rfl) rfl rfl (fun w => hrem _ _ w)
    simp only [nm, seval]
    apply VE.cons
    · exact ev_conv rfl (gn rfl) rfl (fun w => cv613 (x := m) (by omega) w)
    simp only [nm, seval]
    apply VE.cons
    · exact ev_cut (a := 0) (b := m) (size := 1) rfl (gn rfl) rfl Tryd.underlying26 Tryd.sizeOf5 (rdg_row rfl) rfl rfl (Nat.zero_le _) (by omega)
    simp only [nm, seval]
    apply VE.cons
    · exact ev_calldt (D := datN (noT)) (ys := [.int .i64 2]) [18] rfl rfl (gn rfl) rfl (en_of Tryd.func28 (by kernel_rfl) rfl) (fun ρ S w' hb hR => by obtain ⟨S0, s0⟩ := rdg_sub (lo := 0) (hi := m) (n' := (B.take m).length) (l' := (B.take m).map b8) (rdg_row (id := 18) rfl) (Nat.zero_le _) (by omega) (by rw [Nat.mul_one, Nat.mul_one, List.drop_zero, Nat.sub_zero, List.map_take]) (by rw [List.length_take]; omega) ρ S w' hb hR; have := Read_ok w' s0 (fun x hx => hB8 x (List.mem_of_mem_take hx)) (by rw [List.length_take]; omega); rw [hr2] at this; exact this)
    simp only [nm, seval]
    apply VE.cons
    · exact ev_move rfl (gn rfl)
    simp only [nm, seval]
    apply VE.cons
    · first | exact ev_extract rfl (gn rfl) rfl rfl | exact ev_extractt rfl (gn rfl) rfl rfl
    simp only [nm, seval]
    apply VE.cons
    · first | exact ev_extract rfl (gn rfl) rfl rfl | exact ev_extractt rfl (gn rfl) rfl rfl
    simp only [nm, seval]
    apply VE.cons
    · exact ev_alloc rfl rfl (gn rfl) Tryd.zeroValue29
    simp only [nm, seval]
    apply VE.cons
    · first | exact ev_storeR (vl := [.fn (cellV 0) (.d 35), .fn (cellV 1) (.d 35), .fn (cellV 2) (.d 35)]) [7, 35] rfl (gn rfl) rfl rfl rfl Tryd.sizeOf29 rfl (fun ρ S w' _ hR => by obtain ⟨c, h1, h2⟩ := datN_get (id := 35) hR (by simp) rfl; have hf := fn3 h1 (DN_len h2); exact ⟨hf.1, hf.2 ▸ DN_one h2⟩) rfl (by simp) | exact ev_storeR (vl := [.fn (cellV 0) (.d 48), .fn (cellV 1) (.d 48), .fn (cellV 2) (.d 48)]) [9, 48] rfl (gn rfl) rfl rfl rfl Tryd.sizeOf29 rfl (fun ρ S w' _ hR => by obtain ⟨c, h1, h2⟩ := datN_get (id := 48) hR (by simp) rfl; have hf := fn3 h1 (DN_len h2); exact ⟨hf.1, hf.2 ▸ DN_one h2⟩) rfl (by simp) | exact ev_storeR (vl := [.fn (cellV 0) (.d 59), .fn (cellV 1) (.d 59), .fn (cellV 2) (.d 59)]) [11, 59] rfl (gn rfl) rfl rfl rfl Tryd.sizeOf29 rfl (fun ρ S w' _ hR => by obtain ⟨c, h1, h2⟩ := datN_get (id := 59) hR (by simp) rfl; have hf := fn3 h1 (DN_len h2); exact ⟨hf.1, hf.2 ▸ DN_one h2⟩) rfl (by simp)
    simp only [nm, seval]
    apply VE.cons
    · exact ev_assign rfl (gn rfl)
    simp only [nm, seval]
    exact VE.nil _
  · kernel_rfl
  change VOk _ _ _ _ _
  refine vseq ?_
  apply vrp
  · apply VE.cons
    · exact ev_buildslice rfl rfl (gn rfl) rfl (e := 5) (l := []) rfl (by decide) (fun _ => by kernel_rfl)
    simp only [nm, seval]
    apply VE.cons
    · exact ev_move rfl (gn rfl)
    simp only [nm, seval]
    apply VE.cons
    · exact ev_append rfl rfl (gn rfl) rfl rfl rfl (rdg_row rfl) Tryd.underlying26 el5 (by decide) (by simp) (b8_all _) (by simp only [maxLen]; omega) (by omega) (by simp)
    simp only [nm, seval]
    apply VE.cons
    · exact ev_move rfl (gn rfl)
    simp only [nm, seval]
    apply VE.cons
    · exact ev_conv rfl (gn rfl) rfl (fun w => cvt8 c w)
    simp only [nm, seval]
    apply VE.cons
    · exact ev_buildslice rfl rfl (gn rfl) rfl (e := 5) (l := [b8 (tb c)]) rfl (by decide) (fun _ => by kernel_rfl)
    simp only [nm, seval]
    apply VE.cons
    · exact ev_append rfl rfl (gn rfl) rfl rfl rfl (rdg_row rfl) Tryd.underlying26 el5 (by decide) (by simp) rfl (by simp only [maxLen]; omega) (by omega) (by simp)
    simp only [nm, seval]
    apply VE.cons
    · exact ev_calldt (D := datN (noT)) (ys := [.int .i64 2]) [58] rfl rfl (gn rfl) rfl (en_of Tryd.func28 (by kernel_rfl) rfl) (fun ρ S w' hb hR => by obtain ⟨_, s0⟩ := sl_row (id := 58) hR (by simp) rfl; have s1 : SlAt w' (ρ 58).val (B ++ [tb c]).length 1 ((B ++ [tb c]).map b8) _ := (by rw [List.map_append, List.length_append, List.length_singleton]; exact s0); have := Read_ok w' s1 (fun x hx => (List.mem_append.1 hx).elim (hB8 x) (fun h => by rw [List.mem_singleton.1 h]; exact tb_lt c)) (by rw [List.length_append, List.length_singleton]; omega); rw [hr3] at this; exact this)
    simp only [nm, seval]
    apply VE.cons
    · exact ev_move rfl (gn rfl)
    simp only [nm, seval]
    apply VE.cons
    · first | exact ev_extract rfl (gn rfl) rfl rfl | exact ev_extractt rfl (gn rfl) rfl rfl
    simp only [nm, seval]
    apply VE.cons
    · first | exact ev_extract rfl (gn rfl) rfl rfl | exact ev_extractt rfl (gn rfl) rfl rfl
    simp only [nm, seval]
    apply VE.cons
    · exact ev_alloc rfl rfl (gn rfl) Tryd.zeroValue29
    simp only [nm, seval]
    apply VE.cons
    · first | exact ev_storeR (vl := [.fn (cellV 0) (.d 35), .fn (cellV 1) (.d 35), .fn (cellV 2) (.d 35)]) [7, 35] rfl (gn rfl) rfl rfl rfl Tryd.sizeOf29 rfl (fun ρ S w' _ hR => by obtain ⟨c, h1, h2⟩ := datN_get (id := 35) hR (by simp) rfl; have hf := fn3 h1 (DN_len h2); exact ⟨hf.1, hf.2 ▸ DN_one h2⟩) rfl (by simp) | exact ev_storeR (vl := [.fn (cellV 0) (.d 48), .fn (cellV 1) (.d 48), .fn (cellV 2) (.d 48)]) [9, 48] rfl (gn rfl) rfl rfl rfl Tryd.sizeOf29 rfl (fun ρ S w' _ hR => by obtain ⟨c, h1, h2⟩ := datN_get (id := 48) hR (by simp) rfl; have hf := fn3 h1 (DN_len h2); exact ⟨hf.1, hf.2 ▸ DN_one h2⟩) rfl (by simp) | exact ev_storeR (vl := [.fn (cellV 0) (.d 59), .fn (cellV 1) (.d 59), .fn (cellV 2) (.d 59)]) [11, 59] rfl (gn rfl) rfl rfl rfl Tryd.sizeOf29 rfl (fun ρ S w' _ hR => by obtain ⟨c, h1, h2⟩ := datN_get (id := 59) hR (by simp) rfl; have hf := fn3 h1 (DN_len h2); exact ⟨hf.1, hf.2 ▸ DN_one h2⟩) rfl (by simp)
    simp only [nm, seval]
    apply VE.cons
    · exact ev_assign rfl (gn rfl)
    simp only [nm, seval]
    exact VE.nil _
  · kernel_rfl
  change VOk _ _ _ _ _
  refine vseq ?_
  apply vrd (by kernel_rfl)
  · apply VE.cons
    · exact ev_move rfl (gn rfl)
    simp only [nm, seval]
    apply VE.cons
    · exact ev_eql (p := true) rfl (gn rfl) rfl rfl (by decide)
    simp only [nm, seval]
    apply VE.cons
    · exact ev_move rfl (gn rfl)
    simp only [nm, seval]
    apply VE.cons
    · first | exact Ev.skip (fun _ => rfl) | exact ev_loada rfl (fun _ => rfl) rfl rfl Tryd.underlying29 rfl Tryd.sizeOf29 rfl
    simp only [nm, seval]
    apply VE.cons
    · first | exact Ev.skip (fun _ => rfl) | exact ev_calld (D := datR (tm t)) [35] rfl rfl (fun _ => rfl) rfl (en_of Tryd.func16 (by kernel_rfl) rfl) (fun ρ S w' hb hR => c_from 35 hk hR (by simp) rfl)
    simp only [nm, seval]
    apply VE.cons
    · first | exact Ev.skip (fun _ => rfl) | exact ev_loada rfl (fun _ => rfl) rfl rfl Tryd.underlying24 rfl Tryd.sizeOf24 rfl
    simp only [nm, seval]
    apply VE.cons
    · first | exact Ev.skip (fun _ => rfl) | exact ev_callp (v := .bool true) [66, 14] rfl (fun _ => rfl) rfl (en_of Tryd.func15 (by kernel_rfl) rfl) (fun ρ S w' hb hR => by have := c_sameD 66 14 hk hk hR (by simp) rfl (by simp) rfl; rw [sameT_refl] at this; exact this)
    simp only [nm, seval]
    apply VE.cons
    · first | exact ev_pick_t rfl (gn rfl) rfl rfl | exact ev_pick_f rfl (gn rfl) rfl rfl
    simp only [nm, seval]
    apply VE.cons
    · exact ev_move rfl (gn rfl)
    simp only [nm, seval]
    apply VE.cons
    · first | exact Ev.skip (fun _ => rfl) | exact ev_move rfl (fun _ => rfl)
    simp only [nm, seval]
    apply VE.cons
    · first | exact Ev.skip (fun _ => rfl) | exact ev_eql (p := true) rfl (fun _ => rfl) rfl rfl (by decide)
    simp only [nm, seval]
    apply VE.cons
    · first | exact ev_pick_t rfl (gn rfl) rfl rfl | exact ev_pick_f rfl (gn rfl) rfl rfl
    simp only [nm, seval]
    apply VE.cons
    · exact ev_move rfl (gn rfl)
    simp only [nm, seval]
    apply VE.cons
    · first | exact Ev.skip (fun _ => rfl) | exact ev_move rfl (fun _ => rfl)
    simp only [nm, seval]
    apply VE.cons
    · first | exact Ev.skip (fun _ => rfl) | exact ev_eql (p := true) rfl (fun _ => rfl) rfl rfl (by decide)
    simp only [nm, seval]
    apply VE.cons
    · first | exact Ev.skip (fun _ => rfl) | exact ev_move rfl (fun _ => rfl)
    simp only [nm, seval]
    apply VE.cons
    · first | exact Ev.skip (fun _ => rfl) | exact ev_move rfl (fun _ => rfl)
    simp only [nm, seval]
    apply VE.cons
    · first | exact Ev.skip (fun _ => rfl) | exact ev_len rfl (fun _ => rfl) rfl Tryd.underlying26 (rdg_row rfl)
    simp only [nm, seval]
    apply VE.cons
    · first | exact Ev.skip (fun _ => rfl) | exact ev_eql (p := true) rfl (fun _ => rfl) rfl rfl (decide_eq_true (by omega))
    simp only [nm, seval]
    apply VE.cons
    · first | exact Ev.skip (fun _ => rfl) | exact ev_move rfl (fun _ => rfl)
    simp only [nm, seval]
    apply VE.cons
    · first | exact Ev.skip (fun _ => rfl) | exact ev_move rfl (fun _ => rfl)
    simp only [nm, seval]
    apply VE.cons
    · first | exact Ev.skip (fun _ => rfl) | refine ev_pure' (fun _ => rfl) (fun ρ w => by simp only [VS.act, SV.c, List.map_cons, List.map_nil]; go_simp; exact rfl) (fun _ _ => rfl)
    simp only [nm, seval]
    apply VE.cons
    · first | exact Ev.skip (fun _ => rfl) | exact ev_pick_t rfl (fun _ => rfl) rfl rfl | exact ev_pick_f rfl (fun _ => rfl) rfl rfl
    simp only [nm, seval]
    apply VE.cons
    · first | exact Ev.skip (fun _ => rfl) | exact ev_pick_t rfl (fun _ => rfl) rfl rfl | exact ev_pick_f rfl (fun _ => rfl) rfl rfl
    simp only [nm, seval]
    apply VE.cons
    · first | exact ev_pick_t rfl (gn rfl) rfl rfl | exact ev_pick_f rfl (gn rfl) rfl rfl
    simp only [nm, seval]
    apply VE.cons
    · exact ev_assign rfl (gn rfl)
    simp only [nm, seval]
    exact VE.nil _
  · kernel_rfl
  change VOk _ _ _ _ _
  refine vret ?_
  refine post_ret (res1 Tryd.results8 (rv_tmp rfl)) ?_
  intro ρ w' hr
  exact ⟨rfl, hr.1⟩
theorem back_b {t : Tr} {x0 x1 x2 : Value} {S : Nat → Prop} {c : Int} (w : World) (ok0 : t.okL) (hx0 : RN w S t [x0, x1, x2]) {B : List Nat} {m : Nat} (hB : (wrT (tm t)).1 = B) (he : (wrT (tm t)).2 = 0) (hB8 : ∀ x ∈ B, x < 256) (hl : B.length ≤ 2048) (hpos : 0 < B.length) (hmm : unsg c % B.length = m) (hml : m < B.length) (hr1 : rdT B = (tm t, 0)) (hr2 : rdT (B.take m) = (noT, 2)) (h20 : B.length = 2048) (hr3 : rdT (B ++ [tb c]) = (noT, 4)) : Calls Tryd.prog 8 #[.agg #[x0, x1, x2], .int .i64 c] w fun e w' => e = .returned (.bool true) ∧ Bw w w' := by
  have hk := tm_ok ok0
  have hwt := tm_wt t
  have hrem := fun (p q : Operand) (w : World) => rem61 (unsg c) B.length hpos p q w
  rw [hmm] at hrem
  go_enter Tryd.func8, Tryd.ntmps8
  refine ve_go ?_
  simp only [List.map_cons, List.map_nil]
  refine vseq ?_
  apply vrp
  · apply VE.cons
    · exact ev_box rfl rfl (gn rfl) rfl
    simp only [nm, seval]
    apply VE.cons
    · exact ev_assign rfl (gn rfl)
    simp only [nm, seval]
    exact VE.nil _
  · kernel_rfl
  change VOk _ _ _ _ _
  refine vseq ?_
  apply vrp
  · apply VE.cons
    · exact ev_loada rfl (gn rfl) rfl rfl Tryd.underlying24 rfl Tryd.sizeOf24 rfl
    simp only [nm, seval]
    apply VE.cons
    · exact ev_calld (D := datR (tm t)) [] rfl rfl (gn rfl) rfl (en_of Tryd.func10 (by kernel_rfl) rfl) (fun ρ S w' hb _ => tame_ok w' ok0 (RN_bw hb hx0))
    simp only [nm, seval]
    apply VE.cons
    · exact ev_storeR (vl := [.fn (cellV 0) (.d 14), .fn (cellV 1) (.d 14), .fn (cellV 2) (.d 14)]) [2, 14] rfl (gn rfl) rfl rfl rfl Tryd.sizeOf24 rfl (fun ρ S w' _ hR => by obtain ⟨c, h1, h2⟩ := datR_get (id := 14) hR (by simp) rfl; have hf := fn3 h1 (RN_len h2); exact ⟨hf.1, hf.2 ▸ RN_one h2⟩) rfl (by simp)
    simp only [nm, seval]
    exact VE.nil _
  · kernel_rfl
  change VOk _ _ _ _ _
  refine vseq ?_
  apply vrp
  · apply VE.cons
    · exact ev_loada rfl (gn rfl) rfl rfl Tryd.underlying24 rfl Tryd.sizeOf24 rfl
    simp only [nm, seval]
    apply VE.cons
    · exact ev_calld (D := datN (tm t)) [14] rfl rfl (gn rfl) rfl (en_of Tryd.func11 (by kernel_rfl) rfl) (fun ρ S w' hb hR => c_to 14 hk hR (by simp) rfl)
    simp only [nm, seval]
    apply VE.cons
    · exact ev_callrowt [17] rfl rfl (gn rfl) rfl (en_of Tryd.func12 (by kernel_rfl) rfl) (n := B.length) (size := 1) (l := B.map b8) (y := .int .i64 (wrT (tm t)).2) (by simp) (fun ρ S w' hb hR => by have := c_writeD 17 hk (by omega) hR (by simp) rfl; rw [hB] at this; exact this)
    simp only [nm, seval]
    apply VE.cons
    · exact ev_move rfl (gn rfl)
    simp only [nm, seval]
    apply VE.cons
    · first | exact ev_extract rfl (gn rfl) rfl rfl | exact ev_extractt rfl (gn rfl) rfl rfl
    simp only [nm, seval]
    apply VE.cons
    · first | exact ev_extract rfl (gn rfl) rfl rfl | exact ev_extractt rfl (gn rfl) rfl rfl
    simp only [nm, seval]
    apply VE.cons
    · exact ev_assign rfl (gn rfl)
    simp only [nm, seval]
    apply VE.cons
    · exact ev_assign rfl (gn rfl)
    simp only [nm, seval]
    exact VE.nil _
  · kernel_rfl
  change VOk _ _ _ _ _
  refine vseq ?_
  refine vseq ?_
  apply vrp
  · apply VE.cons
    · exact ev_callb rfl (gn rfl) rfl (en_of Tryd.func14 (by kernel_rfl) rfl) (fun w' hb => ders_ok w')
    simp only [nm, seval]
    apply VE.cons
    · exact ev_not rfl (gn rfl) rfl
    simp only [nm, seval]
    apply VE.cons
    · exact ev_move rfl (gn rfl)
    simp only [nm, seval]
    apply VE.cons
    · first | exact Ev.skip (fun _ => rfl) | exact ev_move rfl (fun _ => rfl)
    simp only [nm, seval]
    apply VE.cons
    · first | exact Ev.skip (fun _ => rfl) | exact ev_neq (p := false) rfl (fun _ => rfl) rfl rfl (decide_eq_false (fun h => h he))
    simp only [nm, seval]
    apply VE.cons
    · first | exact ev_pick_t rfl (gn rfl) rfl rfl | exact ev_pick_f rfl (gn rfl) rfl rfl
    simp only [nm, seval]
    exact VE.nil _
  · kernel_rfl
  change VOk _ _ _ _ _
  refine vcond_f rfl ?_
  refine vskip ?_
  change VOk _ _ _ _ _
  refine vseq ?_
  apply vrp
  · apply VE.cons
    · exact ev_move rfl (gn rfl)
    simp only [nm, seval]
    apply VE.cons
    · exact ev_calldt (D := datN (tm t)) (ys := [.int .i64 0]) [18] rfl rfl (gn rfl) rfl (en_of Tryd.func28 (by kernel_rfl) rfl) (fun ρ S w' hb hR => by obtain ⟨_, s0⟩ := sl_row (id := 18) hR (by simp) rfl; have := Read_ok w' s0 hB8 (by omega); rw [hr1] at this; exact this)
    simp only [nm, seval]
    apply VE.cons
    · exact ev_move rfl (gn rfl)
    simp only [nm, seval]
    apply VE.cons
    · first | exact ev_extract rfl (gn rfl) rfl rfl | exact ev_extractt rfl (gn rfl) rfl rfl
    simp only [nm, seval]
    apply VE.cons
    · first | exact ev_extract rfl (gn rfl) rfl rfl | exact ev_extractt rfl (gn rfl) rfl rfl
    simp only [nm, seval]
    apply VE.cons
    · exact ev_alloc rfl rfl (gn rfl) Tryd.zeroValue29
    simp only [nm, seval]
    apply VE.cons
    · first | exact ev_storeR (vl := [.fn (cellV 0) (.d 35), .fn (cellV 1) (.d 35), .fn (cellV 2) (.d 35)]) [7, 35] rfl (gn rfl) rfl rfl rfl Tryd.sizeOf29 rfl (fun ρ S w' _ hR => by obtain ⟨c, h1, h2⟩ := datN_get (id := 35) hR (by simp) rfl; have hf := fn3 h1 (DN_len h2); exact ⟨hf.1, hf.2 ▸ DN_one h2⟩) rfl (by simp) | exact ev_storeR (vl := [.fn (cellV 0) (.d 48), .fn (cellV 1) (.d 48), .fn (cellV 2) (.d 48)]) [9, 48] rfl (gn rfl) rfl rfl rfl Tryd.sizeOf29 rfl (fun ρ S w' _ hR => by obtain ⟨c, h1, h2⟩ := datN_get (id := 48) hR (by simp) rfl; have hf := fn3 h1 (DN_len h2); exact ⟨hf.1, hf.2 ▸ DN_one h2⟩) rfl (by simp) | exact ev_storeR (vl := [.fn (cellV 0) (.d 59), .fn (cellV 1) (.d 59), .fn (cellV 2) (.d 59)]) [11, 59] rfl (gn rfl) rfl rfl rfl Tryd.sizeOf29 rfl (fun ρ S w' _ hR => by obtain ⟨c, h1, h2⟩ := datN_get (id := 59) hR (by simp) rfl; have hf := fn3 h1 (DN_len h2); exact ⟨hf.1, hf.2 ▸ DN_one h2⟩) rfl (by simp)
    simp only [nm, seval]
    apply VE.cons
    · exact ev_assign rfl (gn rfl)
    simp only [nm, seval]
    exact VE.nil _
  · kernel_rfl
  change VOk _ _ _ _ _
  refine vseq ?_
  apply vrp
  · apply VE.cons
    · exact ev_move rfl (gn rfl)
    simp only [nm, seval]
    apply VE.cons
    · exact ev_move rfl (gn rfl)
    simp only [nm, seval]
    apply VE.cons
    · exact ev_conv rfl (gn rfl) rfl (fun w => cv361 c w)
    simp only [nm, seval]
    apply VE.cons
    · exact ev_move rfl (gn rfl)
    simp only [nm, seval]
    apply VE.cons
    · exact ev_len rfl (gn rfl) rfl Tryd.underlying26 (rdg_row rfl)
    simp only [nm, seval]
    apply VE.cons
    · exact ev_conv rfl (gn rfl) rfl (fun w => by have := cv361 (B.length : Int) w; rw [show unsg (B.length : Int) = B.length by unfold unsg; omega] at this; exact this)
    simp only [nm, seval]
    apply VE.cons
    · exact ev_bin rfl (gn rfl) rfl rfl (fun w => hrem _ _ w)
    simp only [nm, seval]
    apply VE.cons
    · exact ev_conv rfl (gn rfl) rfl (fun w => cv613 (x := m) (by omega) w)
    simp only [nm, seval]
    apply VE.cons
    · exact ev_cut (a := 0) (b := m) (size := 1) rfl (gn rfl) rfl Tryd.underlying26 Tryd.sizeOf5 (rdg_row rfl) rfl rfl (Nat.zero_le _) (by omega)
    simp only [nm, seval]
    apply VE.cons
    · exact ev_calldt (D := datN (noT)) (ys := [.int .i64 2]) [18] rfl rfl (gn rfl) rfl (en_of Tryd.func28 (by kernel_rfl) rfl) (fun ρ S w' hb hR => by obtain ⟨S0, s0⟩ := rdg_sub (lo := 0) (hi := m) (n' := (B.take m).length) (l' := (B.take m).map b8) (rdg_row (id := 18) rfl) (Nat.zero_le _) (by omega) (by rw [Nat.mul_one, Nat.mul_one, List.drop_zero, Nat.sub_zero, List.map_take]) (by rw [List.length_take]; omega) ρ S w' hb hR; have := Read_ok w' s0 (fun x hx => hB8 x (List.mem_of_mem_take hx)) (by rw [List.length_take]; omega); rw [hr2] at this; exact this)
    simp only [nm, seval]
    apply VE.cons
    · exact ev_move rfl (gn rfl)
    simp only [nm, seval]
    apply VE.cons
    · first | exact ev_extract rfl (gn rfl) rfl rfl | exact ev_extractt rfl (gn rfl) rfl rfl
    simp only [nm, seval]
    apply VE.cons
    · first | exact ev_extract rfl (gn rfl) rfl rfl | exact ev_extractt rfl (gn rfl) rfl rfl
    simp only [nm, seval]
    apply VE.cons
    · exact ev_alloc rfl rfl (gn rfl) Tryd.zeroValue29
    simp only [nm, seval]
    apply VE.cons
    · first | exact ev_storeR (vl := [.fn (cellV 0) (.d 35), .fn (cellV 1) (.d 35), .fn (cellV 2) (.d 35)]) [7, 35] rfl (gn rfl) rfl rfl rfl Tryd.sizeOf29 rfl (fun ρ S w' _ hR => by obtain ⟨c, h1, h2⟩ := datN_get (id := 35) hR (by simp) rfl; have hf := fn3 h1 (DN_len h2); exact ⟨hf.1, hf.2 ▸ DN_one h2⟩) rfl (by simp) | exact ev_storeR (vl := [.fn (cellV 0) (.d 48), .fn (cellV 1) (.d 48), .fn (cellV 2) (.d 48)]) [9, 48] rfl (gn rfl) rfl rfl rfl Tryd.sizeOf29 rfl (fun ρ S w' _ hR => by obtain ⟨c, h1, h2⟩ := datN_get (id := 48) hR (by simp) rfl; have hf := fn3 h1 (DN_len h2); exact ⟨hf.1, hf.2 ▸ DN_one h2⟩) rfl (by simp) | exact ev_storeR (vl := [.fn (cellV 0) (.d 59), .fn (cellV 1) (.d 59), .fn (cellV 2) (.d 59)]) [11, 59] rfl (gn rfl) rfl rfl rfl Tryd.sizeOf29 rfl (fun ρ S w' _ hR => by obtain ⟨c, h1, h2⟩ := datN_get (id := 59) hR (by simp) rfl; have hf := fn3 h1 (DN_len h2); exact ⟨hf.1, hf.2 ▸ DN_one h2⟩) rfl (by simp)
    simp only [nm, seval]
    apply VE.cons
    · exact ev_assign rfl (gn rfl)
    simp only [nm, seval]
    exact VE.nil _
  · kernel_rfl
  change VOk _ _ _ _ _
  refine vseq ?_
  apply vrp
  · apply VE.cons
    · exact ev_buildslice rfl rfl (gn rfl) rfl (e := 5) (l := []) rfl (by decide) (fun _ => by kernel_rfl)
    simp only [nm, seval]
    apply VE.cons
    · exact ev_move rfl (gn rfl)
    simp only [nm, seval]
    apply VE.cons
    · exact ev_append rfl rfl (gn rfl) rfl rfl rfl (rdg_row rfl) Tryd.underlying26 el5 (by decide) (by simp) (b8_all _) (by simp only [maxLen]; omega) (by omega) (by simp)
    simp only [nm, seval]
    apply VE.cons
    · exact ev_move rfl (gn rfl)
    simp only [nm, seval]
    apply VE.cons
    · exact ev_conv rfl (gn rfl) rfl (fun w => cvt8 c w)
    simp only [nm, seval]
    apply VE.cons
    · exact ev_buildslice rfl rfl (gn rfl) rfl (e := 5) (l := [b8 (tb c)]) rfl (by decide) (fun _ => by kernel_rfl)
    simp only [nm, seval]
    apply VE.cons
    · exact ev_append rfl rfl (gn rfl) rfl rfl rfl (rdg_row rfl) Tryd.underlying26 el5 (by decide) (by simp) rfl (by simp only [maxLen]; omega) (by omega) (by simp)
    simp only [nm, seval]
    apply VE.cons
    · exact ev_calldt (D := datN (noT)) (ys := [.int .i64 4]) [58] rfl rfl (gn rfl) rfl (en_of Tryd.func28 (by kernel_rfl) rfl) (fun ρ S w' hb hR => by obtain ⟨_, s0⟩ := sl_row (id := 58) hR (by simp) rfl; have s1 : SlAt w' (ρ 58).val (B ++ [tb c]).length 1 ((B ++ [tb c]).map b8) _ := (by rw [List.map_append, List.length_append, List.length_singleton]; exact s0); have := Read_ok w' s1 (fun x hx => (List.mem_append.1 hx).elim (hB8 x) (fun h => by rw [List.mem_singleton.1 h]; exact tb_lt c)) (by rw [List.length_append, List.length_singleton]; omega); rw [hr3] at this; exact this)
    simp only [nm, seval]
    apply VE.cons
    · exact ev_move rfl (gn rfl)
    simp only [nm, seval]
    apply VE.cons
    · first | exact ev_extract rfl (gn rfl) rfl rfl | exact ev_extractt rfl (gn rfl) rfl rfl
    simp only [nm, seval]
    apply VE.cons
    · first | exact ev_extract rfl (gn rfl) rfl rfl | exact ev_extractt rfl (gn rfl) rfl rfl
    simp only [nm, seval]
    apply VE.cons
    · exact ev_alloc rfl rfl (gn rfl) Tryd.zeroValue29
    simp only [nm, seval]
    apply VE.cons
    · first | exact ev_storeR (vl := [.fn (cellV 0) (.d 35), .fn (cellV 1) (.d 35), .fn (cellV 2) (.d 35)]) [7, 35] rfl (gn rfl) rfl rfl rfl Tryd.sizeOf29 rfl (fun ρ S w' _ hR => by obtain ⟨c, h1, h2⟩ := datN_get (id := 35) hR (by simp) rfl; have hf := fn3 h1 (DN_len h2); exact ⟨hf.1, hf.2 ▸ DN_one h2⟩) rfl (by simp) | exact ev_storeR (vl := [.fn (cellV 0) (.d 48), .fn (cellV 1) (.d 48), .fn (cellV 2) (.d 48)]) [9, 48] rfl (gn rfl) rfl rfl rfl Tryd.sizeOf29 rfl (fun ρ S w' _ hR => by obtain ⟨c, h1, h2⟩ := datN_get (id := 48) hR (by simp) rfl; have hf := fn3 h1 (DN_len h2); exact ⟨hf.1, hf.2 ▸ DN_one h2⟩) rfl (by simp) | exact ev_storeR (vl := [.fn (cellV 0) (.d 59), .fn (cellV 1) (.d 59), .fn (cellV 2) (.d 59)]) [11, 59] rfl (gn rfl) rfl rfl rfl Tryd.sizeOf29 rfl (fun ρ S w' _ hR => by obtain ⟨c, h1, h2⟩ := datN_get (id := 59) hR (by simp) rfl; have hf := fn3 h1 (DN_len h2); exact ⟨hf.1, hf.2 ▸ DN_one h2⟩) rfl (by simp)
    simp only [nm, seval]
    apply VE.cons
    · exact ev_assign rfl (gn rfl)
    simp only [nm, seval]
    exact VE.nil _
  · kernel_rfl
  change VOk _ _ _ _ _
  refine vseq ?_
  apply vrd (by kernel_rfl)
  · apply VE.cons
    · exact ev_move rfl (gn rfl)
    simp only [nm, seval]
    apply VE.cons
    · exact ev_eql (p := true) rfl (gn rfl) rfl rfl (by decide)
    simp only [nm, seval]
    apply VE.cons
    · exact ev_move rfl (gn rfl)
    simp only [nm, seval]
    apply VE.cons
    · first | exact Ev.skip (fun _ => rfl) | exact ev_loada rfl (fun _ => rfl) rfl rfl Tryd.underlying29 rfl Tryd.sizeOf29 rfl
    simp only [nm, seval]
    apply VE.cons
    · first | exact Ev.skip (fun _ => rfl) | exact ev_calld (D := datR (tm t)) [35] rfl rfl (fun _ => rfl) rfl (en_of Tryd.func16 (by kernel_rfl) rfl) (fun ρ S w' hb hR => c_from 35 hk hR (by simp) rfl)
    simp only [nm, seval]
    apply VE.cons
    · first | exact Ev.skip (fun _ => rfl) | exact ev_loada rfl (fun _ => rfl) rfl rfl Tryd.underlying24 rfl Tryd.sizeOf24 rfl
    simp only [nm, seval]
    apply VE.cons
    · first | exact Ev.skip (fun _ => rfl) | exact ev_callp (v := .bool true) [66, 14] rfl (fun _ => rfl) rfl (en_of Tryd.func15 (by kernel_rfl) rfl) (fun ρ S w' hb hR => by have := c_sameD 66 14 hk hk hR (by simp) rfl (by simp) rfl; rw [sameT_refl] at this; exact this)
    simp only [nm, seval]
    apply VE.cons
    · first | exact ev_pick_t rfl (gn rfl) rfl rfl | exact ev_pick_f rfl (gn rfl) rfl rfl
    simp only [nm, seval]
    apply VE.cons
    · exact ev_move rfl (gn rfl)
    simp only [nm, seval]
    apply VE.cons
    · first | exact Ev.skip (fun _ => rfl) | exact ev_move rfl (fun _ => rfl)
    simp only [nm, seval]
    apply VE.cons
    · first | exact Ev.skip (fun _ => rfl) | exact ev_eql (p := true) rfl (fun _ => rfl) rfl rfl (by decide)
    simp only [nm, seval]
    apply VE.cons
    · first | exact ev_pick_t rfl (gn rfl) rfl rfl | exact ev_pick_f rfl (gn rfl) rfl rfl
    simp only [nm, seval]
    apply VE.cons
    · exact ev_move rfl (gn rfl)
    simp only [nm, seval]
    apply VE.cons
    · first | exact Ev.skip (fun _ => rfl) | exact ev_move rfl (fun _ => rfl)
    simp only [nm, seval]
    apply VE.cons
    · first | exact Ev.skip (fun _ => rfl) | exact ev_eql (p := false) rfl (fun _ => rfl) rfl rfl (by decide)
    simp only [nm, seval]
    apply VE.cons
    · first | exact Ev.skip (fun _ => rfl) | exact ev_move rfl (fun _ => rfl)
    simp only [nm, seval]
    apply VE.cons
    · first | exact Ev.skip (fun _ => rfl) | exact ev_move rfl (fun _ => rfl)
    simp only [nm, seval]
    apply VE.cons
    · first | exact Ev.skip (fun _ => rfl) | exact ev_len rfl (fun _ => rfl) rfl Tryd.underlying26 (rdg_row rfl)
    simp only [nm, seval]
    apply VE.cons
    · first | exact Ev.skip (fun _ => rfl) | exact ev_eql (p := true) rfl (fun _ => rfl) rfl rfl (decide_eq_true (by omega))
    simp only [nm, seval]
    apply VE.cons
    · first | exact Ev.skip (fun _ => rfl) | exact ev_move rfl (fun _ => rfl)
    simp only [nm, seval]
    apply VE.cons
    · first | exact Ev.skip (fun _ => rfl) | exact ev_move rfl (fun _ => rfl)
    simp only [nm, seval]
    apply VE.cons
    · first | exact Ev.skip (fun _ => rfl) | exact ev_eql (p := true) rfl (fun _ => rfl) rfl rfl (by decide)
    simp only [nm, seval]
    apply VE.cons
    · first | exact Ev.skip (fun _ => rfl) | exact ev_pick_t rfl (fun _ => rfl) rfl rfl | exact ev_pick_f rfl (fun _ => rfl) rfl rfl
    simp only [nm, seval]
    apply VE.cons
    · first | exact Ev.skip (fun _ => rfl) | exact ev_pick_t rfl (fun _ => rfl) rfl rfl | exact ev_pick_f rfl (fun _ => rfl) rfl rfl
    simp only [nm, seval]
    apply VE.cons
    · first | exact ev_pick_t rfl (gn rfl) rfl rfl | exact ev_pick_f rfl (gn rfl) rfl rfl
    simp only [nm, seval]
    apply VE.cons
    · exact ev_assign rfl (gn rfl)
    simp only [nm, seval]
    exact VE.nil _
  · kernel_rfl
  change VOk _ _ _ _ _
  refine vret ?_
  refine post_ret (res1 Tryd.results8 (rv_tmp rfl)) ?_
  intro ρ w' hr
  exact ⟨rfl, hr.1⟩
theorem back_law {t : Tr} {x0 x1 x2 : Value} {S : Nat → Prop} {c : Int} (w : World) (ok0 : t.okL) (hx0 : RN w S t [x0, x1, x2]) : Calls Tryd.prog 8 #[.agg #[x0, x1, x2], .int .i64 c] w fun e w' => e = .returned (.bool true) ∧ Bw w w' := by
  by_cases he : (wrT (tm t)).2 = 0
  · obtain ⟨h1, h2, h3⟩ := wrT_zero he
    have hB : (wrT (tm t)).1 = bytesT (tm t) := by rw [h3]
    have hk := tm_ok ok0
    have hB8 : ∀ x ∈ bytesT (tm t), x < 256 := bytesT_lt (tm t) hk
    have hp := bytes_pos (tm t)
    have hml := Nat.mod_lt (unsg c) (show 0 < (bytesT (tm t)).length by omega)
    rcases more_no h1 h2 (tb c) with h4 | ⟨h4, h5⟩
    · exact back_a w ok0 hx0 hB he hB8 h2 (by omega) rfl hml (rdT_right h1 h2) (begin_no hB8 h1 h2 hml) h4
    · exact back_b w ok0 hx0 hB he hB8 h2 (by omega) rfl hml (rdT_right h1 h2) (begin_no hB8 h1 h2 hml) h4 h5
  · refine back_n w ok0 hx0 he ?_
    rcases wrT_cases (tm t) with ⟨_, e⟩ | ⟨_, _, e⟩ | ⟨_, _, e⟩
    · rw [e]; rfl
    · rw [e]; rfl
    · rw [e] at he; exact absurd rfl he
end Go.Proofs.YtmgmiiongleaeaaDoor
