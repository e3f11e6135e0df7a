import Derived.Test.YtmgmiiongleaeaaDoorProg
import Derived.Test.YtmgmiiongleaeaaDoorVx
namespace Go.Proofs.YtmgmiiongleaeaaDoor
open Go.RowKit Go.Vx
open Go.Toll (Gw)
set_option maxHeartbeats 4000000
set_option maxRecDepth 100000
def b8 (b : Nat) : Value := .int .u8 (b : Int)
def bstr (bs : List Nat) : ByteArray := ⟨(bs.map fun b => UInt8.ofNat b).toArray⟩
theorem el5 : ElInfo Tryd.prog 5 1 1 := by unfold ElInfo; kernel_rfl
theorem el29 : ElInfo Tryd.prog 29 3 56 := by unfold ElInfo; kernel_rfl
theorem el24 : ElInfo Tryd.prog 24 3 48 := by unfold ElInfo; kernel_rfl
/-- a slice of bytes. -/
def Bytes (w : World) (v : Value) (bs : List Nat) : Prop := (∀ b ∈ bs, b < 256) ∧ ∃ S, SlAt w v bs.length 1 (bs.map b8) S
theorem sl_bw {w w' : World} {v : Value} {n size : Nat} {l : List Value} {S : Nat → Prop} (h : SlAt w v n size l S) (hb : Bw w w') : SlAt w' v n size l S := by
  obtain ⟨ao, cap, h1, h2, h3, h4⟩ := h
  exact ⟨ao, cap, h1, h2, h3, h4.imp id fun ⟨g, a, b, c⟩ => ⟨g, a, b, fun i x hx => hb.cell (c i x hx)⟩⟩
def madeT (t : Int) : Bool := decide (t = 48) || (decide (t ≥ 160) && decide (t ≤ 163))
def wholeT : List Nat → Bool
  | [] => false
  | [_] => true
  | b0 :: b1 :: _ => !((decide (b0 = 0) && decide (b1 < 128)) || (decide (b0 = 255) && decide (b1 ≥ 128)))
def plainB (b : Nat) : Bool := decide (b < 32) || decide (b > 126)
def plainT (b : List Nat) : Bool := !b.any plainB
theorem nat_eq (a c : Nat) : decide ((a : Int) = (c : Int)) = decide (a = c) := decide_eq_decide.2 (by omega)
theorem nat_lt (a c : Nat) : decide ((a : Int) < (c : Int)) = decide (a < c) := decide_eq_decide.2 (by omega)
theorem nat_ge (a c : Nat) : decide ((a : Int) ≥ (c : Int)) = decide (a ≥ c) := decide_eq_decide.2 (by omega)
theorem nat_gt (a c : Nat) : decide ((a : Int) > (c : Int)) = decide (a > c) := decide_eq_decide.2 (by omega)
theorem made_ok (t : Int) (w : World) : Calls Tryd.prog 41 #[.int .i64 t] w fun e w' => e = .returned (.bool (madeT t)) ∧ Bw w w' := by
  unfold madeT
  obtain ⟨p1, h_p1⟩ : ∃ p, decide (t = 48) = p := ⟨_, rfl⟩
  obtain ⟨p2, h_p2⟩ : ∃ p, decide (t ≥ 160) = p := ⟨_, rfl⟩
  obtain ⟨p3, h_p3⟩ : ∃ p, decide (t ≤ 163) = p := ⟨_, rfl⟩
  rw [h_p1, h_p2, h_p3]
  go_enter Tryd.func41, Tryd.ntmps41
  refine ve_go ?_
  simp only [List.map_cons, List.map_nil]
  cases p1 <;> cases p2 <;> cases p3 <;>
  (
    refine vseq ?_
    apply vrp
    · apply VE.cons
      · exact ev_assign rfl (gn rfl)
      simp only [nm, seval]
      exact VE.nil _
    · kernel_rfl
    change VOk _ _ _ _ _
    refine vseq ?_
    apply vrp
    · apply VE.cons
      · exact ev_move rfl (gn rfl)
      simp only [nm, seval]
      apply VE.cons
      · exact ev_eql rfl (gn rfl) rfl rfl h_p1
      simp only [nm, seval]
      apply VE.cons
      · exact ev_move rfl (gn rfl)
      simp only [nm, seval]
      apply VE.cons
      · first | exact Ev.skip (fun _ => rfl) | exact ev_move rfl (fun _ => rfl)
      simp only [nm, seval]
      apply VE.cons
      · first | exact Ev.skip (fun _ => rfl) | exact ev_geq rfl (fun _ => rfl) rfl rfl h_p2
      simp only [nm, seval]
      apply VE.cons
      · first | exact Ev.skip (fun _ => rfl) | exact ev_move rfl (fun _ => rfl)
      simp only [nm, seval]
      apply VE.cons
      · first | exact Ev.skip (fun _ => rfl) | exact ev_move rfl (fun _ => rfl)
      simp only [nm, seval]
      apply VE.cons
      · first | exact Ev.skip (fun _ => rfl) | exact ev_leq rfl (fun _ => rfl) rfl rfl h_p3
      simp only [nm, seval]
      apply VE.cons
      · first | exact Ev.skip (fun _ => rfl) | exact ev_pick_t rfl (fun _ => rfl) rfl rfl | exact ev_pick_f rfl (fun _ => rfl) rfl rfl
      simp only [nm, seval]
      apply VE.cons
      · first | exact ev_pick_t rfl (gn rfl) rfl rfl | exact ev_pick_f rfl (gn rfl) rfl rfl
      simp only [nm, seval]
      apply VE.cons
      · exact ev_assign rfl (gn rfl)
      simp only [nm, seval]
      exact VE.nil _
    · kernel_rfl
    change VOk _ _ _ _ _
    refine vret ?_
    refine post_ret (res1 Tryd.results41 (rv_tmp rfl)) ?_
    intro ρ w' hr
    exact ⟨rfl, hr.1⟩
  )
theorem rmade_ok (t : Int) (w : World) : Calls Tryd.prog 35 #[.int .i64 t] w fun e w' => e = .returned (.bool (madeT t)) ∧ Bw w w' := by
  unfold madeT
  obtain ⟨p1, h_p1⟩ : ∃ p, decide (t = 48) = p := ⟨_, rfl⟩
  obtain ⟨p2, h_p2⟩ : ∃ p, decide (t ≥ 160) = p := ⟨_, rfl⟩
  obtain ⟨p3, h_p3⟩ : ∃ p, decide (t ≤ 163) = p := ⟨_, rfl⟩
  rw [h_p1, h_p2, h_p3]
  go_enter Tryd.func35, Tryd.ntmps35
  refine ve_go ?_
  simp only [List.map_cons, List.map_nil]
  cases p1 <;> cases p2 <;> cases p3 <;>
  (
    refine vseq ?_
    apply vrp
    · apply VE.cons
      · exact ev_assign rfl (gn rfl)
      simp only [nm, seval]
      exact VE.nil _
    · kernel_rfl
    change VOk _ _ _ _ _
    refine vseq ?_
    apply vrp
    · apply VE.cons
      · exact ev_move rfl (gn rfl)
      simp only [nm, seval]
      apply VE.cons
      · exact ev_eql rfl (gn rfl) rfl rfl h_p1
      simp only [nm, seval]
      apply VE.cons
      · exact ev_move rfl (gn rfl)
      simp only [nm, seval]
      apply VE.cons
      · first | exact Ev.skip (fun _ => rfl) | exact ev_move rfl (fun _ => rfl)
      simp only [nm, seval]
      apply VE.cons
      · first | exact Ev.skip (fun _ => rfl) | exact ev_geq rfl (fun _ => rfl) rfl rfl h_p2
      simp only [nm, seval]
      apply VE.cons
      · first | exact Ev.skip (fun _ => rfl) | exact ev_move rfl (fun _ => rfl)
      simp only [nm, seval]
      apply VE.cons
      · first | exact Ev.skip (fun _ => rfl) | exact ev_move rfl (fun _ => rfl)
      simp only [nm, seval]
      apply VE.cons
      · first | exact Ev.skip (fun _ => rfl) | exact ev_leq rfl (fun _ => rfl) rfl rfl h_p3
      simp only [nm, seval]
      apply VE.cons
      · first | exact Ev.skip (fun _ => rfl) | exact ev_pick_t rfl (fun _ => rfl) rfl rfl | exact ev_pick_f rfl (fun _ => rfl) rfl rfl
      simp only [nm, seval]
      apply VE.cons
      · first | exact ev_pick_t rfl (gn rfl) rfl rfl | exact ev_pick_f rfl (gn rfl) rfl rfl
      simp only [nm, seval]
      apply VE.cons
      · exact ev_assign rfl (gn rfl)
      simp only [nm, seval]
      exact VE.nil _
    · kernel_rfl
    change VOk _ _ _ _ _
    refine vret ?_
    refine post_ret (res1 Tryd.results35 (rv_tmp rfl)) ?_
    intro ρ w' hr
    exact ⟨rfl, hr.1⟩
  )
theorem plainf_ok (b : Nat) (w : World) : Calls Tryd.prog 62 #[b8 b] w fun e w' => e = .returned (.bool (plainB b)) ∧ Bw w w' := by
  unfold plainB
  obtain ⟨p1, h_p1⟩ : ∃ p, decide (b < 32) = p := ⟨_, rfl⟩
  obtain ⟨p2, h_p2⟩ : ∃ p, decide (b > 126) = p := ⟨_, rfl⟩
  rw [h_p1, h_p2]
  rw [← nat_lt b 32] at h_p1
  rw [← nat_gt b 126] at h_p2
  go_enter Tryd.func62, Tryd.ntmps62
  refine ve_go ?_
  simp only [List.map_cons, List.map_nil]
  cases p1 <;> cases p2 <;>
  (
    refine vseq ?_
    apply vrp
    · apply VE.cons
      · exact ev_assign rfl (gn rfl)
      simp only [nm, seval]
      exact VE.nil _
    · kernel_rfl
    change VOk _ _ _ _ _
    refine vseq ?_
    apply vrp
    · apply VE.cons
      · exact ev_move rfl (gn rfl)
      simp only [nm, seval]
      apply VE.cons
      · exact ev_lss5 rfl (gn rfl) rfl rfl h_p1
      simp only [nm, seval]
      apply VE.cons
      · exact ev_move rfl (gn rfl)
      simp only [nm, seval]
      apply VE.cons
      · first | exact Ev.skip (fun _ => rfl) | exact ev_move rfl (fun _ => rfl)
      simp only [nm, seval]
      apply VE.cons
      · first | exact Ev.skip (fun _ => rfl) | exact ev_gtr rfl (fun _ => rfl) rfl rfl h_p2
      simp only [nm, seval]
      apply VE.cons
      · first | exact ev_pick_t rfl (gn rfl) rfl rfl | exact ev_pick_f rfl (gn rfl) rfl rfl
      simp only [nm, seval]
      apply VE.cons
      · exact ev_assign rfl (gn rfl)
      simp only [nm, seval]
      exact VE.nil _
    · kernel_rfl
    change VOk _ _ _ _ _
    refine vret ?_
    refine post_ret (res1 Tryd.results62 (rv_tmp rfl)) ?_
    intro ρ w' hr
    exact ⟨rfl, hr.1⟩
  )
theorem whole_s {v : Value} {l : List Value} {n : Nat} {S : Nat → Prop} (hn : n < 2) (w : World) (hv : SlAt w v n 1 l S) : Calls Tryd.prog 51 #[v] w fun e w' => e = .returned (.bool (decide (n = 1))) ∧ Bw w w' := by
  go_enter Tryd.func51, Tryd.ntmps51
  refine ve_go ?_
  simp only [List.map_cons, List.map_nil]
  refine vseq ?_
  apply vrp
  · apply VE.cons
    · exact ev_assign rfl (gn rfl)
    simp only [nm, seval]
    exact VE.nil _
  · kernel_rfl
  change VOk _ _ _ _ _
  refine vseq ?_
  refine vseq ?_
  apply vrp
  · apply VE.cons
    · exact ev_move rfl (gn rfl)
    simp only [nm, seval]
    apply VE.cons
    · exact ev_len rfl (gn rfl) rfl Tryd.underlying26 (rdg_arg hv)
    simp only [nm, seval]
    apply VE.cons
    · exact ev_lss (p := true) rfl (gn rfl) rfl rfl (decide_eq_true (by omega))
    simp only [nm, seval]
    exact VE.nil _
  · kernel_rfl
  change VOk _ _ _ _ _
  refine vcond_t rfl ?_
  refine vseq ?_
  apply vrp
  · apply VE.cons
    · exact ev_move rfl (gn rfl)
    simp only [nm, seval]
    apply VE.cons
    · exact ev_len rfl (gn rfl) rfl Tryd.underlying26 (rdg_arg hv)
    simp only [nm, seval]
    apply VE.cons
    · exact ev_eql rfl (gn rfl) rfl rfl (nat_eq n 1)
    simp only [nm, seval]
    apply VE.cons
    · exact ev_assign rfl (gn rfl)
    simp only [nm, seval]
    exact VE.nil _
  · kernel_rfl
  change VOk _ _ _ _ _
  refine vret ?_
  refine post_ret (res1 Tryd.results51 (rv_tmp rfl)) ?_
  intro ρ w' hr
  exact ⟨rfl, hr.1⟩
theorem whole_l {v : Value} {b0 b1 : Nat} {l : List Value} {n : Nat} {S : Nat → Prop} (hn : 2 ≤ n) (w : World) (hv : SlAt w v n 1 (b8 b0 :: b8 b1 :: l) S) : Calls Tryd.prog 51 #[v] w fun e w' => e = .returned (.bool (!((decide (b0 = 0) && decide (b1 < 128)) || (decide (b0 = 255) && decide (b1 ≥ 128))))) ∧ Bw w w' := by
  obtain ⟨p1, h_p1⟩ : ∃ p, decide (b0 = 0) = p := ⟨_, rfl⟩
  obtain ⟨p2, h_p2⟩ : ∃ p, decide (b1 < 128) = p := ⟨_, rfl⟩
  obtain ⟨p3, h_p3⟩ : ∃ p, decide (b0 = 255) = p := ⟨_, rfl⟩
  obtain ⟨p4, h_p4⟩ : ∃ p, decide (b1 ≥ 128) = p := ⟨_, rfl⟩
  rw [h_p1, h_p2, h_p3, h_p4]
  rw [← nat_eq b0 0] at h_p1
  rw [← nat_lt b1 128] at h_p2
  rw [← nat_eq b0 255] at h_p3
  rw [← nat_ge b1 128] at h_p4
  go_enter Tryd.func51, Tryd.ntmps51
  refine ve_go ?_
  simp only [List.map_cons, List.map_nil]
  cases p1 <;> cases p2 <;> cases p3 <;> cases p4 <;>
  (
    refine vseq ?_
    apply vrp
    · apply VE.cons
      · exact ev_assign rfl (gn rfl)
      simp only [nm, seval]
      exact VE.nil _
    · kernel_rfl
    change VOk _ _ _ _ _
    refine vseq ?_
    refine vseq ?_
    apply vrp
    · apply VE.cons
      · exact ev_move rfl (gn rfl)
      simp only [nm, seval]
      apply VE.cons
      · exact ev_len rfl (gn rfl) rfl Tryd.underlying26 (rdg_arg hv)
      simp only [nm, seval]
      apply VE.cons
      · exact ev_lss (p := false) rfl (gn rfl) rfl rfl (decide_eq_false (by omega))
      simp only [nm, seval]
      exact VE.nil _
    · kernel_rfl
    change VOk _ _ _ _ _
    refine vcond_f rfl ?_
    refine vskip ?_
    change VOk _ _ _ _ _
    refine vseq ?_
    apply vrp
    · apply VE.cons
      · exact ev_move rfl (gn rfl)
      simp only [nm, seval]
      apply VE.cons
      · exact ev_idx (k := 0) rfl (gn rfl) rfl rfl Tryd.underlying26 Tryd.sizeOf5 (rdg_arg hv) (by omega) (by decide)
      simp only [nm, seval]
      apply VE.cons
      · exact ev_loadi rfl (gn rfl) rfl Tryd.underlying5 rfl (rdg_arg hv) (rfl)
      simp only [nm, seval]
      apply VE.cons
      · exact ev_eql rfl (gn rfl) rfl rfl h_p1
      simp only [nm, seval]
      apply VE.cons
      · exact ev_move rfl (gn rfl)
      simp only [nm, seval]
      apply VE.cons
      · first | exact Ev.skip (fun _ => rfl) | exact ev_move rfl (fun _ => rfl)
      simp only [nm, seval]
      apply VE.cons
      · first | exact Ev.skip (fun _ => rfl) | exact ev_idx (k := 1) rfl (fun _ => rfl) rfl rfl Tryd.underlying26 Tryd.sizeOf5 (rdg_arg hv) (by omega) (by decide)
      simp only [nm, seval]
      apply VE.cons
      · first | exact Ev.skip (fun _ => rfl) | exact ev_loadi rfl (fun _ => rfl) rfl Tryd.underlying5 rfl (rdg_arg hv) (rfl)
      simp only [nm, seval]
      apply VE.cons
      · first | exact Ev.skip (fun _ => rfl) | exact ev_lss5 rfl (fun _ => rfl) rfl rfl h_p2
      simp only [nm, seval]
      apply VE.cons
      · first | exact ev_pick_t rfl (gn rfl) rfl rfl | exact ev_pick_f rfl (gn rfl) rfl rfl
      simp only [nm, seval]
      apply VE.cons
      · exact ev_move rfl (gn rfl)
      simp only [nm, seval]
      apply VE.cons
      · first | exact Ev.skip (fun _ => rfl) | exact ev_move rfl (fun _ => rfl)
      simp only [nm, seval]
      apply VE.cons
      · first | exact Ev.skip (fun _ => rfl) | exact ev_idx (k := 0) rfl (fun _ => rfl) rfl rfl Tryd.underlying26 Tryd.sizeOf5 (rdg_arg hv) (by omega) (by decide)
      simp only [nm, seval]
      apply VE.cons
      · first | exact Ev.skip (fun _ => rfl) | exact ev_loadi rfl (fun _ => rfl) rfl Tryd.underlying5 rfl (rdg_arg hv) (rfl)
      simp only [nm, seval]
      apply VE.cons
      · first | exact Ev.skip (fun _ => rfl) | exact ev_eql rfl (fun _ => rfl) rfl rfl h_p3
      simp only [nm, seval]
      apply VE.cons
      · first | exact Ev.skip (fun _ => rfl) | exact ev_move rfl (fun _ => rfl)
      simp only [nm, seval]
      apply VE.cons
      · first | exact Ev.skip (fun _ => rfl) | exact ev_move rfl (fun _ => rfl)
      simp only [nm, seval]
      apply VE.cons
      · first | exact Ev.skip (fun _ => rfl) | exact ev_idx (k := 1) rfl (fun _ => rfl) rfl rfl Tryd.underlying26 Tryd.sizeOf5 (rdg_arg hv) (by omega) (by decide)
      simp only [nm, seval]
      apply VE.cons
      · first | exact Ev.skip (fun _ => rfl) | exact ev_loadi rfl (fun _ => rfl) rfl Tryd.underlying5 rfl (rdg_arg hv) (rfl)
      simp only [nm, seval]
      apply VE.cons
      · first | exact Ev.skip (fun _ => rfl) | exact ev_geq5 rfl (fun _ => rfl) rfl rfl h_p4
      simp only [nm, seval]
      apply VE.cons
      · first | exact Ev.skip (fun _ => rfl) | exact ev_pick_t rfl (fun _ => rfl) rfl rfl | exact ev_pick_f rfl (fun _ => rfl) rfl rfl
      simp only [nm, seval]
      apply VE.cons
      · first | exact ev_pick_t rfl (gn rfl) rfl rfl | exact ev_pick_f rfl (gn rfl) rfl rfl
      simp only [nm, seval]
      apply VE.cons
      · exact ev_not rfl (gn rfl) rfl
      simp only [nm, seval]
      apply VE.cons
      · exact ev_assign rfl (gn rfl)
      simp only [nm, seval]
      exact VE.nil _
    · kernel_rfl
    change VOk _ _ _ _ _
    refine vret ?_
    refine post_ret (res1 Tryd.results51 (rv_tmp rfl)) ?_
    intro ρ w' hr
    exact ⟨rfl, hr.1⟩
  )
end Go.Proofs.YtmgmiiongleaeaaDoor
