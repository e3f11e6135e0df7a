import Derived.Test.YtmgmiiongleaeaaDoorDb
import Derived.Laws.BitsAllLaws
namespace Go.Proofs.YtmgmiiongleaeaaDoor
open Go.RowKit Go.Vx
open Go.Toll (Gw)
set_option maxHeartbeats 4000000
set_option maxRecDepth 100000
def lastT (bs : List Nat) : Nat := bs.getD (bs.length - 1) 0
def md (a b : Nat) : Nat := a % 2 ^ b
def bits1 (b0 : Nat) (r : List Nat) : Bool := bif decide (b0 ≥ 8) then false else bif decide (r.length + 1 = 1) then decide (b0 = 0) else decide (md (lastT (b0 :: r)) b0 = 0)
def bitsT : List Nat → Bool
  | [] => false
  | b0 :: r => bits1 b0 r
def oneT (bs : List Nat) : Bool := decide (bs.length = 1) && (decide (bs.getD 0 0 = 0) || decide (bs.getD 0 0 = 255))
def bodyT (tag : Int) (bs : List Nat) : Bool :=
  bif decide (tag = 1) then oneT bs else bif decide (tag = 2) then wholeT bs else bif decide (tag = 3) then bitsT bs else bif decide (tag = 4) then true else bif decide (tag = 6) then oidT bs else bif decide (tag = 12) then plainT bs else false
theorem getD_get {bs : List Nat} {i : Nat} (h : i < bs.length) : bs[i]? = some (bs.getD i 0) := by simp [List.getD, h]
theorem shl8 {b : Nat} (hb : b < 8) (p q : Operand) (w : World) : (do eqGuard .shl 5 p q (.int .u8 1) (.int .u8 (b : Nat)); binOp .shl 5 (.int .u8 1) (.int .u8 (b : Nat)) : Sem Value).run Tryd.prog w = .ok (.int .u8 ((2 ^ b : Nat) : Int)) w := by
  have : b = 0 ∨ b = 1 ∨ b = 2 ∨ b = 3 ∨ b = 4 ∨ b = 5 ∨ b = 6 ∨ b = 7 := by omega
  rcases this with rfl | rfl | rfl | rfl | rfl | rfl | rfl | rfl <;> (go_simp; rfl)
theorem and8 {a b : Nat} (ha : a < 256) (hb : b < 8) (p q : Operand) (w : World) : (do eqGuard .and 5 p q (.int .u8 (a : Nat)) (.int .u8 ((2 ^ b - 1 : Nat) : Int)); binOp .and 5 (.int .u8 (a : Nat)) (.int .u8 ((2 ^ b - 1 : Nat) : Int)) : Sem Value).run Tryd.prog w = .ok (.int .u8 ((md a b : Nat) : Int)) w := by
  have h2 : 2 ^ b ≤ 2 ^ 8 := Nat.pow_le_pow_right (by decide) (by omega)
  go_simp
  rw [u8_and_nat a (2 ^ b - 1) ha (by omega), Nat.and_two_pow_sub_one_eq_mod]
  rfl
theorem whole_ok {v : Value} {bs : List Nat} {S : Nat → Prop} (w : World) (hv : SlAt w v bs.length 1 (bs.map b8) S) : Calls Tryd.prog 51 #[v] w fun e w' => e = .returned (.bool (wholeT bs)) ∧ Bw w w' := by
  match bs, hv with
  | [], hv => exact whole_s (n := 0) (by decide) w hv
  | [_], hv => exact whole_s (n := 1) (by decide) w hv
  | b0 :: b1 :: r, hv => exact whole_l (by simp) w hv
theorem bits_nil {v : Value} {l : List Value} {S : Nat → Prop} (w : World) (hv : SlAt w v 0 1 l S) : Calls Tryd.prog 52 #[v] w fun e w' => e = .returned (.bool false) ∧ Bw w w' := by
  go_enter Tryd.func52, Tryd.ntmps52
  refine ve_go ?_
  simp only [List.map_cons, List.map_nil]
  refine vseq ?_
  apply vrp
  · apply VE.cons
    · exact ev_assign rfl (gn rfl)
    simp only [nm, seval]
    exact VE.nil _
  · kernel_rfl
  change VOk _ _ _ _ _
  refine vseq ?_
  refine vblock ?_
  refine vseq ?_
  apply vrp
  · apply VE.cons
    · exact ev_move rfl (gn rfl)
    simp only [nm, seval]
    apply VE.cons
    · exact ev_len rfl (gn rfl) rfl Tryd.underlying26 (rdg_arg hv)
    simp only [nm, seval]
    apply VE.cons
    · exact ev_eql (p := true) rfl (gn rfl) rfl rfl (by decide)
    simp only [nm, seval]
    apply VE.cons
    · exact ev_move rfl (gn rfl)
    simp only [nm, seval]
    apply VE.cons
    · first | exact Ev.skip (fun _ => rfl) | exact ev_move rfl (fun _ => rfl)
    simp only [nm, seval]
    apply VE.cons
    · first | exact Ev.skip (fun _ => rfl) | exact ev_index rfl (fun _ => rfl) rfl rfl Tryd.underlying26 Tryd.sizeOf5 (by decide) (by decide) | exact ev_indexx rfl (fun _ => rfl) rfl rfl Tryd.underlying26 Tryd.sizeOf5 (by decide) (by decide)
    simp only [nm, seval]
    apply VE.cons
    · first | exact Ev.skip (fun _ => rfl) | exact ev_load1 rfl (fun _ => rfl) rfl rfl Tryd.underlying5 rfl rfl | exact ev_loadx1 rfl (fun _ => rfl) rfl Tryd.underlying5 rfl (by assumption)
    simp only [nm, seval]
    apply VE.cons
    · first | exact Ev.skip (fun _ => rfl) | refine ev_pure' (fun _ => rfl) (fun ρ w => by simp only [VS.act, SV.c, List.map_cons, List.map_nil]; go_simp; exact rfl) (fun _ _ => rfl)
    simp only [nm, seval]
    apply VE.cons
    · first | exact ev_pick_t rfl (gn rfl) rfl rfl | exact ev_pick_f rfl (gn rfl) rfl rfl
    simp only [nm, seval]
    apply VE.cons
    · exact ev_assign rfl (gn rfl)
    simp only [nm, seval]
    exact VE.nil _
  · kernel_rfl
  change VOk _ _ _ _ _
  refine vcond_t rfl ?_
  refine vseq ?_
  apply vrp
  · apply VE.cons
    · exact ev_assign rfl (gn rfl)
    simp only [nm, seval]
    exact VE.nil _
  · kernel_rfl
  change VOk _ _ _ _ _
  refine vret ?_
  refine post_ret (res1 Tryd.results52 (rv_tmp rfl)) ?_
  intro ρ w' hr
  exact ⟨rfl, hr.1⟩
theorem bits_cons {v : Value} {b0 : Nat} {r : List Nat} {S : Nat → Prop} (w : World) (hv : SlAt w v (b0 :: r).length 1 ((b0 :: r).map b8) S) (hm : r.length < 9223372036854775807) (h8 : ∀ b ∈ b0 :: r, b < 256) : Calls Tryd.prog 52 #[v] w fun e w' => e = .returned (.bool (bits1 b0 r)) ∧ Bw w w' := by
  unfold bits1
  obtain ⟨q1, h_q1⟩ : ∃ p, decide (b0 ≥ 8) = p := ⟨_, rfl⟩
  obtain ⟨q2, h_q2⟩ : ∃ p, decide (r.length + 1 = 1) = p := ⟨_, rfl⟩
  rw [h_q1, h_q2]
  have h_q1' := (nat_ge b0 8).trans h_q1
  have h_q2' := (nat_eq (r.length + 1) 1).trans h_q2
  have hlast : (b0 :: r)[r.length]? = some (lastT (b0 :: r)) := by unfold lastT; exact getD_get (by simp)
  have hl8 : lastT (b0 :: r) < 256 := h8 _ (List.mem_of_getElem? hlast)
  go_enter Tryd.func52, Tryd.ntmps52
  refine ve_go ?_
  simp only [List.map_cons, List.map_nil]
  refine vseq ?_
  apply vrp
  · apply VE.cons
    · exact ev_assign rfl (gn rfl)
    simp only [nm, seval]
    exact VE.nil _
  · kernel_rfl
  change VOk _ _ _ _ _
  refine vseq ?_
  refine vblock ?_
  refine vseq ?_
  apply vrp
  · apply VE.cons
    · exact ev_move rfl (gn rfl)
    simp only [nm, seval]
    apply VE.cons
    · exact ev_len rfl (gn rfl) rfl Tryd.underlying26 (rdg_arg hv)
    simp only [nm, seval]
    apply VE.cons
    · exact ev_eql (p := false) rfl (gn rfl) rfl rfl (decide_eq_false (by simp; omega))
    simp only [nm, seval]
    apply VE.cons
    · exact ev_move rfl (gn rfl)
    simp only [nm, seval]
    apply VE.cons
    · first | exact Ev.skip (fun _ => rfl) | exact ev_move rfl (fun _ => rfl)
    simp only [nm, seval]
    apply VE.cons
    · first | exact Ev.skip (fun _ => rfl) | exact ev_idx (k := 0) rfl (fun _ => rfl) rfl rfl Tryd.underlying26 Tryd.sizeOf5 (rdg_arg hv) (by simp) (by decide)
    simp only [nm, seval]
    apply VE.cons
    · first | exact Ev.skip (fun _ => rfl) | exact ev_loadi rfl (fun _ => rfl) rfl Tryd.underlying5 rfl (rdg_arg hv) (rfl)
    simp only [nm, seval]
    apply VE.cons
    · first | exact Ev.skip (fun _ => rfl) | exact ev_geq5 rfl (fun _ => rfl) rfl rfl h_q1'
    simp only [nm, seval]
    apply VE.cons
    · first | exact ev_pick_t rfl (gn rfl) rfl rfl | exact ev_pick_f rfl (gn rfl) rfl rfl
    simp only [nm, seval]
    apply VE.cons
    · exact ev_assign rfl (gn rfl)
    simp only [nm, seval]
    exact VE.nil _
  · kernel_rfl
  change VOk _ _ _ _ _
  cases q1
  · refine vcond_f rfl ?_
    have hb8 : b0 < 8 := by have := of_decide_eq_false h_q1; omega
    refine vseq ?_
    apply vrp
    · apply VE.cons
      · exact ev_move rfl (gn rfl)
      simp only [nm, seval]
      apply VE.cons
      · exact ev_len rfl (gn rfl) rfl Tryd.underlying26 (rdg_arg hv)
      simp only [nm, seval]
      apply VE.cons
      · exact ev_eql rfl (gn rfl) rfl rfl h_q2'
      simp only [nm, seval]
      apply VE.cons
      · exact ev_assign rfl (gn rfl)
      simp only [nm, seval]
      exact VE.nil _
    · kernel_rfl
    change VOk _ _ _ _ _
    cases q2
    · refine vcond_f rfl ?_
      refine vskip ?_
      change VOk _ _ _ _ _
      refine vseq ?_
      apply vrd (by kernel_rfl)
      · apply VE.cons
        · exact ev_move rfl (gn rfl)
        simp only [nm, seval]
        apply VE.cons
        · exact ev_move rfl (gn rfl)
        simp only [nm, seval]
        apply VE.cons
        · exact ev_len rfl (gn rfl) rfl Tryd.underlying26 (rdg_arg hv)
        simp only [nm, seval]
        apply VE.cons
        · exact ev_sub (c := ((r.length : Nat) : Int)) rfl (gn rfl) rfl rfl (by simp only [List.length_cons]; rw [i64w (by omega) (by omega)]; omega)
        simp only [nm, seval]
        apply VE.cons
        · exact ev_idx (k := r.length) rfl (gn rfl) rfl rfl Tryd.underlying26 Tryd.sizeOf5 (rdg_arg hv) (by simp) (by decide)
        simp only [nm, seval]
        apply VE.cons
        · exact ev_loadi rfl (gn rfl) rfl Tryd.underlying5 rfl (rdg_arg hv) (map_get hlast)
        simp only [nm, seval]
        apply VE.cons
        · exact ev_move rfl (gn rfl)
        simp only [nm, seval]
        apply VE.cons
        · exact ev_idx (k := 0) rfl (gn rfl) rfl rfl Tryd.underlying26 Tryd.sizeOf5 (rdg_arg hv) (by simp) (by decide)
        simp only [nm, seval]
        apply VE.cons
        · exact ev_loadi rfl (gn rfl) rfl Tryd.underlying5 rfl (rdg_arg hv) (rfl)
        simp only [nm, seval]
        apply VE.cons
        · exact ev_bin rfl (gn rfl) rfl rfl (fun w => shl8 hb8 _ _ w)
        simp only [nm, seval]
        apply VE.cons
        · exact ev_sub (c := ((2 ^ b0 - 1 : Nat) : Int)) rfl (gn rfl) rfl rfl (by rw [IntKind.wrap_u8']; have := Nat.pow_le_pow_right (show 0 < 2 by decide) (show b0 ≤ 7 by omega); have := Nat.two_pow_pos b0; omega)
        simp only [nm, seval]
        apply VE.cons
        · exact ev_bin rfl (gn rfl) rfl rfl (fun w => and8 hl8 hb8 _ _ w)
        simp only [nm, seval]
        apply VE.cons
        · exact ev_eql rfl (gn rfl) rfl rfl (nat_eq _ 0)
        simp only [nm, seval]
        apply VE.cons
        · exact ev_assign rfl (gn rfl)
        simp only [nm, seval]
        exact VE.nil _
      · kernel_rfl
      change VOk _ _ _ _ _
      refine vret ?_
      refine post_ret (res1 Tryd.results52 (rv_tmp rfl)) ?_
      intro ρ w' hr
      exact ⟨rfl, hr.1⟩
    · refine vcond_t rfl ?_
      refine vseq ?_
      apply vrp
      · apply VE.cons
        · exact ev_move rfl (gn rfl)
        simp only [nm, seval]
        apply VE.cons
        · exact ev_idx (k := 0) rfl (gn rfl) rfl rfl Tryd.underlying26 Tryd.sizeOf5 (rdg_arg hv) (by simp) (by decide)
        simp only [nm, seval]
        apply VE.cons
        · exact ev_loadi rfl (gn rfl) rfl Tryd.underlying5 rfl (rdg_arg hv) (rfl)
        simp only [nm, seval]
        apply VE.cons
        · exact ev_eql rfl (gn rfl) rfl rfl (nat_eq b0 0)
        simp only [nm, seval]
        apply VE.cons
        · exact ev_assign rfl (gn rfl)
        simp only [nm, seval]
        exact VE.nil _
      · kernel_rfl
      change VOk _ _ _ _ _
      refine vret ?_
      refine post_ret (res1 Tryd.results52 (rv_tmp rfl)) ?_
      intro ρ w' hr
      exact ⟨rfl, hr.1⟩
  · refine vcond_t rfl ?_
    refine vseq ?_
    apply vrp
    · apply VE.cons
      · exact ev_assign rfl (gn rfl)
      simp only [nm, seval]
      exact VE.nil _
    · kernel_rfl
    change VOk _ _ _ _ _
    refine vret ?_
    refine post_ret (res1 Tryd.results52 (rv_tmp rfl)) ?_
    intro ρ w' hr
    exact ⟨rfl, hr.1⟩
theorem bits_ok {v : Value} {bs : List Nat} {S : Nat → Prop} (w : World) (hv : SlAt w v bs.length 1 (bs.map b8) S) (hm : bs.length < 9223372036854775807) (h8 : ∀ b ∈ bs, b < 256) : Calls Tryd.prog 52 #[v] w fun e w' => e = .returned (.bool (bitsT bs)) ∧ Bw w w' := by
  cases bs with
  | nil => exact bits_nil w hv
  | cons b0 r => exact bits_cons w hv (by simp at hm; omega) h8
theorem body_ok {v : Value} {bs : List Nat} {S : Nat → Prop} (tag : Int) (w : World) (hv : SlAt w v bs.length 1 (bs.map b8) S) (hm : bs.length < 9223372036854775807) (h8 : ∀ b ∈ bs, b < 256) : Calls Tryd.prog 42 #[.int .i64 tag, v] w fun e w' => e = .returned (.bool (bodyT tag bs)) ∧ Bw w w' := by
  unfold bodyT oneT
  obtain ⟨q1, h_q1⟩ : ∃ p, decide (tag = 1) = p := ⟨_, rfl⟩
  obtain ⟨q2, h_q2⟩ : ∃ p, decide (tag = 2) = p := ⟨_, rfl⟩
  obtain ⟨q3, h_q3⟩ : ∃ p, decide (tag = 3) = p := ⟨_, rfl⟩
  obtain ⟨q4, h_q4⟩ : ∃ p, decide (tag = 4) = p := ⟨_, rfl⟩
  obtain ⟨q5, h_q5⟩ : ∃ p, decide (tag = 6) = p := ⟨_, rfl⟩
  obtain ⟨q6, h_q6⟩ : ∃ p, decide (tag = 12) = p := ⟨_, rfl⟩
  obtain ⟨p1, h_p1⟩ : ∃ p, decide (bs.length = 1) = p := ⟨_, rfl⟩
  obtain ⟨p2, h_p2⟩ : ∃ p, decide (bs.getD 0 0 = 0) = p := ⟨_, rfl⟩
  obtain ⟨p3, h_p3⟩ : ∃ p, decide (bs.getD 0 0 = 255) = p := ⟨_, rfl⟩
  rw [h_q1, h_q2, h_q3, h_q4, h_q5, h_q6, h_p1, h_p2, h_p3]
  have h_p1' := (nat_eq bs.length 1).trans h_p1
  have h_p2' := (nat_eq (bs.getD 0 0) 0).trans h_p2
  have h_p3' := (nat_eq (bs.getD 0 0) 255).trans h_p3
  have hb0 : decide (bs.length = 1) = true → bs[0]? = some (bs.getD 0 0) := fun h => getD_get (by have := of_decide_eq_true h; omega)
  go_enter Tryd.func42, Tryd.ntmps42
  refine ve_go ?_
  simp only [List.map_cons, List.map_nil]
  refine vseq ?_
  apply vrp
  · apply VE.cons
    · exact ev_assign rfl (gn rfl)
    simp only [nm, seval]
    exact VE.nil _
  · kernel_rfl
  change VOk _ _ _ _ _
  refine vseq ?_
  refine vseq ?_
  apply vrp
  · apply VE.cons
    · exact ev_move rfl (gn rfl)
    simp only [nm, seval]
    exact VE.nil _
  · kernel_rfl
  change VOk _ _ _ _ _
  refine vblock ?_
  refine vseq ?_
  apply vrp
  · apply VE.cons
    · exact ev_eql rfl (gn rfl) rfl rfl h_q1
    simp only [nm, seval]
    apply VE.cons
    · exact ev_assign rfl (gn rfl)
    simp only [nm, seval]
    exact VE.nil _
  · kernel_rfl
  change VOk _ _ _ _ _
  cases q1
  · refine vcond_f rfl ?_
    refine vseq ?_
    apply vrp
    · apply VE.cons
      · exact ev_eql rfl (gn rfl) rfl rfl h_q2
      simp only [nm, seval]
      apply VE.cons
      · exact ev_assign rfl (gn rfl)
      simp only [nm, seval]
      exact VE.nil _
    · kernel_rfl
    change VOk _ _ _ _ _
    cases q2
    · refine vcond_f rfl ?_
      refine vseq ?_
      apply vrp
      · apply VE.cons
        · exact ev_eql rfl (gn rfl) rfl rfl h_q3
        simp only [nm, seval]
        apply VE.cons
        · exact ev_assign rfl (gn rfl)
        simp only [nm, seval]
        exact VE.nil _
      · kernel_rfl
      change VOk _ _ _ _ _
      cases q3
      · refine vcond_f rfl ?_
        refine vseq ?_
        apply vrp
        · apply VE.cons
          · exact ev_eql rfl (gn rfl) rfl rfl h_q4
          simp only [nm, seval]
          apply VE.cons
          · exact ev_assign rfl (gn rfl)
          simp only [nm, seval]
          exact VE.nil _
        · kernel_rfl
        change VOk _ _ _ _ _
        cases q4
        · refine vcond_f rfl ?_
          refine vseq ?_
          apply vrp
          · apply VE.cons
            · exact ev_eql rfl (gn rfl) rfl rfl h_q5
            simp only [nm, seval]
            apply VE.cons
            · exact ev_assign rfl (gn rfl)
            simp only [nm, seval]
            exact VE.nil _
          · kernel_rfl
          change VOk _ _ _ _ _
          cases q5
          · refine vcond_f rfl ?_
            refine vseq ?_
            apply vrp
            · apply VE.cons
              · exact ev_eql rfl (gn rfl) rfl rfl h_q6
              simp only [nm, seval]
              apply VE.cons
              · exact ev_assign rfl (gn rfl)
              simp only [nm, seval]
              exact VE.nil _
            · kernel_rfl
            change VOk _ _ _ _ _
            cases q6
            · refine vcond_f rfl ?_
              refine vskip ?_
              change VOk _ _ _ _ _
              refine vseq ?_
              apply vrp
              · apply VE.cons
                · exact ev_assign rfl (gn rfl)
                simp only [nm, seval]
                exact VE.nil _
              · kernel_rfl
              change VOk _ _ _ _ _
              refine vret ?_
              refine post_ret (res1 Tryd.results42 (rv_tmp rfl)) ?_
              intro ρ w' hr
              exact ⟨rfl, hr.1⟩
            · refine vcond_t rfl ?_
              refine vseq ?_
              apply vrp
              · apply VE.cons
                · exact ev_move rfl (gn rfl)
                simp only [nm, seval]
                apply VE.cons
                · exact ev_callb rfl (gn rfl) rfl (en_of Tryd.func54 (by kernel_rfl) rfl) (fun w' hb => plain_ok w' (sl_bw hv hb) hm)
                simp only [nm, seval]
                apply VE.cons
                · exact ev_assign rfl (gn rfl)
                simp only [nm, seval]
                exact VE.nil _
              · kernel_rfl
              change VOk _ _ _ _ _
              refine vret ?_
              refine post_ret (res1 Tryd.results42 (rv_tmp rfl)) ?_
              intro ρ w' hr
              exact ⟨rfl, hr.1⟩
          · refine vcond_t rfl ?_
            refine vseq ?_
            apply vrp
            · apply VE.cons
              · exact ev_move rfl (gn rfl)
              simp only [nm, seval]
              apply VE.cons
              · exact ev_callb rfl (gn rfl) rfl (en_of Tryd.func53 (by kernel_rfl) rfl) (fun w' hb => oid_ok w' (sl_bw hv hb) hm)
              simp only [nm, seval]
              apply VE.cons
              · exact ev_assign rfl (gn rfl)
              simp only [nm, seval]
              exact VE.nil _
            · kernel_rfl
            change VOk _ _ _ _ _
            refine vret ?_
            refine post_ret (res1 Tryd.results42 (rv_tmp rfl)) ?_
            intro ρ w' hr
            exact ⟨rfl, hr.1⟩
        · refine vcond_t rfl ?_
          refine vseq ?_
          apply vrp
          · apply VE.cons
            · exact ev_assign rfl (gn rfl)
            simp only [nm, seval]
            exact VE.nil _
          · kernel_rfl
          change VOk _ _ _ _ _
          refine vret ?_
          refine post_ret (res1 Tryd.results42 (rv_tmp rfl)) ?_
          intro ρ w' hr
          exact ⟨rfl, hr.1⟩
      · refine vcond_t rfl ?_
        refine vseq ?_
        apply vrp
        · apply VE.cons
          · exact ev_move rfl (gn rfl)
          simp only [nm, seval]
          apply VE.cons
          · exact ev_callb rfl (gn rfl) rfl (en_of Tryd.func52 (by kernel_rfl) rfl) (fun w' hb => bits_ok w' (sl_bw hv hb) hm h8)
          simp only [nm, seval]
          apply VE.cons
          · exact ev_assign rfl (gn rfl)
          simp only [nm, seval]
          exact VE.nil _
        · kernel_rfl
        change VOk _ _ _ _ _
        refine vret ?_
        refine post_ret (res1 Tryd.results42 (rv_tmp rfl)) ?_
        intro ρ w' hr
        exact ⟨rfl, hr.1⟩
    · refine vcond_t rfl ?_
      refine vseq ?_
      apply vrp
      · apply VE.cons
        · exact ev_move rfl (gn rfl)
        simp only [nm, seval]
        apply VE.cons
        · exact ev_callb rfl (gn rfl) rfl (en_of Tryd.func51 (by kernel_rfl) rfl) (fun w' hb => whole_ok w' (sl_bw hv hb))
        simp only [nm, seval]
        apply VE.cons
        · exact ev_assign rfl (gn rfl)
        simp only [nm, seval]
        exact VE.nil _
      · kernel_rfl
      change VOk _ _ _ _ _
      refine vret ?_
      refine post_ret (res1 Tryd.results42 (rv_tmp rfl)) ?_
      intro ρ w' hr
      exact ⟨rfl, hr.1⟩
  · refine vcond_t rfl ?_
    cases p1 <;> cases p2 <;> cases p3 <;>
    (
      refine vseq ?_
      apply vrp
      · apply VE.cons
        · exact ev_move rfl (gn rfl)
        simp only [nm, seval]
        apply VE.cons
        · exact ev_len rfl (gn rfl) rfl Tryd.underlying26 (rdg_arg hv)
        simp only [nm, seval]
        apply VE.cons
        · exact ev_eql rfl (gn rfl) rfl rfl h_p1'
        simp only [nm, seval]
        apply VE.cons
        · exact ev_move rfl (gn rfl)
        simp only [nm, seval]
        apply VE.cons
        · first | exact Ev.skip (fun _ => rfl) | exact ev_move rfl (fun _ => rfl)
        simp only [nm, seval]
        apply VE.cons
        · first | exact Ev.skip (fun _ => rfl) | exact ev_idx (k := 0) rfl (fun _ => rfl) rfl rfl Tryd.underlying26 Tryd.sizeOf5 (rdg_arg hv) (by have := of_decide_eq_true h_p1; omega) (by decide)
        simp only [nm, seval]
        apply VE.cons
        · first | exact Ev.skip (fun _ => rfl) | exact ev_loadi rfl (fun _ => rfl) rfl Tryd.underlying5 rfl (rdg_arg hv) (map_get (hb0 h_p1))
        simp only [nm, seval]
        apply VE.cons
        · first | exact Ev.skip (fun _ => rfl) | exact ev_eql rfl (fun _ => rfl) rfl rfl h_p2'
        simp only [nm, seval]
        apply VE.cons
        · first | exact Ev.skip (fun _ => rfl) | exact ev_move rfl (fun _ => rfl)
        simp only [nm, seval]
        apply VE.cons
        · first | exact Ev.skip (fun _ => rfl) | exact ev_move rfl (fun _ => rfl)
        simp only [nm, seval]
        apply VE.cons
        · first | exact Ev.skip (fun _ => rfl) | exact ev_idx (k := 0) rfl (fun _ => rfl) rfl rfl Tryd.underlying26 Tryd.sizeOf5 (rdg_arg hv) (by have := of_decide_eq_true h_p1; omega) (by decide)
        simp only [nm, seval]
        apply VE.cons
        · first | exact Ev.skip (fun _ => rfl) | exact ev_loadi rfl (fun _ => rfl) rfl Tryd.underlying5 rfl (rdg_arg hv) (map_get (hb0 h_p1))
        simp only [nm, seval]
        apply VE.cons
        · first | exact Ev.skip (fun _ => rfl) | exact ev_eql rfl (fun _ => rfl) rfl rfl h_p3'
        simp only [nm, seval]
        apply VE.cons
        · first | exact Ev.skip (fun _ => rfl) | exact ev_pick_t rfl (fun _ => rfl) rfl rfl | exact ev_pick_f rfl (fun _ => rfl) rfl rfl
        simp only [nm, seval]
        apply VE.cons
        · first | exact ev_pick_t rfl (gn rfl) rfl rfl | exact ev_pick_f rfl (gn rfl) rfl rfl
        simp only [nm, seval]
        apply VE.cons
        · exact ev_assign rfl (gn rfl)
        simp only [nm, seval]
        exact VE.nil _
      · kernel_rfl
      change VOk _ _ _ _ _
      refine vret ?_
      refine post_ret (res1 Tryd.results42 (rv_tmp rfl)) ?_
      intro ρ w' hr
      exact ⟨rfl, hr.1⟩
    )
end Go.Proofs.YtmgmiiongleaeaaDoor
