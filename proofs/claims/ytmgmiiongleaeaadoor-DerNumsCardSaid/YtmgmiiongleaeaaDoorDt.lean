import Derived.Test.YtmgmiiongleaeaaDoorDs
import Derived.Test.YtmgmiiongleaeaaDoorVi
namespace Go.Proofs.YtmgmiiongleaeaaDoor
open Go.RowKit Go.Vx
open Go.Toll (Gw)
set_option maxHeartbeats 4000000
set_option maxRecDepth 100000
/-! ### numbers, filled up -/
def valT : Tr → Nat → Option (List Nat)
  | .mk tg b ks, sz => bif decide (tg ≠ 2) then none else bif !(rightT (.mk tg b ks) 1) then none else bif decide (b.headD 0 ≥ 128) then none else bif decide ((trimL b).length > sz) then none else some (List.replicate (sz - (trimL b).length) 0 ++ trimL b)
theorem valT_some {tg : Int} {b : List Nat} {ks : List Tr} {sz : Nat} {l : List Nat} (h : valT (.mk tg b ks) sz = some l) : decide (tg ≠ 2) = false ∧ rightT (.mk tg b ks) 1 = true ∧ decide (b.headD 0 ≥ 128) = false ∧ decide ((trimL b).length > sz) = false ∧ l = List.replicate (sz - (trimL b).length) 0 ++ trimL b := by
  simp only [valT] at h
  cases h1 : decide (tg ≠ 2) <;> rw [h1] at h <;> simp only [cond_true, cond_false] at h
  · cases h2 : rightT (.mk tg b ks) 1 <;> rw [h2] at h <;> simp only [Bool.not_true, Bool.not_false, cond_true, cond_false] at h
    · cases h
    · cases h3 : decide (b.headD 0 ≥ 128) <;> rw [h3] at h <;> simp only [cond_true, cond_false] at h
      · cases h4 : decide ((trimL b).length > sz) <;> rw [h4] at h <;> simp only [cond_true, cond_false] at h
        · exact ⟨rfl, rfl, rfl, rfl, (Option.some.inj h).symm⟩
        · cases h
      · cases h
  · cases h
theorem valT_none {tg : Int} {b : List Nat} {ks : List Tr} {sz : Nat} (h : valT (.mk tg b ks) sz = none) : (decide (tg ≠ 2) || (!(rightT (.mk tg b ks) 1) || (decide (b.headD 0 ≥ 128) || decide ((trimL b).length > sz)))) = true := by
  simp only [valT] at h
  cases h1 : decide (tg ≠ 2) <;> rw [h1] at h <;> simp only [cond_true, cond_false] at h
  · cases h2 : rightT (.mk tg b ks) 1 <;> rw [h2] at h <;> simp only [Bool.not_true, Bool.not_false, cond_true, cond_false] at h
    · rfl
    · cases h3 : decide (b.headD 0 ≥ 128) <;> rw [h3] at h <;> simp only [cond_true, cond_false] at h
      · cases h4 : decide ((trimL b).length > sz) <;> rw [h4] at h <;> simp only [cond_true, cond_false] at h
        · cases h
        · rfl
      · rfl
  · rfl
theorem trimL_lt {bs : List Nat} (h : ∀ x ∈ bs, x < 256) : ∀ x ∈ trimL bs, x < 256 := fun x hx => h x ((List.dropWhile_suffix _).subset hx)
theorem valT_len {t : Tr} {sz : Nat} {l : List Nat} (h : valT t sz = some l) : l.length = sz := by
  cases t with
  | mk tg b ks =>
    obtain ⟨_, _, _, h4, rfl⟩ := valT_some h
    have := of_decide_eq_false h4
    rw [List.length_append, List.length_replicate]; omega
theorem valT_lt {t : Tr} (hok : t.ok) {sz : Nat} {l : List Nat} (h : valT t sz = some l) : ∀ x ∈ l, x < 256 := by
  cases t with
  | mk tg b ks =>
    obtain ⟨_, _, _, h4, rfl⟩ := valT_some h
    simp only [Tr.ok] at hok
    intro x hx
    rcases List.mem_append.1 hx with hx | hx
    · rw [(List.mem_replicate.1 hx).2]; decide
    · exact trimL_lt hok.1 x hx
/-- a number that is right has bytes. -/
theorem right2 {tg : Int} {b : List Nat} {ks : List Tr} (h1 : decide (tg ≠ 2) = false) (h2 : rightT (.mk tg b ks) 1 = true) : wholeT b = true := by
  have e : tg = 2 := by have := of_decide_eq_false h1; omega
  subst e
  have h : rightT (.mk 2 b ks) 1 = (decide (ks.length = 0) && wholeT b) := rfl
  rw [h, Bool.and_eq_true] at h2
  exact h2.2
theorem whole_pos {b : List Nat} (h : wholeT b = true) : 0 < b.length := by
  cases b with
  | nil => cases h
  | cons x r => simp
theorem zeros_b8 (k : Nat) (l : List Nat) : List.replicate k (Value.int .u8 0) ++ l.map b8 = (List.replicate k 0 ++ l).map b8 := by
  rw [List.map_append, List.map_replicate]; rfl
theorem value_n {tg : Int} {b : List Nat} {ks : List Tr} {bv kv : Value} {S : Nat → Prop} {sz : Nat} (w : World) (hok : (Tr.mk tg b ks).ok) (hx : DN w S (.mk tg b ks) [.int .i64 tg, bv, kv]) (hsz : sz ≤ 64) (h : valT (.mk tg b ks) sz = none) : Calls Tryd.prog 37 #[.agg #[.int .i64 tg, bv, kv], .int .i64 (sz : Nat)] w fun e w' => e = .returned (.tuple #[.slice none 0 0, .int .i64 2]) ∧ Bw w w' := by
  have hbm : b.length ≤ maxLen := by simp only [Tr.ok] at hok; simp only [maxLen]; omega
  have hv : SlAt w bv b.length 1 (b.map b8) S := by
    simp only [DN] at hx
    obtain ⟨bv', kv', cs, e, h2, _⟩ := hx
    simp only [List.cons.injEq, and_true] at e
    rw [e.2.1]; exact h2
  have htv := trim_sl hv
  have htl := trimL_len b
  have hle : decide ((trimL b).length > sz) = false → (trimL b).length ≤ sz := fun g => by have := of_decide_eq_false g; omega
  have hpos : decide (tg ≠ 2) = false → rightT (.mk tg b ks) 1 = true → 0 < b.length := fun g1 g2 => whole_pos (right2 g1 g2)
  have hq := valT_none h
  obtain ⟨q1, h_q1⟩ : ∃ p, decide (tg ≠ 2) = p := ⟨_, rfl⟩
  obtain ⟨q2, h_q2⟩ : ∃ p, rightT (.mk tg b ks) 1 = p := ⟨_, rfl⟩
  obtain ⟨q3, h_q3⟩ : ∃ p, decide (b.headD 0 ≥ 128) = p := ⟨_, rfl⟩
  obtain ⟨q4, h_q4⟩ : ∃ p, decide ((trimL b).length > sz) = p := ⟨_, rfl⟩
  have h_q3' := (nat_ge (b.headD 0) 128).trans h_q3
  have h_q4' := (nat_gt (trimL b).length sz).trans h_q4
  rw [h_q1, h_q2, h_q3, h_q4] at hq
  go_enter Tryd.func37, Tryd.ntmps37
  refine ve_go ?_
  simp only [List.map_cons, List.map_nil]
  cases q1 <;> cases q2 <;> cases q3 <;> cases q4 <;>
  (
    refine vseq ?_
    apply vrp
    · apply VE.cons
      · exact ev_box rfl rfl (gn rfl) rfl
      simp only [nm, seval]
      apply VE.cons
      · exact ev_assign rfl (gn rfl)
      simp only [nm, seval]
      apply VE.cons
      · exact ev_assign rfl (gn rfl)
      simp only [nm, seval]
      exact VE.nil _
    · kernel_rfl
    change VOk _ _ _ _ _
    refine vseq ?_
    refine vseq ?_
    apply vrp
    · apply VE.cons
      · first | exact ev_field rfl (gn rfl) rfl Tryd.underlying29 rfl Tryd.sizeOf3 | exact ev_fieldx rfl (gn rfl) rfl Tryd.underlying29 rfl Tryd.sizeOf3
      simp only [nm, seval]
      apply VE.cons
      · first | exact ev_load1 rfl (gn rfl) rfl rfl Tryd.underlying3 rfl rfl | exact ev_loadx1 rfl (gn rfl) rfl Tryd.underlying3 rfl (by assumption)
      simp only [nm, seval]
      apply VE.cons
      · exact ev_neq rfl (gn rfl) rfl rfl h_q1
      simp only [nm, seval]
      apply VE.cons
      · exact ev_move rfl (gn rfl)
      simp only [nm, seval]
      apply VE.cons
      · first | exact Ev.skip (fun _ => rfl) | exact ev_load rfl (fun _ => rfl) rfl rfl Tryd.underlying29 rfl Tryd.sizeOf29 rfl rfl | exact ev_loadx rfl (fun _ => rfl) rfl Tryd.underlying29 rfl Tryd.sizeOf29 (by assumption) rfl | exact ev_loada rfl (fun _ => rfl) rfl rfl Tryd.underlying29 rfl Tryd.sizeOf29 rfl
      simp only [nm, seval]
      apply VE.cons
      · first | exact Ev.skip (fun _ => rfl) | exact ev_callb rfl (fun _ => rfl) rfl (en_of Tryd.func31 (by kernel_rfl) rfl) (fun w' hb => by have := right_all _ hok 1 _ w' _ (by decide) (DN_bw hb hx); rw [h_q2] at this; exact this)
      simp only [nm, seval]
      apply VE.cons
      · first | exact Ev.skip (fun _ => rfl) | exact ev_not rfl (fun _ => rfl) rfl
      simp only [nm, seval]
      apply VE.cons
      · first | exact ev_pick_t rfl (gn rfl) rfl rfl | exact ev_pick_f rfl (gn rfl) rfl rfl
      simp only [nm, seval]
      apply VE.cons
      · exact ev_move rfl (gn rfl)
      simp only [nm, seval]
      apply VE.cons
      · first | exact Ev.skip (fun _ => rfl) | exact ev_field rfl (fun _ => rfl) rfl Tryd.underlying29 rfl Tryd.sizeOf26 | exact ev_fieldx rfl (fun _ => rfl) rfl Tryd.underlying29 rfl Tryd.sizeOf26
      simp only [nm, seval]
      apply VE.cons
      · first | exact Ev.skip (fun _ => rfl) | exact ev_load1 rfl (fun _ => rfl) rfl rfl Tryd.underlying26 rfl rfl | exact ev_loadx1 rfl (fun _ => rfl) rfl Tryd.underlying26 rfl (by assumption)
      simp only [nm, seval]
      apply VE.cons
      · first | exact Ev.skip (fun _ => rfl) | exact ev_idx (k := 0) rfl (fun _ => rfl) rfl rfl Tryd.underlying26 Tryd.sizeOf5 (rdg_arg hv) (hpos h_q1 h_q2) (by decide)
      simp only [nm, seval]
      apply VE.cons
      · first | exact Ev.skip (fun _ => rfl) | exact ev_loadi rfl (fun _ => rfl) rfl Tryd.underlying5 rfl (rdg_arg hv) (head_get (hpos h_q1 h_q2))
      simp only [nm, seval]
      apply VE.cons
      · first | exact Ev.skip (fun _ => rfl) | exact ev_geq5 rfl (fun _ => rfl) rfl rfl h_q3'
      simp only [nm, seval]
      apply VE.cons
      · first | exact ev_pick_t rfl (gn rfl) rfl rfl | exact ev_pick_f rfl (gn rfl) rfl rfl
      simp only [nm, seval]
      exact VE.nil _
    · kernel_rfl
    change VOk _ _ _ _ _
    first
    | (
        refine vcond_t rfl ?_
        refine vseq ?_
        apply vrp
        · apply VE.cons
          · exact ev_assign rfl (gn rfl)
          simp only [nm, seval]
          apply VE.cons
          · exact ev_assign rfl (gn rfl)
          simp only [nm, seval]
          exact VE.nil _
        · kernel_rfl
        change VOk _ _ _ _ _
        refine vret ?_
        refine post_ret (res2 Tryd.results37 (rv_tmp rfl) (rv_tmp rfl)) ?_
        intro ρ w' hr
        (first | exact ⟨rfl, hr.1⟩ | (cases hq))
      )
    | (
        refine vcond_f rfl ?_
        refine vskip ?_
        change VOk _ _ _ _ _
        refine vseq ?_
        apply vrp
        · apply VE.cons
          · first | exact ev_field rfl (gn rfl) rfl Tryd.underlying29 rfl Tryd.sizeOf26 | exact ev_fieldx rfl (gn rfl) rfl Tryd.underlying29 rfl Tryd.sizeOf26
          simp only [nm, seval]
          apply VE.cons
          · first | exact ev_load1 rfl (gn rfl) rfl rfl Tryd.underlying26 rfl rfl | exact ev_loadx1 rfl (gn rfl) rfl Tryd.underlying26 rfl (by assumption)
          simp only [nm, seval]
          apply VE.cons
          · exact ev_callb rfl (gn rfl) rfl (en_of Tryd.func49 (by kernel_rfl) rfl) (fun w' hb => trim_ok w' (sl_bw hv hb) hbm)
          simp only [nm, seval]
          apply VE.cons
          · exact ev_assign rfl (gn rfl)
          simp only [nm, seval]
          exact VE.nil _
        · kernel_rfl
        change VOk _ _ _ _ _
        refine vseq ?_
        refine vseq ?_
        apply vrp
        · apply VE.cons
          · exact ev_move rfl (gn rfl)
          simp only [nm, seval]
          apply VE.cons
          · exact ev_len rfl (gn rfl) rfl Tryd.underlying26 (rdg_arg htv)
          simp only [nm, seval]
          apply VE.cons
          · exact ev_move rfl (gn rfl)
          simp only [nm, seval]
          apply VE.cons
          · exact ev_gtr rfl (gn rfl) rfl rfl h_q4'
          simp only [nm, seval]
          exact VE.nil _
        · kernel_rfl
        change VOk _ _ _ _ _
        first
        | (
            refine vcond_t rfl ?_
            refine vseq ?_
            apply vrp
            · apply VE.cons
              · exact ev_assign rfl (gn rfl)
              simp only [nm, seval]
              apply VE.cons
              · exact ev_assign rfl (gn rfl)
              simp only [nm, seval]
              exact VE.nil _
            · kernel_rfl
            change VOk _ _ _ _ _
            refine vret ?_
            refine post_ret (res2 Tryd.results37 (rv_tmp rfl) (rv_tmp rfl)) ?_
            intro ρ w' hr
            (first | exact ⟨rfl, hr.1⟩ | (cases hq))
          )
        | (
            refine vcond_f rfl ?_
            refine vskip ?_
            change VOk _ _ _ _ _
            refine vseq ?_
            apply vrp
            · apply VE.cons
              · exact ev_move rfl (gn rfl)
              simp only [nm, seval]
              apply VE.cons
              · exact ev_move rfl (gn rfl)
              simp only [nm, seval]
              apply VE.cons
              · exact ev_len rfl (gn rfl) rfl Tryd.underlying26 (rdg_arg htv)
              simp only [nm, seval]
              apply VE.cons
              · exact ev_sub (c := ((sz - (trimL b).length : Nat) : Int)) rfl (gn rfl) rfl rfl (by have := of_decide_eq_false h_q4; rw [i64w (by omega) (by omega)]; omega)
              simp only [nm, seval]
              apply VE.cons
              · exact ev_makeslice rfl rfl (gn rfl) rfl rfl Tryd.underlying26 el5 Tryd.zeroValue5 rfl (by omega)
              simp only [nm, seval]
              apply VE.cons
              · exact ev_move rfl (gn rfl)
              simp only [nm, seval]
              apply VE.cons
              · exact ev_append rfl rfl (gn rfl) rfl rfl rfl (rdg_arg htv) Tryd.underlying26 el5 (by decide) (by simp) (b8_all _) (by have := hle h_q4; simp only [maxLen]; omega) (by have := hle h_q4; omega) (by simp)
              simp only [nm, seval]
              apply VE.cons
              · exact ev_assign rfl (gn rfl)
              simp only [nm, seval]
              apply VE.cons
              · exact ev_assign rfl (gn rfl)
              simp only [nm, seval]
              exact VE.nil _
            · kernel_rfl
            change VOk _ _ _ _ _
            refine vret ?_
            refine post_ret (res2 Tryd.results37 (rv_tmp rfl) (rv_tmp rfl)) ?_
            intro ρ w' hr
            (first | exact ⟨rfl, hr.1⟩ | (cases hq))
          )
      )
  )
theorem value_s {tg : Int} {b : List Nat} {ks : List Tr} {bv kv : Value} {S : Nat → Prop} {sz : Nat} (w : World) (hok : (Tr.mk tg b ks).ok) (hx : DN w S (.mk tg b ks) [.int .i64 tg, bv, kv]) (hsz : sz ≤ 64) {l : List Nat} (h : valT (.mk tg b ks) sz = some l) : Calls Tryd.prog 37 #[.agg #[.int .i64 tg, bv, kv], .int .i64 (sz : Nat)] w fun e w' => ∃ v, e = .returned (.tuple #[v, .int .i64 0]) ∧ RetRow w w' v sz 1 5 (l.map b8) ∧ Bw w w' := by
  have hbm : b.length ≤ maxLen := by simp only [Tr.ok] at hok; simp only [maxLen]; omega
  have hv : SlAt w bv b.length 1 (b.map b8) S := by
    simp only [DN] at hx
    obtain ⟨bv', kv', cs, e, h2, _⟩ := hx
    simp only [List.cons.injEq, and_true] at e
    rw [e.2.1]; exact h2
  have htv := trim_sl hv
  have htl := trimL_len b
  have hle : decide ((trimL b).length > sz) = false → (trimL b).length ≤ sz := fun g => by have := of_decide_eq_false g; omega
  have hpos : decide (tg ≠ 2) = false → rightT (.mk tg b ks) 1 = true → 0 < b.length := fun g1 g2 => whole_pos (right2 g1 g2)
  obtain ⟨h_q1, h_q2, h_q3, h_q4, hl⟩ := valT_some h
  have h_q3' := (nat_ge (b.headD 0) 128).trans h_q3
  have h_q4' := (nat_gt (trimL b).length sz).trans h_q4
  go_enter Tryd.func37, Tryd.ntmps37
  refine ve_go ?_
  simp only [List.map_cons, List.map_nil]
  refine vseq ?_
  apply vrp
  · apply VE.cons
    · exact ev_box rfl rfl (gn rfl) rfl
    simp only [nm, seval]
    apply VE.cons
    · exact ev_assign rfl (gn rfl)
    simp only [nm, seval]
    apply VE.cons
    · exact ev_assign rfl (gn rfl)
    simp only [nm, seval]
    exact VE.nil _
  · kernel_rfl
  change VOk _ _ _ _ _
  refine vseq ?_
  refine vseq ?_
  apply vrp
  · apply VE.cons
    · first | exact ev_field rfl (gn rfl) rfl Tryd.underlying29 rfl Tryd.sizeOf3 | exact ev_fieldx rfl (gn rfl) rfl Tryd.underlying29 rfl Tryd.sizeOf3
    simp only [nm, seval]
    apply VE.cons
    · first | exact ev_load1 rfl (gn rfl) rfl rfl Tryd.underlying3 rfl rfl | exact ev_loadx1 rfl (gn rfl) rfl Tryd.underlying3 rfl (by assumption)
    simp only [nm, seval]
    apply VE.cons
    · exact ev_neq rfl (gn rfl) rfl rfl h_q1
    simp only [nm, seval]
    apply VE.cons
    · exact ev_move rfl (gn rfl)
    simp only [nm, seval]
    apply VE.cons
    · first | exact Ev.skip (fun _ => rfl) | exact ev_load rfl (fun _ => rfl) rfl rfl Tryd.underlying29 rfl Tryd.sizeOf29 rfl rfl | exact ev_loadx rfl (fun _ => rfl) rfl Tryd.underlying29 rfl Tryd.sizeOf29 (by assumption) rfl | exact ev_loada rfl (fun _ => rfl) rfl rfl Tryd.underlying29 rfl Tryd.sizeOf29 rfl
    simp only [nm, seval]
    apply VE.cons
    · first | exact Ev.skip (fun _ => rfl) | exact ev_callb rfl (fun _ => rfl) rfl (en_of Tryd.func31 (by kernel_rfl) rfl) (fun w' hb => by have := right_all _ hok 1 _ w' _ (by decide) (DN_bw hb hx); rw [h_q2] at this; exact this)
    simp only [nm, seval]
    apply VE.cons
    · first | exact Ev.skip (fun _ => rfl) | exact ev_not rfl (fun _ => rfl) rfl
    simp only [nm, seval]
    apply VE.cons
    · first | exact ev_pick_t rfl (gn rfl) rfl rfl | exact ev_pick_f rfl (gn rfl) rfl rfl
    simp only [nm, seval]
    apply VE.cons
    · exact ev_move rfl (gn rfl)
    simp only [nm, seval]
    apply VE.cons
    · first | exact Ev.skip (fun _ => rfl) | exact ev_field rfl (fun _ => rfl) rfl Tryd.underlying29 rfl Tryd.sizeOf26 | exact ev_fieldx rfl (fun _ => rfl) rfl Tryd.underlying29 rfl Tryd.sizeOf26
    simp only [nm, seval]
    apply VE.cons
    · first | exact Ev.skip (fun _ => rfl) | exact ev_load1 rfl (fun _ => rfl) rfl rfl Tryd.underlying26 rfl rfl | exact ev_loadx1 rfl (fun _ => rfl) rfl Tryd.underlying26 rfl (by assumption)
    simp only [nm, seval]
    apply VE.cons
    · first | exact Ev.skip (fun _ => rfl) | exact ev_idx (k := 0) rfl (fun _ => rfl) rfl rfl Tryd.underlying26 Tryd.sizeOf5 (rdg_arg hv) (hpos h_q1 h_q2) (by decide)
    simp only [nm, seval]
    apply VE.cons
    · first | exact Ev.skip (fun _ => rfl) | exact ev_loadi rfl (fun _ => rfl) rfl Tryd.underlying5 rfl (rdg_arg hv) (head_get (hpos h_q1 h_q2))
    simp only [nm, seval]
    apply VE.cons
    · first | exact Ev.skip (fun _ => rfl) | exact ev_geq5 rfl (fun _ => rfl) rfl rfl h_q3'
    simp only [nm, seval]
    apply VE.cons
    · first | exact ev_pick_t rfl (gn rfl) rfl rfl | exact ev_pick_f rfl (gn rfl) rfl rfl
    simp only [nm, seval]
    exact VE.nil _
  · kernel_rfl
  change VOk _ _ _ _ _
  refine vcond_f rfl ?_
  refine vskip ?_
  change VOk _ _ _ _ _
  refine vseq ?_
  apply vrp
  · apply VE.cons
    · first | exact ev_field rfl (gn rfl) rfl Tryd.underlying29 rfl Tryd.sizeOf26 | exact ev_fieldx rfl (gn rfl) rfl Tryd.underlying29 rfl Tryd.sizeOf26
    simp only [nm, seval]
    apply VE.cons
    · first | exact ev_load1 rfl (gn rfl) rfl rfl Tryd.underlying26 rfl rfl | exact ev_loadx1 rfl (gn rfl) rfl Tryd.underlying26 rfl (by assumption)
    simp only [nm, seval]
    apply VE.cons
    · exact ev_callb rfl (gn rfl) rfl (en_of Tryd.func49 (by kernel_rfl) rfl) (fun w' hb => trim_ok w' (sl_bw hv hb) hbm)
    simp only [nm, seval]
    apply VE.cons
    · exact ev_assign rfl (gn rfl)
    simp only [nm, seval]
    exact VE.nil _
  · kernel_rfl
  change VOk _ _ _ _ _
  refine vseq ?_
  refine vseq ?_
  apply vrp
  · apply VE.cons
    · exact ev_move rfl (gn rfl)
    simp only [nm, seval]
    apply VE.cons
    · exact ev_len rfl (gn rfl) rfl Tryd.underlying26 (rdg_arg htv)
    simp only [nm, seval]
    apply VE.cons
    · exact ev_move rfl (gn rfl)
    simp only [nm, seval]
    apply VE.cons
    · exact ev_gtr rfl (gn rfl) rfl rfl h_q4'
    simp only [nm, seval]
    exact VE.nil _
  · kernel_rfl
  change VOk _ _ _ _ _
  refine vcond_f rfl ?_
  refine vskip ?_
  change VOk _ _ _ _ _
  refine vseq ?_
  apply vrp
  · apply VE.cons
    · exact ev_move rfl (gn rfl)
    simp only [nm, seval]
    apply VE.cons
    · exact ev_move rfl (gn rfl)
    simp only [nm, seval]
    apply VE.cons
    · exact ev_len rfl (gn rfl) rfl Tryd.underlying26 (rdg_arg htv)
    simp only [nm, seval]
    apply VE.cons
    · exact ev_sub (c := ((sz - (trimL b).length : Nat) : Int)) rfl (gn rfl) rfl rfl (by have := of_decide_eq_false h_q4; rw [i64w (by omega) (by omega)]; omega)
    simp only [nm, seval]
    apply VE.cons
    · exact ev_makeslice rfl rfl (gn rfl) rfl rfl Tryd.underlying26 el5 Tryd.zeroValue5 rfl (by omega)
    simp only [nm, seval]
    apply VE.cons
    · exact ev_move rfl (gn rfl)
    simp only [nm, seval]
    apply VE.cons
    · exact ev_append rfl rfl (gn rfl) rfl rfl rfl (rdg_arg htv) Tryd.underlying26 el5 (by decide) (by simp) (b8_all _) (by have := hle h_q4; simp only [maxLen]; omega) (by have := hle h_q4; omega) (by simp)
    simp only [nm, seval]
    apply VE.cons
    · exact ev_assign rfl (gn rfl)
    simp only [nm, seval]
    apply VE.cons
    · exact ev_assign rfl (gn rfl)
    simp only [nm, seval]
    exact VE.nil _
  · kernel_rfl
  change VOk _ _ _ _ _
  refine vret ?_
  refine post_ret (res2 Tryd.results37 (rv_tmp rfl) (rv_tmp rfl)) ?_
  intro ρ w' hr
  refine ⟨(ρ 35).val, rfl, ?_, hr.1⟩
  have hh := ret_row (id := 35) hr rfl
  rw [zeros_b8, Nat.sub_add_cancel (hle h_q4)] at hh
  rw [hl]; exact hh
theorem value_no {t : Tr} {c : List Value} {S : Nat → Prop} {sz : Nat} (w : World) (hok : t.ok) (hx : DN w S t c) (hsz : sz ≤ 64) (h : valT t sz = none) : Calls Tryd.prog 37 #[.agg c.toArray, .int .i64 (sz : Nat)] w fun e w' => e = .returned (.tuple #[.slice none 0 0, .int .i64 2]) ∧ Bw w w' := by
  cases t with
  | mk tg b ks =>
    have hx' := hx
    simp only [DN] at hx'
    obtain ⟨bv, kv, cs, rfl, _⟩ := hx'
    exact value_n w hok hx hsz h
theorem value_so {t : Tr} {c : List Value} {S : Nat → Prop} {sz : Nat} (w : World) (hok : t.ok) (hx : DN w S t c) (hsz : sz ≤ 64) {l : List Nat} (h : valT t sz = some l) : Calls Tryd.prog 37 #[.agg c.toArray, .int .i64 (sz : Nat)] w fun e w' => ∃ v, e = .returned (.tuple #[v, .int .i64 0]) ∧ RetRow w w' v sz 1 5 (l.map b8) ∧ Bw w w' := by
  cases t with
  | mk tg b ks =>
    have hx' := hx
    simp only [DN] at hx'
    obtain ⟨bv, kv, cs, rfl, _⟩ := hx'
    exact value_s w hok hx hsz h
/-! ### ToNum -/
def beN (l : List Nat) : Nat := l.foldl (fun a b => a * 256 + b) 0
def xv (l : List Nat) (i : Nat) : Int := IntKind.i64.wrap ((beN (l.take i) : Nat) : Int)
theorem beN_take {l : List Nat} {i b : Nat} (h : l[i]? = some b) : beN (l.take (i + 1)) = beN (l.take i) * 256 + b := by
  rw [take_get h]; unfold beN; rw [List.foldl_append]; rfl
theorem beN_snoc (l : List Nat) (b : Nat) : beN (l ++ [b]) = beN l * 256 + b := by unfold beN; rw [List.foldl_append]; rfl
theorem foldl_lt : ∀ (l : List Nat) (a k : Nat), (∀ x ∈ l, x < 256) → a < 256 ^ k → l.foldl (fun a b => a * 256 + b) a < 256 ^ (k + l.length)
  | [], a, k, _, h => h
  | b :: r, a, k, hl, h => by
    have hb := hl b (by simp)
    have : a * 256 + b < 256 ^ (k + 1) := by rw [Nat.pow_succ]; omega
    have := foldl_lt r (a * 256 + b) (k + 1) (fun x hx => hl x (by simp [hx])) this
    rw [List.foldl_cons, List.length_cons, show k + (r.length + 1) = k + 1 + r.length by omega]; exact this
theorem beN_lt {l : List Nat} (h : ∀ x ∈ l, x < 256) : beN l < 256 ^ l.length := by
  have := foldl_lt l 0 0 h (by decide)
  rwa [Nat.zero_add] at this
theorem take_beN_lt {l : List Nat} {i : Nat} (h : ∀ x ∈ l, x < 256) (hi : i ≤ 7) : beN (l.take i) < 72057594037927936 := by
  have h1 := beN_lt (l := l.take i) (fun x hx => h x (List.mem_of_mem_take hx))
  have h2 : 256 ^ (l.take i).length ≤ 256 ^ 7 := Nat.pow_le_pow_right (by decide) (by rw [List.length_take]; omega)
  have h3 : 256 ^ 7 = 72057594037927936 := by decide
  omega
theorem shl_xv {l : List Nat} {i : Nat} (h : ∀ x ∈ l, x < 256) (hi : i < 8) (p q : Operand) (w : World) : (do eqGuard .shl 3 p q (.int .i64 (xv l i)) (.int .u64 8); binOp .shl 3 (.int .i64 (xv l i)) (.int .u64 8) : Sem Value).run Tryd.prog w = .ok (.int .i64 (IntKind.i64.wrap ((beN (l.take i) * 256 : Nat) : Int))) w := by
  have hv := take_beN_lt h (show i ≤ 7 by omega)
  have e : xv l i = ((beN (l.take i) : Nat) : Int) := i64w (by omega) (by omega)
  rw [e]
  generalize beN (l.take i) = v at hv
  go_simp
theorem i64_or_low (v b : Nat) (hv : v < 72057594037927936) (hb : b < 256) : bits .or .i64 (IntKind.i64.wrap ((v * 256 : Nat) : Int)) (b : Int) = IntKind.i64.wrap ((v * 256 + b : Nat) : Int) := by
  have e : ∀ n : Int, BitVec.ofInt 64 (IntKind.i64.wrap n) = BitVec.ofInt 64 n := by
    intro n
    apply BitVec.eq_of_toInt_eq
    rw [BitVec.toInt_ofInt, BitVec.toInt_ofInt, IntKind.wrap_i64]
    simp only [Int.bmod_def]
    omega
  have h : (BitVec.ofInt 64 ((v * 256 : Nat) : Int) ||| BitVec.ofInt 64 (b : Int)).toNat = v * 256 + b := by
    rw [BitVec.toNat_or, BitVec.toNat_ofInt, BitVec.toNat_ofInt]
    have h1 : (((v * 256 : Nat) : Int) % ((2 ^ 64 : Nat) : Int)).toNat = v * 256 := by omega
    have h2 : ((b : Int) % ((2 ^ 64 : Nat) : Int)).toNat = b := by omega
    rw [h1, h2]
    have := Nat.two_pow_add_eq_or_of_lt (i := 8) (b := b) (by omega) v
    rw [Nat.mul_comm v 256]
    exact this.symm
  show IntKind.i64.wrap ((BitVec.ofInt 64 (IntKind.i64.wrap ((v * 256 : Nat) : Int)) ||| BitVec.ofInt 64 (b : Int)).toNat : Int) = _
  rw [e, h]
theorem or_xv {l : List Nat} {i b : Nat} (h : ∀ x ∈ l, x < 256) (hi : i < 8) (hb : l[i]? = some b) (p q : Operand) (w : World) : (do eqGuard .or 3 p q (.int .i64 (IntKind.i64.wrap ((beN (l.take i) * 256 : Nat) : Int))) (.int .i64 (b : Nat)); binOp .or 3 (.int .i64 (IntKind.i64.wrap ((beN (l.take i) * 256 : Nat) : Int))) (.int .i64 (b : Nat)) : Sem Value).run Tryd.prog w = .ok (.int .i64 (xv l (i + 1))) w := by
  have hv := take_beN_lt h (show i ≤ 7 by omega)
  have hb8 := h b (List.mem_of_getElem? hb)
  unfold xv
  rw [beN_take hb]
  generalize beN (l.take i) = v at hv
  go_simp
  exact i64_or_low v b hv hb8
theorem cv58 {b : Nat} (h : b < 256) (w : World) : (convert 5 3 (.int .u8 (b : Nat))).run Tryd.prog w = .ok (.int .i64 (b : Nat)) w := by
  have e : IntKind.i64.wrap (b : Int) = (b : Int) := i64w (by omega) (by omega)
  go_simp
/-- what ToNum tells: a number, and how it went. -/
def tnN (t : Tr) : Int × Int := match valT t 8 with
  | none => (0, 2)
  | some l => bif decide (beN l < 4611686018427387904) then ((beN l : Nat), 0) else (0, 2)
theorem xv8 {l : List Nat} (h : ∀ x ∈ l, x < 256) (hl : l.length = 8) : xv l 8 = if beN l < 9223372036854775808 then ((beN l : Nat) : Int) else (beN l : Nat) - 18446744073709551616 := by
  have h1 := beN_lt h
  rw [hl] at h1
  have h3 : 256 ^ 8 = 18446744073709551616 := by decide
  unfold xv
  rw [List.take_of_length_le (by omega), IntKind.wrap_i64]
  split <;> omega
theorem xv_neg {l : List Nat} (h : ∀ x ∈ l, x < 256) (hl : l.length = 8) : decide (xv l 8 < 0) = decide (beN l ≥ 9223372036854775808) := by
  rw [xv8 h hl]
  have h1 := beN_lt h
  rw [hl] at h1
  have h3 : 256 ^ 8 = 18446744073709551616 := by decide
  split
  · rw [decide_eq_false (by omega), decide_eq_false (by omega)]
  · rw [decide_eq_true (by omega), decide_eq_true (by omega)]
theorem xv_big {l : List Nat} (h : ∀ x ∈ l, x < 256) (hl : l.length = 8) (hn : decide (beN l ≥ 9223372036854775808) = false) : decide ((4611686018427387904 : Int) ≤ xv l 8) = decide (beN l ≥ 4611686018427387904) := by
  rw [xv8 h hl]
  have := of_decide_eq_false hn
  rw [if_pos (by omega)]
  exact decide_eq_decide.2 (by omega)
theorem toNum_n {t : Tr} {x0 x1 x2 : Value} {S : Nat → Prop} (w : World) (hok : t.ok) (hx : DN w S t [x0, x1, x2]) (h : valT t 8 = none) : Calls Tryd.prog 19 #[.agg #[x0, x1, x2]] w fun e w' => e = .returned (.tuple #[.int .i64 0, .int .i64 2]) ∧ Bw w w' := by
  go_enter Tryd.func19, Tryd.ntmps19
  refine ve_go ?_
  simp only [List.map_cons, List.map_nil]
  refine vseq ?_
  apply vrp
  · apply VE.cons
    · exact ev_box rfl rfl (gn rfl) rfl
    simp only [nm, seval]
    apply VE.cons
    · exact ev_assign rfl (gn rfl)
    simp only [nm, seval]
    apply VE.cons
    · exact ev_assign rfl (gn rfl)
    simp only [nm, seval]
    exact VE.nil _
  · kernel_rfl
  change VOk _ _ _ _ _
  refine vseq ?_
  apply vrp
  · apply VE.cons
    · first | exact ev_load rfl (gn rfl) rfl rfl Tryd.underlying29 rfl Tryd.sizeOf29 rfl rfl | exact ev_loadx rfl (gn rfl) rfl Tryd.underlying29 rfl Tryd.sizeOf29 (by assumption) rfl | exact ev_loada rfl (gn rfl) rfl rfl Tryd.underlying29 rfl Tryd.sizeOf29 rfl
    simp only [nm, seval]
    apply VE.cons
    · exact ev_callb rfl (gn rfl) rfl (en_of Tryd.func37 (by kernel_rfl) rfl) (fun w' hb => value_no (sz := 8) w' hok (DN_bw hb hx) (by decide) h)
    simp only [nm, seval]
    apply VE.cons
    · exact ev_move rfl (gn rfl)
    simp only [nm, seval]
    apply VE.cons
    · first | exact ev_extract rfl (gn rfl) rfl rfl | exact ev_extractt rfl (gn rfl) rfl rfl
    simp only [nm, seval]
    apply VE.cons
    · first | exact ev_extract rfl (gn rfl) rfl rfl | exact ev_extractt rfl (gn rfl) rfl rfl
    simp only [nm, seval]
    apply VE.cons
    · exact ev_assign rfl (gn rfl)
    simp only [nm, seval]
    apply VE.cons
    · exact ev_assign rfl (gn rfl)
    simp only [nm, seval]
    exact VE.nil _
  · kernel_rfl
  change VOk _ _ _ _ _
  refine vseq ?_
  refine vseq ?_
  apply vrp
  · apply VE.cons
    · exact ev_move rfl (gn rfl)
    simp only [nm, seval]
    apply VE.cons
    · exact ev_neq (p := true) rfl (gn rfl) rfl rfl (by decide)
    simp only [nm, seval]
    exact VE.nil _
  · kernel_rfl
  change VOk _ _ _ _ _
  refine vcond_t rfl ?_
  refine vseq ?_
  apply vrp
  · apply VE.cons
    · exact ev_move rfl (gn rfl)
    simp only [nm, seval]
    apply VE.cons
    · exact ev_assign rfl (gn rfl)
    simp only [nm, seval]
    apply VE.cons
    · exact ev_assign rfl (gn rfl)
    simp only [nm, seval]
    exact VE.nil _
  · kernel_rfl
  change VOk _ _ _ _ _
  refine vret ?_
  refine post_ret (res2 Tryd.results19 (rv_tmp rfl) (rv_tmp rfl)) ?_
  intro ρ w' hr
  exact ⟨rfl, hr.1⟩
theorem toNum_s {t : Tr} {x0 x1 x2 : Value} {S : Nat → Prop} (w : World) (hok : t.ok) (hx : DN w S t [x0, x1, x2]) {l : List Nat} (h : valT t 8 = some l) (hs : beN l < 4611686018427387904) : Calls Tryd.prog 19 #[.agg #[x0, x1, x2]] w fun e w' => e = .returned (.tuple #[.int .i64 ((beN l : Nat) : Int), .int .i64 0]) ∧ Bw w w' := by
  have hlt8 := valT_lt hok h
  have hll := valT_len h
  go_enter Tryd.func19, Tryd.ntmps19
  refine ve_go ?_
  simp only [List.map_cons, List.map_nil]
  refine vseq ?_
  apply vrp
  · apply VE.cons
    · exact ev_box rfl rfl (gn rfl) rfl
    simp only [nm, seval]
    apply VE.cons
    · exact ev_assign rfl (gn rfl)
    simp only [nm, seval]
    apply VE.cons
    · exact ev_assign rfl (gn rfl)
    simp only [nm, seval]
    exact VE.nil _
  · kernel_rfl
  change VOk _ _ _ _ _
  refine vseq ?_
  apply vrp
  · apply VE.cons
    · first | exact ev_load rfl (gn rfl) rfl rfl Tryd.underlying29 rfl Tryd.sizeOf29 rfl rfl | exact ev_loadx rfl (gn rfl) rfl Tryd.underlying29 rfl Tryd.sizeOf29 (by assumption) rfl | exact ev_loada rfl (gn rfl) rfl rfl Tryd.underlying29 rfl Tryd.sizeOf29 rfl
    simp only [nm, seval]
    apply VE.cons
    · exact ev_callrowt [] rfl rfl (gn rfl) rfl (en_of Tryd.func37 (by kernel_rfl) rfl) (n := 8) (size := 1) (ty := 5) (l := l.map b8) (y := .int .i64 0) (by simp [hll]) (fun ρ S w' hb hR => value_so (sz := 8) w' hok (DN_bw hb hx) (by decide) h)
    simp only [nm, seval]
    apply VE.cons
    · exact ev_move rfl (gn rfl)
    simp only [nm, seval]
    apply VE.cons
    · first | exact ev_extract rfl (gn rfl) rfl rfl | exact ev_extractt rfl (gn rfl) rfl rfl
    simp only [nm, seval]
    apply VE.cons
    · first | exact ev_extract rfl (gn rfl) rfl rfl | exact ev_extractt rfl (gn rfl) rfl rfl
    simp only [nm, seval]
    apply VE.cons
    · exact ev_assign rfl (gn rfl)
    simp only [nm, seval]
    apply VE.cons
    · exact ev_assign rfl (gn rfl)
    simp only [nm, seval]
    exact VE.nil _
  · kernel_rfl
  change VOk _ _ _ _ _
  refine vseq ?_
  refine vseq ?_
  apply vrp
  · apply VE.cons
    · exact ev_move rfl (gn rfl)
    simp only [nm, seval]
    apply VE.cons
    · exact ev_neq (p := false) rfl (gn rfl) rfl rfl (by decide)
    simp only [nm, seval]
    exact VE.nil _
  · kernel_rfl
  change VOk _ _ _ _ _
  refine vcond_f rfl ?_
  refine vskip ?_
  change VOk _ _ _ _ _
  refine vseq ?_
  apply vrp
  · apply VE.cons
    · exact ev_assign rfl (gn rfl)
    simp only [nm, seval]
    exact VE.nil _
  · kernel_rfl
  change VOk _ _ _ _ _
  refine vseq ?_
  refine vseq ?_
  apply vrp
  · apply VE.cons
    · exact ev_move rfl (gn rfl)
    simp only [nm, seval]
    apply VE.cons
    · exact ev_len rfl (gn rfl) rfl Tryd.underlying26 (rdg_row rfl)
    simp only [nm, seval]
    apply VE.cons
    · exact ev_move rfl (gn rfl)
    simp only [nm, seval]
    exact VE.nil _
  · kernel_rfl
  change VOk _ _ _ _ _
  refine vblock ?_
  refine vloop_w (α := {x : Nat // x ≤ 8}) (fun (x : {x : Nat // x ≤ 8}) f => ⟨[.v (f 0), .p 1 0, .v (.int .i64 0), .v (.int .i64 0), .v (f 4), .v (f 5), .v (.int .i64 (xv l x.1)), .v (f 7), .v (f 8), .v (f 9), .v (f 10), .v (f 11), .v (f 12), .v (f 13), .v (f 14), .v (f 15), .v (f 16), .d 11, .v (.int .i64 8), .v (.int .i64 (x.1 : Nat)), .v (f 20), .v (f 21), .v (f 22), .v (f 23), .v (f 24), .v (f 25), .v (f 26), .v (f 27), .v (f 28), .v (f 29), .v (f 30), .v (f 31), .v (f 32), .v (f 33), .v (f 34), .v (f 35)], memOf [(11, .row 8 1 5 (.exact (l.map b8))), (1, .cells [.v x0, .v x1, .v x2] 29)]⟩) (fun x => 8 - x.1) ?_ (⟨0, by decide⟩) ?_
  · rintro ⟨i, hi⟩ f
    obtain ⟨q, h_q⟩ : ∃ q, decide (((i : Nat) : Int) < 8) = q := ⟨_, rfl⟩
    change VOk _ _ _ _ _
    refine vseq ?_
    apply vrp
    · apply VE.cons
      · exact ev_lss rfl (gn rfl) rfl rfl h_q
      simp only [nm, seval]
      exact VE.nil _
    · kernel_rfl
    change VOk _ _ _ _ _
    refine vseq ?_
    cases q
    · refine vcond_f rfl ?_
      have h8 : i = 8 := by have := of_decide_eq_false h_q; omega
      subst h8
      refine vexit ?_
      change VOk _ _ _ _ _
      refine vseq ?_
      refine vseq ?_
      apply vrp
      · apply VE.cons
        · exact ev_move rfl (gn rfl)
        simp only [nm, seval]
        apply VE.cons
        · exact ev_lss (p := false) rfl (gn rfl) rfl rfl (by rw [xv_neg hlt8 hll]; exact decide_eq_false (by omega))
        simp only [nm, seval]
        apply VE.cons
        · exact ev_move rfl (gn rfl)
        simp only [nm, seval]
        apply VE.cons
        · first | exact Ev.skip (fun _ => rfl) | exact ev_move rfl (fun _ => rfl)
        simp only [nm, seval]
        apply VE.cons
        · first | exact Ev.skip (fun _ => rfl) | exact ev_geq (p := false) rfl (fun _ => rfl) rfl rfl (by rw [xv_big hlt8 hll (decide_eq_false (by omega))]; exact decide_eq_false (by omega))
        simp only [nm, seval]
        apply VE.cons
        · first | exact ev_pick_t rfl (gn rfl) rfl rfl | exact ev_pick_f rfl (gn rfl) rfl rfl
        simp only [nm, seval]
        exact VE.nil _
      · kernel_rfl
      change VOk _ _ _ _ _
      refine vcond_f rfl ?_
      refine vskip ?_
      change VOk _ _ _ _ _
      refine vseq ?_
      apply vrp
      · apply VE.cons
        · exact ev_move rfl (gn rfl)
        simp only [nm, seval]
        apply VE.cons
        · exact ev_assign rfl (gn rfl)
        simp only [nm, seval]
        apply VE.cons
        · exact ev_assign rfl (gn rfl)
        simp only [nm, seval]
        exact VE.nil _
      · kernel_rfl
      change VOk _ _ _ _ _
      refine vret ?_
      refine post_ret (res2 Tryd.results19 (rv_tmp rfl) (rv_tmp rfl)) ?_
      intro ρ w' hr
      have e8 : xv l 8 = ((beN l : Nat) : Int) := by rw [xv8 hlt8 hll, if_pos (by omega)]
      rw [e8]
      exact ⟨rfl, hr.1⟩
    · refine vcond_t rfl ?_
      have hlt : i < 8 := by have := of_decide_eq_true h_q; omega
      obtain ⟨b, hb⟩ := get_some (l := l) (i := i) (by omega)
      refine vskip ?_
      change VOk _ _ _ _ _
      refine vseq ?_
      refine vblock ?_
      refine vseq ?_
      apply vrp
      · apply VE.cons
        · exact ev_idx (k := i) rfl (gn rfl) rfl rfl Tryd.underlying26 Tryd.sizeOf5 (rdg_row rfl) (hlt) (by decide)
        simp only [nm, seval]
        apply VE.cons
        · exact ev_loadi rfl (gn rfl) rfl Tryd.underlying5 rfl (rdg_row rfl) (map_get hb)
        simp only [nm, seval]
        apply VE.cons
        · exact ev_assign rfl (gn rfl)
        simp only [nm, seval]
        exact VE.nil _
      · kernel_rfl
      change VOk _ _ _ _ _
      apply vrp
      · apply VE.cons
        · exact ev_move rfl (gn rfl)
        simp only [nm, seval]
        apply VE.cons
        · exact ev_bin rfl (gn rfl) rfl rfl (fun w => shl_xv hlt8 hlt _ _ w)
        simp only [nm, seval]
        apply VE.cons
        · exact ev_move rfl (gn rfl)
        simp only [nm, seval]
        apply VE.cons
        · exact ev_conv rfl (gn rfl) rfl (fun w => cv58 (hlt8 b (List.mem_of_getElem? hb)) w)
        simp only [nm, seval]
        apply VE.cons
        · exact ev_bin rfl (gn rfl) rfl rfl (fun w => or_xv hlt8 hlt hb _ _ w)
        simp only [nm, seval]
        apply VE.cons
        · exact ev_assign rfl (gn rfl)
        simp only [nm, seval]
        exact VE.nil _
      · kernel_rfl
      change VOk _ _ _ _ _
      apply vrp
      · apply VE.cons
        · exact ev_add (c := ((i + 1 : Nat) : Int)) rfl (gn rfl) rfl rfl (by rw [i64w (by omega) (by omega)]; omega)
        simp only [nm, seval]
        apply VE.cons
        · exact ev_move rfl (gn rfl)
        simp only [nm, seval]
        exact VE.nil _
      · kernel_rfl
      refine ⟨⟨i + 1, by omega⟩, by show 8 - (i + 1) < 8 - i; omega, ?_⟩
      exact weaker_forget (fun i => i == 1 || i == 2 || i == 3 || i == 6 || i == 17 || i == 18 || i == 19) []
  · exact weaker_forget (fun i => i == 1 || i == 2 || i == 3 || i == 6 || i == 17 || i == 18 || i == 19) []
theorem toNum_b {t : Tr} {x0 x1 x2 : Value} {S : Nat → Prop} (w : World) (hok : t.ok) (hx : DN w S t [x0, x1, x2]) {l : List Nat} (h : valT t 8 = some l) (hs : ¬ beN l < 4611686018427387904) : Calls Tryd.prog 19 #[.agg #[x0, x1, x2]] w fun e w' => e = .returned (.tuple #[.int .i64 0, .int .i64 2]) ∧ Bw w w' := by
  have hlt8 := valT_lt hok h
  have hll := valT_len h
  obtain ⟨qn, h_n⟩ : ∃ q, decide (beN l ≥ 9223372036854775808) = q := ⟨_, rfl⟩
  go_enter Tryd.func19, Tryd.ntmps19
  refine ve_go ?_
  simp only [List.map_cons, List.map_nil]
  refine vseq ?_
  apply vrp
  · apply VE.cons
    · exact ev_box rfl rfl (gn rfl) rfl
    simp only [nm, seval]
    apply VE.cons
    · exact ev_assign rfl (gn rfl)
    simp only [nm, seval]
    apply VE.cons
    · exact ev_assign rfl (gn rfl)
    simp only [nm, seval]
    exact VE.nil _
  · kernel_rfl
  change VOk _ _ _ _ _
  refine vseq ?_
  apply vrp
  · apply VE.cons
    · first | exact ev_load rfl (gn rfl) rfl rfl Tryd.underlying29 rfl Tryd.sizeOf29 rfl rfl | exact ev_loadx rfl (gn rfl) rfl Tryd.underlying29 rfl Tryd.sizeOf29 (by assumption) rfl | exact ev_loada rfl (gn rfl) rfl rfl Tryd.underlying29 rfl Tryd.sizeOf29 rfl
    simp only [nm, seval]
    apply VE.cons
    · exact ev_callrowt [] rfl rfl (gn rfl) rfl (en_of Tryd.func37 (by kernel_rfl) rfl) (n := 8) (size := 1) (ty := 5) (l := l.map b8) (y := .int .i64 0) (by simp [hll]) (fun ρ S w' hb hR => value_so (sz := 8) w' hok (DN_bw hb hx) (by decide) h)
    simp only [nm, seval]
    apply VE.cons
    · exact ev_move rfl (gn rfl)
    simp only [nm, seval]
    apply VE.cons
    · first | exact ev_extract rfl (gn rfl) rfl rfl | exact ev_extractt rfl (gn rfl) rfl rfl
    simp only [nm, seval]
    apply VE.cons
    · first | exact ev_extract rfl (gn rfl) rfl rfl | exact ev_extractt rfl (gn rfl) rfl rfl
    simp only [nm, seval]
    apply VE.cons
    · exact ev_assign rfl (gn rfl)
    simp only [nm, seval]
    apply VE.cons
    · exact ev_assign rfl (gn rfl)
    simp only [nm, seval]
    exact VE.nil _
  · kernel_rfl
  change VOk _ _ _ _ _
  refine vseq ?_
  refine vseq ?_
  apply vrp
  · apply VE.cons
    · exact ev_move rfl (gn rfl)
    simp only [nm, seval]
    apply VE.cons
    · exact ev_neq (p := false) rfl (gn rfl) rfl rfl (by decide)
    simp only [nm, seval]
    exact VE.nil _
  · kernel_rfl
  change VOk _ _ _ _ _
  refine vcond_f rfl ?_
  refine vskip ?_
  change VOk _ _ _ _ _
  refine vseq ?_
  apply vrp
  · apply VE.cons
    · exact ev_assign rfl (gn rfl)
    simp only [nm, seval]
    exact VE.nil _
  · kernel_rfl
  change VOk _ _ _ _ _
  refine vseq ?_
  refine vseq ?_
  apply vrp
  · apply VE.cons
    · exact ev_move rfl (gn rfl)
    simp only [nm, seval]
    apply VE.cons
    · exact ev_len rfl (gn rfl) rfl Tryd.underlying26 (rdg_row rfl)
    simp only [nm, seval]
    apply VE.cons
    · exact ev_move rfl (gn rfl)
    simp only [nm, seval]
    exact VE.nil _
  · kernel_rfl
  change VOk _ _ _ _ _
  refine vblock ?_
  refine vloop_w (α := {x : Nat // x ≤ 8}) (fun (x : {x : Nat // x ≤ 8}) f => ⟨[.v (f 0), .p 1 0, .v (.int .i64 0), .v (.int .i64 0), .v (f 4), .v (f 5), .v (.int .i64 (xv l x.1)), .v (f 7), .v (f 8), .v (f 9), .v (f 10), .v (f 11), .v (f 12), .v (f 13), .v (f 14), .v (f 15), .v (f 16), .d 11, .v (.int .i64 8), .v (.int .i64 (x.1 : Nat)), .v (f 20), .v (f 21), .v (f 22), .v (f 23), .v (f 24), .v (f 25), .v (f 26), .v (f 27), .v (f 28), .v (f 29), .v (f 30), .v (f 31), .v (f 32), .v (f 33), .v (f 34), .v (f 35)], memOf [(11, .row 8 1 5 (.exact (l.map b8))), (1, .cells [.v x0, .v x1, .v x2] 29)]⟩) (fun x => 8 - x.1) ?_ (⟨0, by decide⟩) ?_
  · rintro ⟨i, hi⟩ f
    obtain ⟨q, h_q⟩ : ∃ q, decide (((i : Nat) : Int) < 8) = q := ⟨_, rfl⟩
    change VOk _ _ _ _ _
    refine vseq ?_
    apply vrp
    · apply VE.cons
      · exact ev_lss rfl (gn rfl) rfl rfl h_q
      simp only [nm, seval]
      exact VE.nil _
    · kernel_rfl
    change VOk _ _ _ _ _
    refine vseq ?_
    cases q
    · refine vcond_f rfl ?_
      have h8 : i = 8 := by have := of_decide_eq_false h_q; omega
      subst h8
      cases qn <;>
      (
        refine vexit ?_
        change VOk _ _ _ _ _
        refine vseq ?_
        refine vseq ?_
        apply vrp
        · apply VE.cons
          · exact ev_move rfl (gn rfl)
          simp only [nm, seval]
          apply VE.cons
          · exact ev_lss rfl (gn rfl) rfl rfl ((xv_neg hlt8 hll).trans h_n)
          simp only [nm, seval]
          apply VE.cons
          · exact ev_move rfl (gn rfl)
          simp only [nm, seval]
          apply VE.cons
          · first | exact Ev.skip (fun _ => rfl) | exact ev_move rfl (fun _ => rfl)
          simp only [nm, seval]
          apply VE.cons
          · first | exact Ev.skip (fun _ => rfl) | exact ev_geq (p := true) rfl (fun _ => rfl) rfl rfl (by rw [xv_big hlt8 hll h_n]; exact decide_eq_true (by omega))
          simp only [nm, seval]
          apply VE.cons
          · first | exact ev_pick_t rfl (gn rfl) rfl rfl | exact ev_pick_f rfl (gn rfl) rfl rfl
          simp only [nm, seval]
          exact VE.nil _
        · kernel_rfl
        change VOk _ _ _ _ _
        refine vcond_t rfl ?_
        refine vseq ?_
        apply vrp
        · apply VE.cons
          · exact ev_assign rfl (gn rfl)
          simp only [nm, seval]
          apply VE.cons
          · exact ev_assign rfl (gn rfl)
          simp only [nm, seval]
          exact VE.nil _
        · kernel_rfl
        change VOk _ _ _ _ _
        refine vret ?_
        refine post_ret (res2 Tryd.results19 (rv_tmp rfl) (rv_tmp rfl)) ?_
        intro ρ w' hr
        exact ⟨rfl, hr.1⟩
      )
    · refine vcond_t rfl ?_
      have hlt : i < 8 := by have := of_decide_eq_true h_q; omega
      obtain ⟨b, hb⟩ := get_some (l := l) (i := i) (by omega)
      refine vskip ?_
      change VOk _ _ _ _ _
      refine vseq ?_
      refine vblock ?_
      refine vseq ?_
      apply vrp
      · apply VE.cons
        · exact ev_idx (k := i) rfl (gn rfl) rfl rfl Tryd.underlying26 Tryd.sizeOf5 (rdg_row rfl) (hlt) (by decide)
        simp only [nm, seval]
        apply VE.cons
        · exact ev_loadi rfl (gn rfl) rfl Tryd.underlying5 rfl (rdg_row rfl) (map_get hb)
        simp only [nm, seval]
        apply VE.cons
        · exact ev_assign rfl (gn rfl)
        simp only [nm, seval]
        exact VE.nil _
      · kernel_rfl
      change VOk _ _ _ _ _
      apply vrp
      · apply VE.cons
        · exact ev_move rfl (gn rfl)
        simp only [nm, seval]
        apply VE.cons
        · exact ev_bin rfl (gn rfl) rfl rfl (fun w => shl_xv hlt8 hlt _ _ w)
        simp only [nm, seval]
        apply VE.cons
        · exact ev_move rfl (gn rfl)
        simp only [nm, seval]
        apply VE.cons
        · exact ev_conv rfl (gn rfl) rfl (fun w => cv58 (hlt8 b (List.mem_of_getElem? hb)) w)
        simp only [nm, seval]
        apply VE.cons
        · exact ev_bin rfl (gn rfl) rfl rfl (fun w => or_xv hlt8 hlt hb _ _ w)
        simp only [nm, seval]
        apply VE.cons
        · exact ev_assign rfl (gn rfl)
        simp only [nm, seval]
        exact VE.nil _
      · kernel_rfl
      change VOk _ _ _ _ _
      apply vrp
      · apply VE.cons
        · exact ev_add (c := ((i + 1 : Nat) : Int)) rfl (gn rfl) rfl rfl (by rw [i64w (by omega) (by omega)]; omega)
        simp only [nm, seval]
        apply VE.cons
        · exact ev_move rfl (gn rfl)
        simp only [nm, seval]
        exact VE.nil _
      · kernel_rfl
      refine ⟨⟨i + 1, by omega⟩, by show 8 - (i + 1) < 8 - i; omega, ?_⟩
      exact weaker_forget (fun i => i == 1 || i == 2 || i == 3 || i == 6 || i == 17 || i == 18 || i == 19) []
  · exact weaker_forget (fun i => i == 1 || i == 2 || i == 3 || i == 6 || i == 17 || i == 18 || i == 19) []
theorem toNum_ok {t : Tr} {c : List Value} {S : Nat → Prop} (w : World) (hok : t.ok) (hx : DN w S t c) : Calls Tryd.prog 19 #[.agg c.toArray] w fun e w' => e = .returned (.tuple #[.int .i64 (tnN t).1, .int .i64 (tnN t).2]) ∧ Bw w w' := by
  obtain ⟨x0, x1, x2, rfl⟩ := list3 (DN_len hx)
  unfold tnN
  cases h : valT t 8 with
  | none => exact toNum_n w hok hx h
  | some l =>
    by_cases hs : beN l < 4611686018427387904
    · simp only [decide_eq_true hs, cond_true]; exact toNum_s w hok hx h hs
    · simp only [decide_eq_false hs, cond_false]; exact toNum_b w hok hx h hs
/-- what ToBig tells. -/
def z32 : List Nat := List.replicate 32 0
theorem z32_len : z32.length = 32 := rfl
theorem z32_lt : ∀ x ∈ z32, x < 256 := fun x hx => by rw [(List.mem_replicate.1 hx).2]; decide
def tbN (t : Tr) : List Nat × Int := match valT t 32 with
  | none => (z32, 2)
  | some l => (l, 0)
theorem tbN_len (t : Tr) : (tbN t).1.length = 32 := by
  unfold tbN
  cases h : valT t 32 with
  | none => rfl
  | some l => exact valT_len h
theorem tbN_lt {t : Tr} (hok : t.ok) : ∀ x ∈ (tbN t).1, x < 256 := by
  unfold tbN
  cases h : valT t 32 with
  | none => exact z32_lt
  | some l => exact valT_lt hok h
theorem toBig_n {t : Tr} {x0 x1 x2 : Value} {S : Nat → Prop} (w : World) (hok : t.ok) (hx : DN w S t [x0, x1, x2]) (h : valT t 32 = none) : Calls Tryd.prog 20 #[.agg #[x0, x1, x2]] w fun e w' => e = .returned (.tuple #[.agg ((z32).map b8).toArray, .int .i64 2]) ∧ Bw w w' := by
  go_enter Tryd.func20, Tryd.ntmps20
  refine ve_go ?_
  simp only [List.map_cons, List.map_nil]
  refine vseq ?_
  apply vrp
  · apply VE.cons
    · exact ev_box rfl rfl (gn rfl) rfl
    simp only [nm, seval]
    apply VE.cons
    · exact ev_allocr (l := z32.map b8) rfl rfl (gn rfl) Tryd.zeroValue44 rfl
    simp only [nm, seval]
    apply VE.cons
    · exact ev_assign rfl (gn rfl)
    simp only [nm, seval]
    exact VE.nil _
  · kernel_rfl
  change VOk _ _ _ _ _
  refine vseq ?_
  apply vrp
  · apply VE.cons
    · first | exact ev_load rfl (gn rfl) rfl rfl Tryd.underlying29 rfl Tryd.sizeOf29 rfl rfl | exact ev_loadx rfl (gn rfl) rfl Tryd.underlying29 rfl Tryd.sizeOf29 (by assumption) rfl | exact ev_loada rfl (gn rfl) rfl rfl Tryd.underlying29 rfl Tryd.sizeOf29 rfl
    simp only [nm, seval]
    apply VE.cons
    · exact ev_callb rfl (gn rfl) rfl (en_of Tryd.func37 (by kernel_rfl) rfl) (fun w' hb => value_no (sz := 32) w' hok (DN_bw hb hx) (by decide) h)
    simp only [nm, seval]
    apply VE.cons
    · exact ev_move rfl (gn rfl)
    simp only [nm, seval]
    apply VE.cons
    · first | exact ev_extract rfl (gn rfl) rfl rfl | exact ev_extractt rfl (gn rfl) rfl rfl
    simp only [nm, seval]
    apply VE.cons
    · first | exact ev_extract rfl (gn rfl) rfl rfl | exact ev_extractt rfl (gn rfl) rfl rfl
    simp only [nm, seval]
    apply VE.cons
    · exact ev_assign rfl (gn rfl)
    simp only [nm, seval]
    apply VE.cons
    · exact ev_assign rfl (gn rfl)
    simp only [nm, seval]
    exact VE.nil _
  · kernel_rfl
  change VOk _ _ _ _ _
  refine vseq ?_
  refine vseq ?_
  apply vrp
  · apply VE.cons
    · exact ev_move rfl (gn rfl)
    simp only [nm, seval]
    apply VE.cons
    · exact ev_neq (p := true) rfl (gn rfl) rfl rfl (by decide)
    simp only [nm, seval]
    exact VE.nil _
  · kernel_rfl
  change VOk _ _ _ _ _
  refine vcond_t rfl ?_
  refine vseq ?_
  apply vrp
  · apply VE.cons
    · exact ev_build (cells := (z32.map b8).toArray) rfl (gn rfl) rfl (by kernel_rfl)
    simp only [nm, seval]
    apply VE.cons
    · exact ev_move rfl (gn rfl)
    simp only [nm, seval]
    apply VE.cons
    · exact ev_storer (l' := (z32).map b8) rfl (gn rfl) rfl rfl rfl Tryd.sizeOf44 (by simp [Value.cells, z32_len]) (by simp [z32_len]) (by show ((z32).map b8).toArray.toList.all _ = true; exact b8_all _) (by simp [Value.cells, z32_len])
    simp only [nm, seval]
    apply VE.cons
    · exact ev_assign rfl (gn rfl)
    simp only [nm, seval]
    exact VE.nil _
  · kernel_rfl
  change VOk _ _ _ _ _
  refine vret ?_
  refine post_ret (res2 Tryd.results20 (rv_cellr (vs := (z32).map b8) rfl rfl Tryd.underlying44 rfl Tryd.sizeOf44 (List.take_of_length_le (by simp [z32_len])) (by simp [z32_len])) (rv_tmp rfl)) ?_
  intro ρ w' hr
  exact ⟨rfl, hr.1⟩
theorem toBig_s {t : Tr} {x0 x1 x2 : Value} {S : Nat → Prop} (w : World) (hok : t.ok) (hx : DN w S t [x0, x1, x2]) {l : List Nat} (h : valT t 32 = some l) : Calls Tryd.prog 20 #[.agg #[x0, x1, x2]] w fun e w' => e = .returned (.tuple #[.agg ((l).map b8).toArray, .int .i64 0]) ∧ Bw w w' := by
  have hlt8 := valT_lt hok h
  have hll := valT_len h
  go_enter Tryd.func20, Tryd.ntmps20
  refine ve_go ?_
  simp only [List.map_cons, List.map_nil]
  refine vseq ?_
  apply vrp
  · apply VE.cons
    · exact ev_box rfl rfl (gn rfl) rfl
    simp only [nm, seval]
    apply VE.cons
    · exact ev_allocr (l := z32.map b8) rfl rfl (gn rfl) Tryd.zeroValue44 rfl
    simp only [nm, seval]
    apply VE.cons
    · exact ev_assign rfl (gn rfl)
    simp only [nm, seval]
    exact VE.nil _
  · kernel_rfl
  change VOk _ _ _ _ _
  refine vseq ?_
  apply vrp
  · apply VE.cons
    · first | exact ev_load rfl (gn rfl) rfl rfl Tryd.underlying29 rfl Tryd.sizeOf29 rfl rfl | exact ev_loadx rfl (gn rfl) rfl Tryd.underlying29 rfl Tryd.sizeOf29 (by assumption) rfl | exact ev_loada rfl (gn rfl) rfl rfl Tryd.underlying29 rfl Tryd.sizeOf29 rfl
    simp only [nm, seval]
    apply VE.cons
    · exact ev_callrowt [] rfl rfl (gn rfl) rfl (en_of Tryd.func37 (by kernel_rfl) rfl) (n := 32) (size := 1) (ty := 5) (l := l.map b8) (y := .int .i64 0) (by simp [hll]) (fun ρ S w' hb hR => value_so (sz := 32) w' hok (DN_bw hb hx) (by decide) h)
    simp only [nm, seval]
    apply VE.cons
    · exact ev_move rfl (gn rfl)
    simp only [nm, seval]
    apply VE.cons
    · first | exact ev_extract rfl (gn rfl) rfl rfl | exact ev_extractt rfl (gn rfl) rfl rfl
    simp only [nm, seval]
    apply VE.cons
    · first | exact ev_extract rfl (gn rfl) rfl rfl | exact ev_extractt rfl (gn rfl) rfl rfl
    simp only [nm, seval]
    apply VE.cons
    · exact ev_assign rfl (gn rfl)
    simp only [nm, seval]
    apply VE.cons
    · exact ev_assign rfl (gn rfl)
    simp only [nm, seval]
    exact VE.nil _
  · kernel_rfl
  change VOk _ _ _ _ _
  refine vseq ?_
  refine vseq ?_
  apply vrp
  · apply VE.cons
    · exact ev_move rfl (gn rfl)
    simp only [nm, seval]
    apply VE.cons
    · exact ev_neq (p := false) rfl (gn rfl) rfl rfl (by decide)
    simp only [nm, seval]
    exact VE.nil _
  · kernel_rfl
  change VOk _ _ _ _ _
  refine vcond_f rfl ?_
  refine vskip ?_
  change VOk _ _ _ _ _
  refine vseq ?_
  apply vrp
  · apply VE.cons
    · exact ev_move rfl (gn rfl)
    simp only [nm, seval]
    apply VE.cons
    · exact ev_arrs rfl (gn rfl) rfl Tryd.underlying44 (rdg_row rfl) (by decide)
    simp only [nm, seval]
    apply VE.cons
    · exact ev_loadarr (vs := l.map b8) rfl (gn rfl) rfl Tryd.underlying44 rfl Tryd.sizeOf44 (rdg_row rfl) (List.take_of_length_le (by simp [hll])) (by simp [hll]) (by decide)
    simp only [nm, seval]
    apply VE.cons
    · exact ev_storer (l' := (l).map b8) rfl (gn rfl) rfl rfl rfl Tryd.sizeOf44 (by simp [Value.cells, hll]) (by simp [z32_len]) (by show ((l).map b8).toArray.toList.all _ = true; exact b8_all _) (by simp [Value.cells, z32_len])
    simp only [nm, seval]
    apply VE.cons
    · exact ev_assign rfl (gn rfl)
    simp only [nm, seval]
    exact VE.nil _
  · kernel_rfl
  change VOk _ _ _ _ _
  refine vret ?_
  refine post_ret (res2 Tryd.results20 (rv_cellr (vs := (l).map b8) rfl rfl Tryd.underlying44 rfl Tryd.sizeOf44 (List.take_of_length_le (by simp [hll])) (by simp [hll])) (rv_tmp rfl)) ?_
  intro ρ w' hr
  exact ⟨rfl, hr.1⟩
theorem toBig_ok {t : Tr} {c : List Value} {S : Nat → Prop} (w : World) (hok : t.ok) (hx : DN w S t c) : Calls Tryd.prog 20 #[.agg c.toArray] w fun e w' => e = .returned (.tuple #[.agg ((tbN t).1.map b8).toArray, .int .i64 (tbN t).2]) ∧ Bw w w' := by
  obtain ⟨x0, x1, x2, rfl⟩ := list3 (DN_len hx)
  unfold tbN
  cases h : valT t 32 with
  | none => exact toBig_n w hok hx h
  | some l => exact toBig_s w hok hx h
end Go.Proofs.YtmgmiiongleaeaaDoor
