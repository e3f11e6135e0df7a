import Derived.Test.YtmgmiiongleaeaaDoorDf
namespace Go.Proofs.YtmgmiiongleaeaaDoor
open Go.RowKit Go.Vx
open Go.Toll (Gw)
set_option maxHeartbeats 4000000
set_option maxRecDepth 100000
theorem one_str (b : List Nat) : (decide (b = [0]) || decide (b = [255])) = oneT b := by
  match b with
  | [] => rfl
  | [x] => simp [oneT]
  | x :: y :: r => simp [oneT]
theorem rbody_ok {b : List Nat} (tag : Int) (h8 : ∀ x ∈ b, x < 256) (hm : b.length ≤ 1048576) (w : World) : Calls Tryd.prog 36 #[.int .i64 tag, .string (bstr b)] w fun e w' => e = .returned (.bool (bodyT tag b)) ∧ Bw w w' := by
  unfold bodyT
  by_cases h1 : tag = 1
  · subst h1; have := rbody_1 h8 hm w; rw [one_str] at this; exact this
  by_cases h2 : tag = 2
  · subst h2
    match b, h8, hm with
    | [], _, _ => exact rbody_2n w
    | [x], _, _ => exact rbody_2s w
    | x :: y :: r, h8, _ => exact rbody_2l h8 w
  by_cases h3 : tag = 3
  · subst h3
    match b, h8, hm with
    | [], _, _ => exact rbody_3n w
    | b0 :: r, h8, hm => exact rbody_3c h8 hm w
  by_cases h4 : tag = 4
  · subst h4; exact rbody_4 h8 hm w
  by_cases h6 : tag = 6
  · subst h6; exact rbody_6 h8 hm w
  by_cases h12 : tag = 12
  · subst h12; exact rbody_12 h8 hm w
  have := rbody_0 h8 hm tag h1 h2 h3 h4 h6 h12 w
  simp only [decide_eq_false h1, decide_eq_false h2, decide_eq_false h3, decide_eq_false h4, decide_eq_false h6, decide_eq_false h12, cond_false]
  exact this
def RRightOK (t : Tr) : Prop := ∀ (d : Nat) (xs : List Value) (w : World) (S : Nat → Prop), d ≤ 9 → RN w S t xs → Calls Tryd.prog 18 #[.agg xs.toArray, .int .i64 (d : Nat)] w fun e w' => e = .returned (.bool (rightT t d)) ∧ Bw w w'
theorem list3 {α : Type} {l : List α} (h : l.length = 3) : ∃ a b c, l = [a, b, c] := by
  match l, h with
  | [a, b, c], _ => exact ⟨a, b, c, rfl⟩
theorem nil_pos (b : List Nat) : decide (b ≠ []) = decide (b.length > 0) := by cases b <;> simp
theorem rright_step {t : Int} {b : List Nat} {ks : List Tr} {kv : Value} {cs : List Value} {d : Nat} {S : Nat → Prop} (w : World) (hih : ∀ k ∈ ks, RRightOK k) (hv : SlAt w kv ks.length 3 cs S) (hn : RNs w S ks cs) (h8 : ∀ x ∈ b, x < 256) (hbl : b.length ≤ 1048576) (hm : ks.length ≤ 1048576) (hd9 : d ≤ 9) : Calls Tryd.prog 18 #[.agg #[.int .i64 t, .string (bstr b), kv], .int .i64 (d : Nat)] w fun e w' => e = .returned (.bool (rightT (.mk t b ks) d)) ∧ Bw w w' := by
  unfold rightT
  obtain ⟨q1, h_q1⟩ : ∃ p, decide (d > 8) = p := ⟨_, rfl⟩
  obtain ⟨q2m, h_q2m⟩ : ∃ p, madeT t = p := ⟨_, rfl⟩
  obtain ⟨q3, h_q3⟩ : ∃ p, decide (ks.length = 0) = p := ⟨_, rfl⟩
  obtain ⟨q5, h_q5⟩ : ∃ p, decide (b.length > 0) = p := ⟨_, rfl⟩
  obtain ⟨q6, h_q6⟩ : ∃ p, decide (ks.length > 20) = p := ⟨_, rfl⟩
  rw [h_q1, h_q2m, h_q3, h_q5, h_q6]
  have h_q1' := (nat_gt d 8).trans h_q1
  have h_q3' := (nat_eq ks.length 0).trans h_q3
  have h_q5' := (nil_pos b).trans h_q5
  have h_q6' := (nat_gt ks.length 20).trans h_q6
  go_enter Tryd.func18, Tryd.ntmps18
  refine ve_go ?_
  simp only [List.map_cons, List.map_nil]
  refine vseq ?_
  apply vrp
  · apply VE.cons
    · exact ev_box rfl rfl (gn rfl) rfl
    simp only [nm, seval]
    apply VE.cons
    · exact ev_assign rfl (gn rfl)
    simp only [nm, seval]
    exact VE.nil _
  · kernel_rfl
  change VOk _ _ _ _ _
  refine vseq ?_
  refine vseq ?_
  apply vrp
  · apply VE.cons
    · exact ev_move rfl (gn rfl)
    simp only [nm, seval]
    apply VE.cons
    · exact ev_gtr rfl (gn rfl) rfl rfl h_q1'
    simp only [nm, seval]
    exact VE.nil _
  · kernel_rfl
  change VOk _ _ _ _ _
  cases q1
  · refine vcond_f rfl ?_
    refine vskip ?_
    change VOk _ _ _ _ _
    refine vseq ?_
    refine vseq ?_
    apply vrp
    · apply VE.cons
      · first | exact ev_field rfl (gn rfl) rfl Tryd.underlying24 rfl Tryd.sizeOf3 | exact ev_fieldx rfl (gn rfl) rfl Tryd.underlying24 rfl Tryd.sizeOf3
      simp only [nm, seval]
      apply VE.cons
      · first | exact ev_load1 rfl (gn rfl) rfl rfl Tryd.underlying3 rfl rfl | exact ev_loadx1 rfl (gn rfl) rfl Tryd.underlying3 rfl (by assumption)
      simp only [nm, seval]
      apply VE.cons
      · exact ev_callb (v := .bool q2m) rfl (gn rfl) rfl (en_of Tryd.func35 (by kernel_rfl) rfl) (fun w' hb => h_q2m ▸ rmade_ok t w')
      simp only [nm, seval]
      apply VE.cons
      · exact ev_not rfl (gn rfl) rfl
      simp only [nm, seval]
      exact VE.nil _
    · kernel_rfl
    change VOk _ _ _ _ _
    cases q2m
    · refine vcond_t rfl ?_
      cases q3 <;>
      (
        refine vseq ?_
        apply vrp
        · apply VE.cons
          · first | exact ev_field rfl (gn rfl) rfl Tryd.underlying24 rfl Tryd.sizeOf22 | exact ev_fieldx rfl (gn rfl) rfl Tryd.underlying24 rfl Tryd.sizeOf22
          simp only [nm, seval]
          apply VE.cons
          · first | exact ev_load1 rfl (gn rfl) rfl rfl Tryd.underlying22 rfl rfl | exact ev_loadx1 rfl (gn rfl) rfl Tryd.underlying22 rfl (by assumption)
          simp only [nm, seval]
          apply VE.cons
          · exact ev_len rfl (gn rfl) rfl Tryd.underlying22 (rdg_arg hv)
          simp only [nm, seval]
          apply VE.cons
          · exact ev_eql rfl (gn rfl) rfl rfl h_q3'
          simp only [nm, seval]
          apply VE.cons
          · exact ev_move rfl (gn rfl)
          simp only [nm, seval]
          apply VE.cons
          · first | exact Ev.skip (fun _ => rfl) | exact ev_field rfl (fun _ => rfl) rfl Tryd.underlying24 rfl Tryd.sizeOf3 | exact ev_fieldx rfl (fun _ => rfl) rfl Tryd.underlying24 rfl Tryd.sizeOf3
          simp only [nm, seval]
          apply VE.cons
          · first | exact Ev.skip (fun _ => rfl) | exact ev_load1 rfl (fun _ => rfl) rfl rfl Tryd.underlying3 rfl rfl | exact ev_loadx1 rfl (fun _ => rfl) rfl Tryd.underlying3 rfl (by assumption)
          simp only [nm, seval]
          apply VE.cons
          · first | exact Ev.skip (fun _ => rfl) | exact ev_field rfl (fun _ => rfl) rfl Tryd.underlying24 rfl Tryd.sizeOf9 | exact ev_fieldx rfl (fun _ => rfl) rfl Tryd.underlying24 rfl Tryd.sizeOf9
          simp only [nm, seval]
          apply VE.cons
          · first | exact Ev.skip (fun _ => rfl) | exact ev_load1 rfl (fun _ => rfl) rfl rfl Tryd.underlying9 rfl rfl | exact ev_loadx1 rfl (fun _ => rfl) rfl Tryd.underlying9 rfl (by assumption)
          simp only [nm, seval]
          apply VE.cons
          · first | exact Ev.skip (fun _ => rfl) | exact ev_callb rfl (fun _ => rfl) rfl (en_of Tryd.func36 (by kernel_rfl) rfl) (fun w' hb => rbody_ok t h8 hbl w')
          simp only [nm, seval]
          apply VE.cons
          · first | exact ev_pick_t rfl (gn rfl) rfl rfl | exact ev_pick_f rfl (gn rfl) rfl rfl
          simp only [nm, seval]
          apply VE.cons
          · exact ev_assign rfl (gn rfl)
          simp only [nm, seval]
          exact VE.nil _
        · kernel_rfl
        change VOk _ _ _ _ _
        refine vret ?_
        refine post_ret (res1 Tryd.results18 (rv_tmp rfl)) ?_
        intro ρ w' hr
        (first | exact ⟨rfl, hr.1⟩ | (refine ⟨?_, hr.1⟩; rw [hidx]; rfl) | (refine ⟨?_, hr.1⟩; rw [hidx, drop_get hk]; simp only [notR, h_q2]; rfl))
      )
    · refine vcond_f rfl ?_
      cases q5 <;> cases q6 <;>
      (
        refine vskip ?_
        change VOk _ _ _ _ _
        refine vseq ?_
        refine vseq ?_
        apply vrp
        · apply VE.cons
          · first | exact ev_field rfl (gn rfl) rfl Tryd.underlying24 rfl Tryd.sizeOf9 | exact ev_fieldx rfl (gn rfl) rfl Tryd.underlying24 rfl Tryd.sizeOf9
          simp only [nm, seval]
          apply VE.cons
          · first | exact ev_load1 rfl (gn rfl) rfl rfl Tryd.underlying9 rfl rfl | exact ev_loadx1 rfl (gn rfl) rfl Tryd.underlying9 rfl (by assumption)
          simp only [nm, seval]
          apply VE.cons
          · exact ev_bin rfl (gn rfl) rfl rfl (fun w => str_ne (b := []) h_q5' h8 (by simp) _ _ w)
          simp only [nm, seval]
          apply VE.cons
          · exact ev_move rfl (gn rfl)
          simp only [nm, seval]
          apply VE.cons
          · first | exact Ev.skip (fun _ => rfl) | exact ev_field rfl (fun _ => rfl) rfl Tryd.underlying24 rfl Tryd.sizeOf22 | exact ev_fieldx rfl (fun _ => rfl) rfl Tryd.underlying24 rfl Tryd.sizeOf22
          simp only [nm, seval]
          apply VE.cons
          · first | exact Ev.skip (fun _ => rfl) | exact ev_load1 rfl (fun _ => rfl) rfl rfl Tryd.underlying22 rfl rfl | exact ev_loadx1 rfl (fun _ => rfl) rfl Tryd.underlying22 rfl (by assumption)
          simp only [nm, seval]
          apply VE.cons
          · first | exact Ev.skip (fun _ => rfl) | exact ev_len rfl (fun _ => rfl) rfl Tryd.underlying22 (rdg_arg hv)
          simp only [nm, seval]
          apply VE.cons
          · first | exact Ev.skip (fun _ => rfl) | exact ev_gtr rfl (fun _ => rfl) rfl rfl h_q6'
          simp only [nm, seval]
          apply VE.cons
          · first | exact ev_pick_t rfl (gn rfl) rfl rfl | exact ev_pick_f rfl (gn rfl) rfl rfl
          simp only [nm, seval]
          exact VE.nil _
        · kernel_rfl
        change VOk _ _ _ _ _
        first
        | (
            refine vcond_t rfl ?_
            refine vseq ?_
            apply vrp
            · apply VE.cons
              · exact ev_assign rfl (gn rfl)
              simp only [nm, seval]
              exact VE.nil _
            · kernel_rfl
            change VOk _ _ _ _ _
            refine vret ?_
            refine post_ret (res1 Tryd.results18 (rv_tmp rfl)) ?_
            intro ρ w' hr
            (first | exact ⟨rfl, hr.1⟩ | (refine ⟨?_, hr.1⟩; rw [hidx]; rfl) | (refine ⟨?_, hr.1⟩; rw [hidx, drop_get hk]; simp only [notR, h_q2]; rfl))
          )
        | (
            refine vcond_f rfl ?_
            refine vskip ?_
            change VOk _ _ _ _ _
            refine vseq ?_
            refine vseq ?_
            apply vrp
            · apply VE.cons
              · exact ev_assign rfl (gn rfl)
              simp only [nm, seval]
              exact VE.nil _
            · kernel_rfl
            change VOk _ _ _ _ _
            refine vblock ?_
            refine vloop_w (α := {i : Nat // i ≤ ks.length ∧ notR ks (d + 1) = notR (ks.drop i) (d + 1)}) (fun (x : {i : Nat // i ≤ ks.length ∧ notR ks (d + 1) = notR (ks.drop i) (d + 1)}) f => ⟨[.v (f 0), .v (.int .i64 (d : Nat)), .p 2 0, .v (f 3), .v (.bool false), .v (.int .i64 (x.1 : Nat)), .v (f 6), .v (f 7), .v (f 8), .v (f 9), .v (f 10), .v (f 11), .v (f 12), .v (f 13), .v (f 14), .v (f 15), .v (f 16), .v (f 17), .v (f 18), .v (f 19), .v (f 20), .v (f 21), .v (f 22), .v (f 23), .v (f 24), .v (f 25), .v (f 26), .v (f 27), .v (f 28), .v (f 29), .v (f 30), .v (f 31), .v (f 32), .v (f 33), .v (f 34), .v (f 35), .v (f 36), .v (f 37), .v (f 38), .v (f 39), .v (f 40), .v (f 41), .v (f 42), .v (f 43), .v (f 44), .v (f 45), .v (f 46), .v (f 47)], memOf [(2, .cells [.v (.int .i64 t), .v (.string (bstr b)), .v kv] 24)]⟩) (fun x => ks.length - x.1) ?_ (⟨0, Nat.zero_le _, rfl⟩) ?_
            · rintro ⟨i, hi, hidx⟩ f
              obtain ⟨q, h_q⟩ : ∃ q, decide ((i : Int) < (ks.length : Int)) = q := ⟨_, rfl⟩
              change VOk _ _ _ _ _
              refine vseq ?_
              refine vseq ?_
              apply vrp
              · apply VE.cons
                · exact ev_move rfl (gn rfl)
                simp only [nm, seval]
                apply VE.cons
                · first | exact ev_field rfl (gn rfl) rfl Tryd.underlying24 rfl Tryd.sizeOf22 | exact ev_fieldx rfl (gn rfl) rfl Tryd.underlying24 rfl Tryd.sizeOf22
                simp only [nm, seval]
                apply VE.cons
                · first | exact ev_load1 rfl (gn rfl) rfl rfl Tryd.underlying22 rfl rfl | exact ev_loadx1 rfl (gn rfl) rfl Tryd.underlying22 rfl (by assumption)
                simp only [nm, seval]
                apply VE.cons
                · exact ev_len rfl (gn rfl) rfl Tryd.underlying22 (rdg_arg hv)
                simp only [nm, seval]
                apply VE.cons
                · exact ev_lss rfl (gn rfl) rfl rfl h_q
                simp only [nm, seval]
                exact VE.nil _
              · kernel_rfl
              change VOk _ _ _ _ _
              cases q
              · refine vcond_f rfl ?_
                have hge : ks.length ≤ i := by have := of_decide_eq_false h_q; omega
                rw [List.drop_eq_nil_of_le hge] at hidx
                refine vexit ?_
                change VOk _ _ _ _ _
                refine vseq ?_
                apply vrp
                · apply VE.cons
                  · exact ev_assign rfl (gn rfl)
                  simp only [nm, seval]
                  exact VE.nil _
                · kernel_rfl
                change VOk _ _ _ _ _
                refine vret ?_
                refine post_ret (res1 Tryd.results18 (rv_tmp rfl)) ?_
                intro ρ w' hr
                (first | exact ⟨rfl, hr.1⟩ | (refine ⟨?_, hr.1⟩; rw [hidx]; rfl) | (refine ⟨?_, hr.1⟩; rw [hidx, drop_get hk]; simp only [notR, h_q2]; rfl))
              · refine vcond_t rfl ?_
                have hlt : i < ks.length := by have := of_decide_eq_true h_q; omega
                obtain ⟨kk, hk⟩ := get_some hlt
                obtain ⟨x, hx, hrn⟩ := RNs_get hn hk
                have hx3 := RN_len hrn
                obtain ⟨x0, x1, x2, rfl⟩ := list3 hx3
                obtain ⟨q2, h_q2⟩ : ∃ q2, rightT kk (d + 1) = q2 := ⟨_, rfl⟩
                refine vskip ?_
                change VOk _ _ _ _ _
                refine vseq ?_
                refine vblock ?_
                refine vseq ?_
                apply vrp
                · apply VE.cons
                  · first | exact ev_field rfl (gn rfl) rfl Tryd.underlying24 rfl Tryd.sizeOf22 | exact ev_fieldx rfl (gn rfl) rfl Tryd.underlying24 rfl Tryd.sizeOf22
                  simp only [nm, seval]
                  apply VE.cons
                  · first | exact ev_load1 rfl (gn rfl) rfl rfl Tryd.underlying22 rfl rfl | exact ev_loadx1 rfl (gn rfl) rfl Tryd.underlying22 rfl (by assumption)
                  simp only [nm, seval]
                  apply VE.cons
                  · exact ev_move rfl (gn rfl)
                  simp only [nm, seval]
                  apply VE.cons
                  · exact ev_idx (k := i) rfl (gn rfl) rfl rfl Tryd.underlying22 Tryd.sizeOf24 (rdg_arg hv) (hlt) (by decide)
                  simp only [nm, seval]
                  apply VE.cons
                  · exact ev_loadp rfl (gn rfl) rfl Tryd.underlying24 rfl Tryd.sizeOf24 (rdg_arg hv) (hx) rfl (by decide)
                  simp only [nm, seval]
                  apply VE.cons
                  · exact ev_move rfl (gn rfl)
                  simp only [nm, seval]
                  apply VE.cons
                  · exact ev_add (c := ((d + 1 : Nat) : Int)) rfl (gn rfl) rfl rfl (by rw [i64w (by omega) (by omega)]; omega)
                  simp only [nm, seval]
                  apply VE.cons
                  · exact ev_callb (v := .bool q2) rfl (gn rfl) rfl (en_of Tryd.func18 (by kernel_rfl) rfl) (fun w' hb => h_q2 ▸ hih kk (List.mem_of_getElem? hk) (d + 1) _ w' _ (by have := of_decide_eq_false h_q1; omega) (RN_bw hb hrn))
                  simp only [nm, seval]
                  apply VE.cons
                  · exact ev_not rfl (gn rfl) rfl
                  simp only [nm, seval]
                  exact VE.nil _
                · kernel_rfl
                change VOk _ _ _ _ _
                cases q2
                · refine vcond_t rfl ?_
                  refine vseq ?_
                  apply vrp
                  · apply VE.cons
                    · exact ev_assign rfl (gn rfl)
                    simp only [nm, seval]
                    exact VE.nil _
                  · kernel_rfl
                  change VOk _ _ _ _ _
                  refine vret ?_
                  refine post_ret (res1 Tryd.results18 (rv_tmp rfl)) ?_
                  intro ρ w' hr
                  (first | exact ⟨rfl, hr.1⟩ | (refine ⟨?_, hr.1⟩; rw [hidx]; rfl) | (refine ⟨?_, hr.1⟩; rw [hidx, drop_get hk]; simp only [notR, h_q2]; rfl))
                · refine vcond_f rfl ?_
                  refine vskip ?_
                  change VOk _ _ _ _ _
                  apply vrp
                  · apply VE.cons
                    · exact ev_move rfl (gn rfl)
                    simp only [nm, seval]
                    apply VE.cons
                    · exact ev_add (c := ((i + 1 : Nat) : Int)) rfl (gn rfl) rfl rfl (by rw [i64w (by omega) (by omega)]; omega)
                    simp only [nm, seval]
                    apply VE.cons
                    · exact ev_assign rfl (gn rfl)
                    simp only [nm, seval]
                    exact VE.nil _
                  · kernel_rfl
                  refine ⟨⟨i + 1, by omega, by rw [hidx, drop_get hk]; simp only [notR, h_q2]; rfl⟩, by show ks.length - (i + 1) < ks.length - i; omega, ?_⟩
                  exact weaker_forget (fun i => i == 1 || i == 2 || i == 4 || i == 5) []
            · exact weaker_forget (fun i => i == 1 || i == 2 || i == 4 || i == 5) []
          )
      )
  · refine vcond_t rfl ?_
    refine vseq ?_
    apply vrp
    · apply VE.cons
      · exact ev_assign rfl (gn rfl)
      simp only [nm, seval]
      exact VE.nil _
    · kernel_rfl
    change VOk _ _ _ _ _
    refine vret ?_
    refine post_ret (res1 Tryd.results18 (rv_tmp rfl)) ?_
    intro ρ w' hr
    (first | exact ⟨rfl, hr.1⟩ | (refine ⟨?_, hr.1⟩; rw [hidx]; rfl) | (refine ⟨?_, hr.1⟩; rw [hidx, drop_get hk]; simp only [notR, h_q2]; rfl))
mutual
theorem rright_all : ∀ t : Tr, t.ok → RRightOK t
  | .mk t b ks, h => fun d xs w S hd hx => by
    simp only [Tr.ok] at h
    simp only [RN] at hx
    obtain ⟨kv, cs, rfl, h3, h4⟩ := hx
    exact rright_step w (rrights_all ks h.2.2.2) h3 h4 h.1 h.2.1 h.2.2.1 hd
theorem rrights_all : ∀ ks : List Tr, oks ks → ∀ k ∈ ks, RRightOK k
  | [], _ => fun k hk => by cases hk
  | k0 :: ks, h => fun k hk => by
    simp only [oks] at h
    rcases List.mem_cons.1 hk with e | hk
    · exact e ▸ rright_all k0 h.1
    · exact rrights_all ks h.2 k hk
end
end Go.Proofs.YtmgmiiongleaeaaDoor
