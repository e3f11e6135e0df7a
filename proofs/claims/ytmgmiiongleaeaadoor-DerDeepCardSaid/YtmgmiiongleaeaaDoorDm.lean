import Derived.Test.YtmgmiiongleaeaaDoorDl
namespace Go.Proofs.YtmgmiiongleaeaaDoor
open Go.RowKit Go.Vx
open Go.Toll (Gw)
set_option maxHeartbeats 4000000
set_option maxRecDepth 100000
mutual
def sameT : Tr → Tr → Bool
  | .mk t b ks, .mk t' b' ks' => bif (decide (t ≠ t') || decide (b ≠ b') || decide (ks.length ≠ ks'.length)) then false else sames ks ks'
def sames : List Tr → List Tr → Bool
  | [], _ => true
  | _ :: _, [] => true
  | k :: ks, k' :: ks' => sameT k k' && sames ks ks'
end
mutual
theorem sameT_refl : ∀ t : Tr, sameT t t = true
  | .mk t b ks => by simp [sameT, sames_refl ks]
theorem sames_refl : ∀ ks : List Tr, sames ks ks = true
  | [] => by simp [sames]
  | k :: ks => by simp [sames, sameT_refl k, sames_refl ks]
end
mutual
theorem sameT_eq : ∀ t t' : Tr, sameT t t' = true → t = t'
  | .mk t b ks, .mk t' b' ks', h => by
    simp only [sameT] at h
    by_cases h1 : t = t'
    · by_cases h2 : b = b'
      · by_cases h3 : ks.length = ks'.length
        · simp only [h1, h2, h3, decide_not, decide_true, Bool.not_true, Bool.or_false, Bool.or_self, cond_false] at h
          rw [h1, h2, sames_eq ks ks' h3 h]
        · simp [h3] at h
      · simp [h2] at h
    · simp [h1] at h
theorem sames_eq : ∀ ks ks' : List Tr, ks.length = ks'.length → sames ks ks' = true → ks = ks'
  | [], [], _, _ => rfl
  | [], _ :: _, h, _ => by simp at h
  | _ :: _, [], h, _ => by simp at h
  | k :: ks, k' :: ks', hl, h => by
    simp only [sames, Bool.and_eq_true] at h
    rw [sameT_eq k k' h.1, sames_eq ks ks' (by simpa using hl) h.2]
end
def SameOK (t : Tr) : Prop := ∀ (t' : Tr) (xs ys : List Value) (w : World) (S S' : Nat → Prop), t'.ok → RN w S t xs → RN w S' t' ys → Calls Tryd.prog 15 #[.agg xs.toArray, .agg ys.toArray] w fun e w' => e = .returned (.bool (sameT t t')) ∧ Bw w w'
theorem sames_drop {ks ks' : List Tr} {i : Nat} {k k' : Tr} (h : ks[i]? = some k) (h' : ks'[i]? = some k') : sames (ks.drop i) (ks'.drop i) = (sameT k k' && sames (ks.drop (i + 1)) (ks'.drop (i + 1))) := by
  rw [drop_get h, drop_get h', sames]
theorem same_step {t t' : Int} {b b' : List Nat} {ks ks' : List Tr} {kv kv' : Value} {cs cs' : List Value} {S S' : Nat → Prop} (w : World) (hih : ∀ k ∈ ks, SameOK k) (hoks' : oks ks') (h8 : ∀ x ∈ b, x < 256) (h8' : ∀ x ∈ b', x < 256) (hv : SlAt w kv ks.length 3 cs S) (hn : RNs w S ks cs) (hv' : SlAt w kv' ks'.length 3 cs' S') (hn' : RNs w S' ks' cs') (hks : ks.length ≤ 1048576) (hks' : ks'.length ≤ 1048576) : Calls Tryd.prog 15 #[.agg #[.int .i64 t, .string (bstr b), kv], .agg #[.int .i64 t', .string (bstr b'), kv']] w fun e w' => e = .returned (.bool (sameT (.mk t b ks) (.mk t' b' ks'))) ∧ Bw w w' := by
  unfold sameT
  obtain ⟨p1, h_p1⟩ : ∃ p, decide (t ≠ t') = p := ⟨_, rfl⟩
  obtain ⟨p2, h_p2⟩ : ∃ p, decide (b ≠ b') = p := ⟨_, rfl⟩
  obtain ⟨p3, h_p3⟩ : ∃ p, decide (ks.length ≠ ks'.length) = p := ⟨_, rfl⟩
  rw [h_p1, h_p2, h_p3]
  have h_p3n := h_p3
  have h_p3 : decide ((ks.length : Int) ≠ (ks'.length : Int)) = p3 := by rw [← h_p3n]; exact decide_eq_decide.2 (by omega)
  go_enter Tryd.func15, Tryd.ntmps15
  refine ve_go ?_
  simp only [List.map_cons, List.map_nil]
  cases p1 <;> cases p2 <;> cases p3 <;>
  (
    refine vseq ?_
    apply vrp
    · apply VE.cons
      · exact ev_box rfl rfl (gn rfl) rfl
      simp only [nm, seval]
      apply VE.cons
      · exact ev_box rfl rfl (gn rfl) rfl
      simp only [nm, seval]
      apply VE.cons
      · exact ev_assign rfl (gn rfl)
      simp only [nm, seval]
      exact VE.nil _
    · kernel_rfl
    change VOk _ _ _ _ _
    refine vseq ?_
    refine vseq ?_
    apply vrp
    · apply VE.cons
      · first | exact ev_field rfl (gn rfl) rfl Tryd.underlying24 rfl Tryd.sizeOf3 | exact ev_fieldx rfl (gn rfl) rfl Tryd.underlying24 rfl Tryd.sizeOf3
      simp only [nm, seval]
      apply VE.cons
      · first | exact ev_load1 rfl (gn rfl) rfl rfl Tryd.underlying3 rfl rfl | exact ev_loadx1 rfl (gn rfl) rfl Tryd.underlying3 rfl (by assumption)
      simp only [nm, seval]
      apply VE.cons
      · first | exact ev_field rfl (gn rfl) rfl Tryd.underlying24 rfl Tryd.sizeOf3 | exact ev_fieldx rfl (gn rfl) rfl Tryd.underlying24 rfl Tryd.sizeOf3
      simp only [nm, seval]
      apply VE.cons
      · first | exact ev_load1 rfl (gn rfl) rfl rfl Tryd.underlying3 rfl rfl | exact ev_loadx1 rfl (gn rfl) rfl Tryd.underlying3 rfl (by assumption)
      simp only [nm, seval]
      apply VE.cons
      · exact ev_neq rfl (gn rfl) rfl rfl h_p1
      simp only [nm, seval]
      apply VE.cons
      · exact ev_move rfl (gn rfl)
      simp only [nm, seval]
      apply VE.cons
      · first | exact Ev.skip (fun _ => rfl) | exact ev_field rfl (fun _ => rfl) rfl Tryd.underlying24 rfl Tryd.sizeOf9 | exact ev_fieldx rfl (fun _ => rfl) rfl Tryd.underlying24 rfl Tryd.sizeOf9
      simp only [nm, seval]
      apply VE.cons
      · first | exact Ev.skip (fun _ => rfl) | exact ev_load1 rfl (fun _ => rfl) rfl rfl Tryd.underlying9 rfl rfl | exact ev_loadx1 rfl (fun _ => rfl) rfl Tryd.underlying9 rfl (by assumption)
      simp only [nm, seval]
      apply VE.cons
      · first | exact Ev.skip (fun _ => rfl) | exact ev_field rfl (fun _ => rfl) rfl Tryd.underlying24 rfl Tryd.sizeOf9 | exact ev_fieldx rfl (fun _ => rfl) rfl Tryd.underlying24 rfl Tryd.sizeOf9
      simp only [nm, seval]
      apply VE.cons
      · first | exact Ev.skip (fun _ => rfl) | exact ev_load1 rfl (fun _ => rfl) rfl rfl Tryd.underlying9 rfl rfl | exact ev_loadx1 rfl (fun _ => rfl) rfl Tryd.underlying9 rfl (by assumption)
      simp only [nm, seval]
      apply VE.cons
      · first | exact Ev.skip (fun _ => rfl) | exact ev_bin rfl (fun _ => rfl) rfl rfl (fun w => str_ne h_p2 h8 h8' _ _ w)
      simp only [nm, seval]
      apply VE.cons
      · first | exact ev_pick_t rfl (gn rfl) rfl rfl | exact ev_pick_f rfl (gn rfl) rfl rfl
      simp only [nm, seval]
      apply VE.cons
      · exact ev_move rfl (gn rfl)
      simp only [nm, seval]
      apply VE.cons
      · first | exact Ev.skip (fun _ => rfl) | exact ev_field rfl (fun _ => rfl) rfl Tryd.underlying24 rfl Tryd.sizeOf22 | exact ev_fieldx rfl (fun _ => rfl) rfl Tryd.underlying24 rfl Tryd.sizeOf22
      simp only [nm, seval]
      apply VE.cons
      · first | exact Ev.skip (fun _ => rfl) | exact ev_load1 rfl (fun _ => rfl) rfl rfl Tryd.underlying22 rfl rfl | exact ev_loadx1 rfl (fun _ => rfl) rfl Tryd.underlying22 rfl (by assumption)
      simp only [nm, seval]
      apply VE.cons
      · first | exact Ev.skip (fun _ => rfl) | exact ev_len rfl (fun _ => rfl) rfl Tryd.underlying22 (rdg_arg hv)
      simp only [nm, seval]
      apply VE.cons
      · first | exact Ev.skip (fun _ => rfl) | exact ev_field rfl (fun _ => rfl) rfl Tryd.underlying24 rfl Tryd.sizeOf22 | exact ev_fieldx rfl (fun _ => rfl) rfl Tryd.underlying24 rfl Tryd.sizeOf22
      simp only [nm, seval]
      apply VE.cons
      · first | exact Ev.skip (fun _ => rfl) | exact ev_load1 rfl (fun _ => rfl) rfl rfl Tryd.underlying22 rfl rfl | exact ev_loadx1 rfl (fun _ => rfl) rfl Tryd.underlying22 rfl (by assumption)
      simp only [nm, seval]
      apply VE.cons
      · first | exact Ev.skip (fun _ => rfl) | exact ev_len rfl (fun _ => rfl) rfl Tryd.underlying22 (rdg_arg hv')
      simp only [nm, seval]
      apply VE.cons
      · first | exact Ev.skip (fun _ => rfl) | exact ev_neq rfl (fun _ => rfl) rfl rfl h_p3
      simp only [nm, seval]
      apply VE.cons
      · first | exact ev_pick_t rfl (gn rfl) rfl rfl | exact ev_pick_f rfl (gn rfl) rfl rfl
      simp only [nm, seval]
      exact VE.nil _
    · kernel_rfl
    change VOk _ _ _ _ _
    first
    | (
        refine vcond_t rfl ?_
        refine vseq ?_
        apply vrp
        · apply VE.cons
          · exact ev_assign rfl (gn rfl)
          simp only [nm, seval]
          exact VE.nil _
        · kernel_rfl
        change VOk _ _ _ _ _
        refine vret ?_
        refine post_ret (res1 Tryd.results15 (rv_tmp rfl)) ?_
        intro ρ w' hr
        (first | exact ⟨rfl, hr.1⟩ | (refine ⟨?_, hr.1⟩; rw [hidx]; rfl) | (refine ⟨?_, hr.1⟩; rw [hidx, sames_drop hk hk', h_q2]; rfl))
      )
    | (
        refine vcond_f rfl ?_
        refine vskip ?_
        change VOk _ _ _ _ _
        refine vseq ?_
        refine vseq ?_
        apply vrp
        · apply VE.cons
          · exact ev_assign rfl (gn rfl)
          simp only [nm, seval]
          exact VE.nil _
        · kernel_rfl
        change VOk _ _ _ _ _
        refine vblock ?_
        refine vloop_w (α := {i : Nat // i ≤ ks.length ∧ sames ks ks' = sames (ks.drop i) (ks'.drop i)}) (fun (x : {i : Nat // i ≤ ks.length ∧ sames ks ks' = sames (ks.drop i) (ks'.drop i)}) f => ⟨[.v (f 0), .v (f 1), .p 2 0, .p 3 0, .v (.bool false), .v (.int .i64 (x.1 : Nat)), .v (f 6), .v (f 7), .v (f 8), .v (f 9), .v (f 10), .v (f 11), .v (f 12), .v (f 13), .v (f 14), .v (f 15), .v (f 16), .v (f 17), .v (f 18), .v (f 19), .v (f 20), .v (f 21), .v (f 22), .v (f 23), .v (f 24), .v (f 25), .v (f 26), .v (f 27), .v (f 28), .v (f 29), .v (f 30), .v (f 31), .v (f 32), .v (f 33), .v (f 34), .v (f 35), .v (f 36), .v (f 37), .v (f 38), .v (f 39), .v (f 40), .v (f 41), .v (f 42), .v (f 43), .v (f 44), .v (f 45)], memOf [(3, .cells [.v (.int .i64 t'), .v (.string (bstr b')), .v kv'] 24), (2, .cells [.v (.int .i64 t), .v (.string (bstr b)), .v kv] 24)]⟩) (fun x => ks.length - x.1) ?_ (⟨0, Nat.zero_le _, rfl⟩) ?_
        · rintro ⟨i, hi, hidx⟩ f
          have hll : ks.length = ks'.length := by simpa using of_decide_eq_false h_p3n
          obtain ⟨q, h_q⟩ : ∃ q, decide ((i : Int) < (ks.length : Int)) = q := ⟨_, rfl⟩
          change VOk _ _ _ _ _
          refine vseq ?_
          refine vseq ?_
          apply vrp
          · apply VE.cons
            · exact ev_move rfl (gn rfl)
            simp only [nm, seval]
            apply VE.cons
            · first | exact ev_field rfl (gn rfl) rfl Tryd.underlying24 rfl Tryd.sizeOf22 | exact ev_fieldx rfl (gn rfl) rfl Tryd.underlying24 rfl Tryd.sizeOf22
            simp only [nm, seval]
            apply VE.cons
            · first | exact ev_load1 rfl (gn rfl) rfl rfl Tryd.underlying22 rfl rfl | exact ev_loadx1 rfl (gn rfl) rfl Tryd.underlying22 rfl (by assumption)
            simp only [nm, seval]
            apply VE.cons
            · exact ev_len rfl (gn rfl) rfl Tryd.underlying22 (rdg_arg hv)
            simp only [nm, seval]
            apply VE.cons
            · exact ev_lss rfl (gn rfl) rfl rfl h_q
            simp only [nm, seval]
            exact VE.nil _
          · kernel_rfl
          change VOk _ _ _ _ _
          cases q
          · refine vcond_f rfl ?_
            have hge : ks.length ≤ i := by have := of_decide_eq_false h_q; omega
            rw [List.drop_eq_nil_of_le hge, sames] at hidx
            refine vexit ?_
            change VOk _ _ _ _ _
            refine vseq ?_
            apply vrp
            · apply VE.cons
              · exact ev_assign rfl (gn rfl)
              simp only [nm, seval]
              exact VE.nil _
            · kernel_rfl
            change VOk _ _ _ _ _
            refine vret ?_
            refine post_ret (res1 Tryd.results15 (rv_tmp rfl)) ?_
            intro ρ w' hr
            (first | exact ⟨rfl, hr.1⟩ | (refine ⟨?_, hr.1⟩; rw [hidx]; rfl) | (refine ⟨?_, hr.1⟩; rw [hidx, sames_drop hk hk', h_q2]; rfl))
          · refine vcond_t rfl ?_
            have hlt : i < ks.length := by have := of_decide_eq_true h_q; omega
            have hlt' : i < ks'.length := by omega
            obtain ⟨kk, hk⟩ := get_some hlt
            obtain ⟨kk', hk'⟩ := get_some hlt'
            obtain ⟨x, hx, hdn⟩ := RNs_get hn hk
            obtain ⟨x0, x1, x2, rfl⟩ := list3 (RN_len hdn)
            obtain ⟨x', hx', hdn'⟩ := RNs_get hn' hk'
            obtain ⟨y0, y1, y2, rfl⟩ := list3 (RN_len hdn')
            obtain ⟨q2, h_q2⟩ : ∃ q2, sameT kk kk' = q2 := ⟨_, rfl⟩
            refine vskip ?_
            change VOk _ _ _ _ _
            refine vseq ?_
            refine vblock ?_
            refine vseq ?_
            apply vrd (by kernel_rfl)
            · apply VE.cons
              · first | exact ev_field rfl (gn rfl) rfl Tryd.underlying24 rfl Tryd.sizeOf22 | exact ev_fieldx rfl (gn rfl) rfl Tryd.underlying24 rfl Tryd.sizeOf22
              simp only [nm, seval]
              apply VE.cons
              · first | exact ev_load1 rfl (gn rfl) rfl rfl Tryd.underlying22 rfl rfl | exact ev_loadx1 rfl (gn rfl) rfl Tryd.underlying22 rfl (by assumption)
              simp only [nm, seval]
              apply VE.cons
              · exact ev_move rfl (gn rfl)
              simp only [nm, seval]
              apply VE.cons
              · exact ev_idx (k := i) rfl (gn rfl) rfl rfl Tryd.underlying22 Tryd.sizeOf24 (rdg_arg hv) (hlt) (by decide)
              simp only [nm, seval]
              apply VE.cons
              · exact ev_loadp rfl (gn rfl) rfl Tryd.underlying24 rfl Tryd.sizeOf24 (rdg_arg hv) (hx) rfl (by decide)
              simp only [nm, seval]
              apply VE.cons
              · first | exact ev_field rfl (gn rfl) rfl Tryd.underlying24 rfl Tryd.sizeOf22 | exact ev_fieldx rfl (gn rfl) rfl Tryd.underlying24 rfl Tryd.sizeOf22
              simp only [nm, seval]
              apply VE.cons
              · first | exact ev_load1 rfl (gn rfl) rfl rfl Tryd.underlying22 rfl rfl | exact ev_loadx1 rfl (gn rfl) rfl Tryd.underlying22 rfl (by assumption)
              simp only [nm, seval]
              apply VE.cons
              · exact ev_move rfl (gn rfl)
              simp only [nm, seval]
              apply VE.cons
              · exact ev_idx (k := i) rfl (gn rfl) rfl rfl Tryd.underlying22 Tryd.sizeOf24 (rdg_arg hv') (hlt') (by decide)
              simp only [nm, seval]
              apply VE.cons
              · exact ev_loadp rfl (gn rfl) rfl Tryd.underlying24 rfl Tryd.sizeOf24 (rdg_arg hv') (hx') rfl (by decide)
              simp only [nm, seval]
              apply VE.cons
              · exact ev_callb (v := .bool q2) rfl (gn rfl) rfl (en_of Tryd.func15 (by kernel_rfl) rfl) (fun w' hb => h_q2 ▸ hih kk (List.mem_of_getElem? hk) kk' _ _ w' _ _ (oks_get hoks' hk') (RN_bw hb hdn) (RN_bw hb hdn'))
              simp only [nm, seval]
              apply VE.cons
              · exact ev_not rfl (gn rfl) rfl
              simp only [nm, seval]
              exact VE.nil _
            · kernel_rfl
            change VOk _ _ _ _ _
            cases q2
            · refine vcond_t rfl ?_
              refine vseq ?_
              apply vrp
              · apply VE.cons
                · exact ev_assign rfl (gn rfl)
                simp only [nm, seval]
                exact VE.nil _
              · kernel_rfl
              change VOk _ _ _ _ _
              refine vret ?_
              refine post_ret (res1 Tryd.results15 (rv_tmp rfl)) ?_
              intro ρ w' hr
              (first | exact ⟨rfl, hr.1⟩ | (refine ⟨?_, hr.1⟩; rw [hidx]; rfl) | (refine ⟨?_, hr.1⟩; rw [hidx, sames_drop hk hk', h_q2]; rfl))
            · refine vcond_f rfl ?_
              refine vskip ?_
              change VOk _ _ _ _ _
              apply vrp
              · apply VE.cons
                · exact ev_move rfl (gn rfl)
                simp only [nm, seval]
                apply VE.cons
                · exact ev_add (c := ((i + 1 : Nat) : Int)) rfl (gn rfl) rfl rfl (by rw [i64w (by omega) (by omega)]; omega)
                simp only [nm, seval]
                apply VE.cons
                · exact ev_assign rfl (gn rfl)
                simp only [nm, seval]
                exact VE.nil _
              · kernel_rfl
              refine ⟨⟨i + 1, by omega, by rw [hidx, sames_drop hk hk', h_q2, Bool.true_and]⟩, by show ks.length - (i + 1) < ks.length - i; omega, ?_⟩
              exact weaker_forget (fun i => i == 2 || i == 3 || i == 4 || i == 5) []
        · exact weaker_forget (fun i => i == 2 || i == 3 || i == 4 || i == 5) []
      )
  )
mutual
theorem same_all : ∀ t : Tr, t.ok → SameOK t
  | .mk t b ks, h => fun t' xs ys w S S' h' hx hy => by
    cases t' with
    | mk t' b' ks' =>
      simp only [Tr.ok] at h h'
      simp only [RN] at hx hy
      obtain ⟨kv, cs, rfl, h3, h4⟩ := hx
      obtain ⟨kv', cs', rfl, h3', h4'⟩ := hy
      exact same_step w (sames_all ks h.2.2.2) h'.2.2.2 h.1 h'.1 h3 h4 h3' h4' h.2.2.1 h'.2.2.1
theorem sames_all : ∀ ks : List Tr, oks ks → ∀ k ∈ ks, SameOK k
  | [], _ => fun k hk => by cases hk
  | k0 :: ks, h => fun k hk => by
    simp only [oks] at h
    rcases List.mem_cons.1 hk with e | hk
    · exact e ▸ same_all k0 h.1
    · exact sames_all ks h.2 k hk
end
end Go.Proofs.YtmgmiiongleaeaaDoor
