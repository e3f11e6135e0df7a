import Derived.Test.YtdhklekkpkbfeaaDoorSl
namespace Go.Proofs.YtdhklekkpkbfeaaDoor
open Go.RowKit Go.Vx
open Go.Toll (Gw)
open TollSha
set_option maxHeartbeats 4000000
set_option maxRecDepth 100000
theorem padK_get {k : List Nat} {x i : Nat} (h : i < 64) : (padK k x)[i]? = some (k.getD i 0 ^^^ x) := by
  unfold padK
  rw [List.getElem?_map, List.getElem?_range h]; rfl
theorem padK_all {k : List Nat} {x : Nat} : (padK k x).take 64 = padK k x := List.take_of_length_le (by rw [padK_len]; exact Nat.le_refl _)
theorem rOf_ok {key s : List Nat} (w : World) (hkl : key.length ≤ 64) (hk8 : ∀ y ∈ key, y < 256) (hs8 : ∀ y ∈ s, y < 256) (hsl : s.length < 1040000) : Calls Tryd.prog 11 #[.string (bstr key), .string (bstr s)] w fun e w' => e = .returned (.string (bstr (hmac key s))) ∧ Bw w w' := by
  rw [← hmac_eq hkl]
  go_enter Tryd.func11, Tryd.ntmps11
  refine ve_go ?_
  simp only [List.map_cons, List.map_nil]
  refine vseq ?_
  apply vrp
  · apply VE.cons
    · exact ev_assign rfl (gn rfl)
    simp only [nm, seval]
    exact VE.nil _
  · kernel_rfl
  change VOk _ _ _ _ _
  refine vseq ?_
  refine vseq ?_
  apply vrp
  · apply VE.cons
    · exact ev_move rfl (gn rfl)
    simp only [nm, seval]
    apply VE.cons
    · exact ev_lenb rfl (gn rfl) rfl Tryd.underlying9
    simp only [nm, seval]
    apply VE.cons
    · exact ev_gtr (p := false) rfl (gn rfl) rfl rfl (decide_eq_false (by omega))
    simp only [nm, seval]
    exact VE.nil _
  · kernel_rfl
  change VOk _ _ _ _ _
  refine vcond_f rfl ?_
  refine vskip ?_
  change VOk _ _ _ _ _
  refine vseq ?_
  apply vrp
  · apply VE.cons
    · exact ev_assign rfl (gn rfl)
    simp only [nm, seval]
    apply VE.cons
    · exact ev_assign rfl (gn rfl)
    simp only [nm, seval]
    exact VE.nil _
  · kernel_rfl
  change VOk _ _ _ _ _
  refine vseq ?_
  refine vseq ?_
  apply vrp
  · apply VE.cons
    · exact ev_assign rfl (gn rfl)
    simp only [nm, seval]
    exact VE.nil _
  · kernel_rfl
  change VOk _ _ _ _ _
  refine vblock ?_
  refine vloop_w (α := {x : Nat // x ≤ 64}) (fun (x : {x : Nat // x ≤ 64}) f => ⟨[.v (.string (bstr key)), .v (.string (bstr s)), .v (f 2), .v (f 3), .v (f 4), .d 900, .d 901, .v (.int .i64 (x.1 : Nat)), .v (f 8), .v (f 9), .v (f 10), .v (f 11), .v (f 12), .v (f 13), .v (f 14), .v (f 15), .v (f 16), .v (f 17), .v (f 18), .v (f 19), .v (f 20), .v (f 21), .v (f 22), .v (f 23), .v (f 24), .v (f 25), .v (f 26), .v (f 27), .v (f 28), .v (f 29), .v (f 30), .v (f 31), .v (f 32), .v (f 33), .v (f 34), .v (f 35), .v (f 36), .v (f 37), .v (f 38), .v (f 39), .v (f 40), .v (f 41), .v (f 42), .v (f 43)], memOf [(900, .row (x.1) 1 5 (.exact (((padK key 54).take (x.1)).map b8))), (901, .row (x.1) 1 5 (.exact (((padK key 92).take (x.1)).map b8)))]⟩) (fun x => 64 - x.1) ?_ (⟨0, by omega⟩) ?_
  · rintro ⟨i, hi⟩ f
    obtain ⟨q, h_q⟩ : ∃ q, decide (i < 64) = q := ⟨_, rfl⟩
    have h_q' := (nat_lt i 64).trans h_q
    obtain ⟨q2, h_q2⟩ : ∃ q, decide (i < key.length) = q := ⟨_, rfl⟩
    have h_q2' := (nat_lt i key.length).trans h_q2
    have hgl := getD_lt hk8 i
    have hl54 : ((padK key 54).take i).length = i := by rw [List.length_take, padK_len]; omega
    have hl92 : ((padK key 92).take i).length = i := by rw [List.length_take, padK_len]; omega
    change VOk _ _ _ _ _
    refine vseq ?_
    refine vseq ?_
    apply vrp
    · apply VE.cons
      · exact ev_move rfl (gn rfl)
      simp only [nm, seval]
      apply VE.cons
      · exact ev_lss rfl (gn rfl) rfl rfl h_q'
      simp only [nm, seval]
      exact VE.nil _
    · kernel_rfl
    change VOk _ _ _ _ _
    cases q
    · refine vcond_f rfl ?_
      have hie : i = 64 := by have := of_decide_eq_false h_q; omega
      subst hie
      rw [padK_all, padK_all]
      refine vexit ?_
      change VOk _ _ _ _ _
      refine vseq ?_
      apply vrd (by kernel_rfl)
      · apply VE.cons
        · exact ev_move rfl (gn rfl)
        simp only [nm, seval]
        apply VE.cons
        · exact ev_convb (bs := padK key 92) rfl (gn rfl) rfl Tryd.underlying27 Tryd.underlying5 Tryd.underlying9 (rdg_row rfl)
        simp only [nm, seval]
        apply VE.cons
        · exact ev_move rfl (gn rfl)
        simp only [nm, seval]
        apply VE.cons
        · exact ev_convb (bs := padK key 54) rfl (gn rfl) rfl Tryd.underlying27 Tryd.underlying5 Tryd.underlying9 (rdg_row rfl)
        simp only [nm, seval]
        apply VE.cons
        · exact ev_move rfl (gn rfl)
        simp only [nm, seval]
        apply VE.cons
        · exact ev_bin (a := .string (bstr (padK key 54))) (b := .string (bstr (s))) (c := .string (bstr (padK key 54 ++ s))) rfl (gn rfl) rfl rfl (fun w => str_add _ _ (by rw [padK_len]; omega) _ _ w)
        simp only [nm, seval]
        apply VE.cons
        · exact ev_callb (v := .string (bstr (sha (padK key 54 ++ s)))) rfl (gn rfl) rfl (en_of Tryd.func12 (by kernel_rfl) rfl) (fun w' hb => rSum_ok w' (fun x hx => (List.mem_append.1 hx).elim (padK_lt hk8 (by decide) x) (hs8 x)) (by rw [List.length_append, padK_len]; omega))
        simp only [nm, seval]
        apply VE.cons
        · exact ev_bin (a := .string (bstr (padK key 92))) (b := .string (bstr (sha (padK key 54 ++ s)))) (c := .string (bstr (padK key 92 ++ sha (padK key 54 ++ s)))) rfl (gn rfl) rfl rfl (fun w => str_add _ _ (by rw [padK_len, sha_len]; decide) _ _ w)
        simp only [nm, seval]
        apply VE.cons
        · exact ev_callb (v := .string (bstr (sha (padK key 92 ++ sha (padK key 54 ++ s))))) rfl (gn rfl) rfl (en_of Tryd.func12 (by kernel_rfl) rfl) (fun w' hb => rSum_ok w' (fun x hx => (List.mem_append.1 hx).elim (padK_lt hk8 (by decide) x) (sha_lt _ x)) (by rw [List.length_append, padK_len, sha_len]; decide))
        simp only [nm, seval]
        apply VE.cons
        · exact ev_assign rfl (gn rfl)
        simp only [nm, seval]
        exact VE.nil _
      · kernel_rfl
      change VOk _ _ _ _ _
      refine vret ?_
      refine post_ret (res1 Tryd.results11 (rv_tmp rfl)) ?_
      intro ρ w' hr
      exact ⟨rfl, hr.1⟩
    · refine vcond_t rfl ?_
      have hlt : i < 64 := of_decide_eq_true h_q
      refine vskip ?_
      change VOk _ _ _ _ _
      refine vseq ?_
      refine vblock ?_
      refine vseq ?_
      apply vrp
      · apply VE.cons
        · exact ev_assign rfl (gn rfl)
        simp only [nm, seval]
        exact VE.nil _
      · kernel_rfl
      change VOk _ _ _ _ _
      refine vseq ?_
      refine vseq ?_
      apply vrp
      · apply VE.cons
        · exact ev_move rfl (gn rfl)
        simp only [nm, seval]
        apply VE.cons
        · exact ev_move rfl (gn rfl)
        simp only [nm, seval]
        apply VE.cons
        · exact ev_lenb rfl (gn rfl) rfl Tryd.underlying9
        simp only [nm, seval]
        apply VE.cons
        · exact ev_lss rfl (gn rfl) rfl rfl h_q2'
        simp only [nm, seval]
        exact VE.nil _
      · kernel_rfl
      change VOk _ _ _ _ _
      cases q2
      · refine vcond_f rfl ?_
        have hge : key.getD i 0 = 0 := by have := of_decide_eq_false h_q2; simp [List.getD, List.getElem?_eq_none (show key.length ≤ i by omega)]
        rw [show (Value.int IntKind.u8 0) = b8 (key.getD i 0) by rw [hge]; rfl]
        refine vskip ?_
        change VOk _ _ _ _ _
        apply vrp
        · apply VE.cons
          · exact ev_move rfl (gn rfl)
          simp only [nm, seval]
          apply VE.cons
          · exact ev_move rfl (gn rfl)
          simp only [nm, seval]
          apply VE.cons
          · exact ev_bin rfl (gn rfl) rfl rfl (fun w => xor8 hgl (by decide) _ _ w)
          simp only [nm, seval]
          apply VE.cons
          · exact ev_buildslice rfl rfl (gn rfl) rfl (e := 5) (l := [b8 (key.getD i 0 ^^^ 54)]) rfl (by decide) (fun _ => by kernel_rfl)
          simp only [nm, seval]
          apply VE.cons
          · exact ev_append rfl rfl (gn rfl) rfl rfl rfl (rdg_row rfl) Tryd.underlying27 el5 (by decide) (by rw [List.length_map, hl54, Nat.mul_one]) rfl (by simp only [maxLen]; omega) (by omega) (by simp)
          simp only [nm, seval]
          apply VE.cons
          · exact ev_move rfl (gn rfl)
          simp only [nm, seval]
          apply VE.cons
          · exact ev_move rfl (gn rfl)
          simp only [nm, seval]
          apply VE.cons
          · exact ev_bin rfl (gn rfl) rfl rfl (fun w => xor8 hgl (by decide) _ _ w)
          simp only [nm, seval]
          apply VE.cons
          · exact ev_buildslice rfl rfl (gn rfl) rfl (e := 5) (l := [b8 (key.getD i 0 ^^^ 92)]) rfl (by decide) (fun _ => by kernel_rfl)
          simp only [nm, seval]
          apply VE.cons
          · exact ev_append rfl rfl (gn rfl) rfl rfl rfl (rdg_row rfl) Tryd.underlying27 el5 (by decide) (by rw [List.length_map, hl92, Nat.mul_one]) rfl (by simp only [maxLen]; omega) (by omega) (by simp)
          simp only [nm, seval]
          apply VE.cons
          · exact ev_assign rfl (gn rfl)
          simp only [nm, seval]
          apply VE.cons
          · exact ev_assign rfl (gn rfl)
          simp only [nm, seval]
          exact VE.nil _
        · kernel_rfl
        change VOk _ _ _ _ _
        apply vrp
        · apply VE.cons
          · exact ev_move rfl (gn rfl)
          simp only [nm, seval]
          apply VE.cons
          · exact ev_add (c := ((i + 1 : Nat) : Int)) rfl (gn rfl) rfl rfl (by rw [i64w (by omega) (by omega)]; omega)
          simp only [nm, seval]
          apply VE.cons
          · exact ev_assign rfl (gn rfl)
          simp only [nm, seval]
          exact VE.nil _
        · kernel_rfl
        refine ⟨⟨i + 1, by omega⟩, by show 64 - (i + 1) < 64 - i; omega, ?_⟩
        have e1 := take_get (padK_get (k := key) (x := 54) hlt)
        have e2 := take_get (padK_get (k := key) (x := 92) hlt)
        show Weaker w _ (fun f => ⟨[.v (.string (bstr key)), .v (.string (bstr s)), .v (f 2), .v (f 3), .v (f 4), .d 900, .d 901, .v (.int .i64 ((i + 1 : Nat) : Nat)), .v (f 8), .v (f 9), .v (f 10), .v (f 11), .v (f 12), .v (f 13), .v (f 14), .v (f 15), .v (f 16), .v (f 17), .v (f 18), .v (f 19), .v (f 20), .v (f 21), .v (f 22), .v (f 23), .v (f 24), .v (f 25), .v (f 26), .v (f 27), .v (f 28), .v (f 29), .v (f 30), .v (f 31), .v (f 32), .v (f 33), .v (f 34), .v (f 35), .v (f 36), .v (f 37), .v (f 38), .v (f 39), .v (f 40), .v (f 41), .v (f 42), .v (f 43)], memOf [(900, .row (i + 1) 1 5 (.exact (((padK key 54).take (i + 1)).map b8))), (901, .row (i + 1) 1 5 (.exact (((padK key 92).take (i + 1)).map b8)))]⟩)
        rw [e1, e2, List.map_append, List.map_append]
        exact (weaker_forget (fun i => i == 0 || i == 1 || i == 5 || i == 6 || i == 7) [28, 33]).trans2 (fun f => (weaker_swap (a := (34, _)) (b := (29, _)) (show (34 : Nat) ≠ 29 by decide)).trans2 (fun _ => (weaker_ren 29 900 (by decide) rfl).trans2 (fun _ => weaker_ren 34 901 (by decide) rfl)))
      · refine vcond_t rfl ?_
        apply vrp
        · apply VE.cons
          · exact ev_move rfl (gn rfl)
          simp only [nm, seval]
          apply VE.cons
          · exact ev_move rfl (gn rfl)
          simp only [nm, seval]
          apply VE.cons
          · exact ev_idxb (c := key.getD i 0) rfl (gn rfl) rfl rfl Tryd.underlying9 (by simp [List.getD, of_decide_eq_true h_q2]) hgl
          simp only [nm, seval]
          apply VE.cons
          · exact ev_assign rfl (gn rfl)
          simp only [nm, seval]
          exact VE.nil _
        · kernel_rfl
        change VOk _ _ _ _ _
        apply vrp
        · apply VE.cons
          · exact ev_move rfl (gn rfl)
          simp only [nm, seval]
          apply VE.cons
          · exact ev_move rfl (gn rfl)
          simp only [nm, seval]
          apply VE.cons
          · exact ev_bin rfl (gn rfl) rfl rfl (fun w => xor8 hgl (by decide) _ _ w)
          simp only [nm, seval]
          apply VE.cons
          · exact ev_buildslice rfl rfl (gn rfl) rfl (e := 5) (l := [b8 (key.getD i 0 ^^^ 54)]) rfl (by decide) (fun _ => by kernel_rfl)
          simp only [nm, seval]
          apply VE.cons
          · exact ev_append rfl rfl (gn rfl) rfl rfl rfl (rdg_row rfl) Tryd.underlying27 el5 (by decide) (by rw [List.length_map, hl54, Nat.mul_one]) rfl (by simp only [maxLen]; omega) (by omega) (by simp)
          simp only [nm, seval]
          apply VE.cons
          · exact ev_move rfl (gn rfl)
          simp only [nm, seval]
          apply VE.cons
          · exact ev_move rfl (gn rfl)
          simp only [nm, seval]
          apply VE.cons
          · exact ev_bin rfl (gn rfl) rfl rfl (fun w => xor8 hgl (by decide) _ _ w)
          simp only [nm, seval]
          apply VE.cons
          · exact ev_buildslice rfl rfl (gn rfl) rfl (e := 5) (l := [b8 (key.getD i 0 ^^^ 92)]) rfl (by decide) (fun _ => by kernel_rfl)
          simp only [nm, seval]
          apply VE.cons
          · exact ev_append rfl rfl (gn rfl) rfl rfl rfl (rdg_row rfl) Tryd.underlying27 el5 (by decide) (by rw [List.length_map, hl92, Nat.mul_one]) rfl (by simp only [maxLen]; omega) (by omega) (by simp)
          simp only [nm, seval]
          apply VE.cons
          · exact ev_assign rfl (gn rfl)
          simp only [nm, seval]
          apply VE.cons
          · exact ev_assign rfl (gn rfl)
          simp only [nm, seval]
          exact VE.nil _
        · kernel_rfl
        change VOk _ _ _ _ _
        apply vrp
        · apply VE.cons
          · exact ev_move rfl (gn rfl)
          simp only [nm, seval]
          apply VE.cons
          · exact ev_add (c := ((i + 1 : Nat) : Int)) rfl (gn rfl) rfl rfl (by rw [i64w (by omega) (by omega)]; omega)
          simp only [nm, seval]
          apply VE.cons
          · exact ev_assign rfl (gn rfl)
          simp only [nm, seval]
          exact VE.nil _
        · kernel_rfl
        refine ⟨⟨i + 1, by omega⟩, by show 64 - (i + 1) < 64 - i; omega, ?_⟩
        have e1 := take_get (padK_get (k := key) (x := 54) hlt)
        have e2 := take_get (padK_get (k := key) (x := 92) hlt)
        show Weaker w _ (fun f => ⟨[.v (.string (bstr key)), .v (.string (bstr s)), .v (f 2), .v (f 3), .v (f 4), .d 900, .d 901, .v (.int .i64 ((i + 1 : Nat) : Nat)), .v (f 8), .v (f 9), .v (f 10), .v (f 11), .v (f 12), .v (f 13), .v (f 14), .v (f 15), .v (f 16), .v (f 17), .v (f 18), .v (f 19), .v (f 20), .v (f 21), .v (f 22), .v (f 23), .v (f 24), .v (f 25), .v (f 26), .v (f 27), .v (f 28), .v (f 29), .v (f 30), .v (f 31), .v (f 32), .v (f 33), .v (f 34), .v (f 35), .v (f 36), .v (f 37), .v (f 38), .v (f 39), .v (f 40), .v (f 41), .v (f 42), .v (f 43)], memOf [(900, .row (i + 1) 1 5 (.exact (((padK key 54).take (i + 1)).map b8))), (901, .row (i + 1) 1 5 (.exact (((padK key 92).take (i + 1)).map b8)))]⟩)
        rw [e1, e2, List.map_append, List.map_append]
        exact (weaker_forget (fun i => i == 0 || i == 1 || i == 5 || i == 6 || i == 7) [28, 33]).trans2 (fun f => (weaker_swap (a := (34, _)) (b := (29, _)) (show (34 : Nat) ≠ 29 by decide)).trans2 (fun _ => (weaker_ren 29 900 (by decide) rfl).trans2 (fun _ => weaker_ren 34 901 (by decide) rfl)))
  · refine (weaker_forget (fun i => i == 0 || i == 1 || i == 5 || i == 6 || i == 7) []).trans2 (fun f => (weaker_name 901 1 5 (.exact []) (fun w => rfl) (fr' := [.v (.string (bstr key)), .v (.string (bstr s)), .v (f 2), .v (f 3), .v (f 4), .v (.slice none 0 0), .d 901, .v (.int .i64 0), .v (f 8), .v (f 9), .v (f 10), .v (f 11), .v (f 12), .v (f 13), .v (f 14), .v (f 15), .v (f 16), .v (f 17), .v (f 18), .v (f 19), .v (f 20), .v (f 21), .v (f 22), .v (f 23), .v (f 24), .v (f 25), .v (f 26), .v (f 27), .v (f 28), .v (f 29), .v (f 30), .v (f 31), .v (f 32), .v (f 33), .v (f 34), .v (f 35), .v (f 36), .v (f 37), .v (f 38), .v (f 39), .v (f 40), .v (f 41), .v (f 42), .v (f 43)]) (m' := []) rfl rfl (fun ρ hv => ?_) (fun ρ hv => ?_)).trans2 (fun f2 => weaker_name 900 1 5 (.exact []) (fun w => rfl) (m' := [(901, .row 0 1 5 (.exact []))]) rfl rfl (fun ρ hv => ?_) (fun ρ hv => ?_)))
    · simp [forgetFr, SV.cs, SV.c, hv, nilV]
    · simp [memSim, memDel]
    · simp [SV.cs, SV.c, hv, nilV]
    · simp [memSim, Blk.sim]
theorem bstr_cut (a : List Nat) {n : Nat} (_h : n ≤ a.length) : (bstr a).extract 0 n = bstr (a.take n) := by
  apply ByteArray.ext
  rw [ByteArray.data_extract]
  apply Array.ext'
  simp [bstr, List.map_take]
theorem rExpand_ok {key info : List Nat} {n : Nat} (w : World) (hkl : key.length ≤ 64) (hk8 : ∀ y ∈ key, y < 256) (hi8 : ∀ y ∈ info, y < 256) (hil : info.length < 1000000) (hn : n ≤ 8160) : Calls Tryd.prog 17 #[.string (bstr key), .string (bstr info), .int .i64 (n : Nat)] w fun e w' => e = .returned (.tuple #[.string (bstr (expand key info n)), .int .i64 0]) ∧ Bw w w' := by
  go_enter Tryd.func17, Tryd.ntmps17
  refine ve_go ?_
  simp only [List.map_cons, List.map_nil]
  refine vseq ?_
  apply vrp
  · apply VE.cons
    · exact ev_assign rfl (gn rfl)
    simp only [nm, seval]
    apply VE.cons
    · exact ev_assign rfl (gn rfl)
    simp only [nm, seval]
    exact VE.nil _
  · kernel_rfl
  change VOk _ _ _ _ _
  refine vseq ?_
  refine vseq ?_
  apply vrp
  · apply VE.cons
    · exact ev_move rfl (gn rfl)
    simp only [nm, seval]
    apply VE.cons
    · exact ev_lss (p := false) rfl (gn rfl) rfl rfl (decide_eq_false (by omega))
    simp only [nm, seval]
    apply VE.cons
    · exact ev_move rfl (gn rfl)
    simp only [nm, seval]
    apply VE.cons
    · first | exact Ev.skip (fun _ => rfl) | exact ev_move rfl (fun _ => rfl)
    simp only [nm, seval]
    apply VE.cons
    · first | exact Ev.skip (fun _ => rfl) | exact ev_gtr (p := false) rfl (fun _ => rfl) rfl rfl (decide_eq_false (by omega))
    simp only [nm, seval]
    apply VE.cons
    · first | exact ev_pick_t rfl (gn rfl) rfl rfl | exact ev_pick_f rfl (gn rfl) rfl rfl
    simp only [nm, seval]
    exact VE.nil _
  · kernel_rfl
  change VOk _ _ _ _ _
  refine vcond_f rfl ?_
  refine vskip ?_
  change VOk _ _ _ _ _
  refine vseq ?_
  apply vrp
  · apply VE.cons
    · exact ev_assign rfl (gn rfl)
    simp only [nm, seval]
    apply VE.cons
    · exact ev_assign rfl (gn rfl)
    simp only [nm, seval]
    exact VE.nil _
  · kernel_rfl
  change VOk _ _ _ _ _
  refine vseq ?_
  refine vseq ?_
  apply vrp
  · apply VE.cons
    · exact ev_assign rfl (gn rfl)
    simp only [nm, seval]
    exact VE.nil _
  · kernel_rfl
  change VOk _ _ _ _ _
  refine vblock ?_
  refine vloop_w (α := {x : Nat // 32 * x < n + 32}) (fun (x : {x : Nat // 32 * x < n + 32}) f => ⟨[.v (.string (bstr key)), .v (.string (bstr info)), .v (.int .i64 (n : Nat)), .v (f 3), .v (f 4), .v (f 5), .v (f 6), .v (f 7), .v (.string (bstr (expN key info x.1).1)), .v (.string (bstr (expN key info x.1).2)), .v (.int .i64 ((x.1 + 1 : Nat) : Nat)), .v (f 11), .v (f 12), .v (f 13), .v (f 14), .v (f 15), .v (f 16), .v (f 17), .v (f 18), .v (f 19), .v (f 20), .v (f 21), .v (f 22), .v (f 23), .v (f 24), .v (f 25), .v (f 26), .v (f 27), .v (f 28), .v (f 29), .v (f 30), .v (f 31), .v (f 32), .v (f 33), .v (f 34), .v (f 35), .v (f 36), .v (f 37), .v (f 38)], memOf []⟩) (fun x => n + 32 - 32 * x.1) ?_ (⟨0, by omega⟩) ?_
  · rintro ⟨i, hi⟩ f
    obtain ⟨q, h_q⟩ : ∃ q, decide (32 * i < n) = q := ⟨_, rfl⟩
    obtain ⟨hAl, hTl, hA8, hT8⟩ := expN_len key info i
    have hnx : expN key info (i + 1) = ((expN key info i).1 ++ hmac key ((expN key info i).2 ++ info ++ [(i + 1) % 256]), hmac key ((expN key info i).2 ++ info ++ [(i + 1) % 256])) := rfl
    obtain ⟨A, hA⟩ : ∃ A, (expN key info i).1 = A := ⟨_, rfl⟩
    obtain ⟨T, hT⟩ : ∃ T, (expN key info i).2 = T := ⟨_, rfl⟩
    rw [hA] at hAl hA8
    rw [hT] at hTl hT8
    rw [hA, hT] at hnx
    rw [hA, hT]
    have h_q' : decide ((A.length : Int) < (n : Int)) = q := by rw [hAl]; exact (nat_lt (32 * i) n).trans h_q
    change VOk _ _ _ _ _
    refine vseq ?_
    refine vseq ?_
    apply vrp
    · apply VE.cons
      · exact ev_move rfl (gn rfl)
      simp only [nm, seval]
      apply VE.cons
      · exact ev_lenb rfl (gn rfl) rfl Tryd.underlying9
      simp only [nm, seval]
      apply VE.cons
      · exact ev_move rfl (gn rfl)
      simp only [nm, seval]
      apply VE.cons
      · exact ev_lss rfl (gn rfl) rfl rfl h_q'
      simp only [nm, seval]
      exact VE.nil _
    · kernel_rfl
    change VOk _ _ _ _ _
    cases q
    · refine vcond_f rfl ?_
      have hge : n ≤ 32 * i := by have := of_decide_eq_false h_q; omega
      refine vexit ?_
      change VOk _ _ _ _ _
      refine vseq ?_
      apply vrp
      · apply VE.cons
        · exact ev_move rfl (gn rfl)
        simp only [nm, seval]
        apply VE.cons
        · exact ev_move rfl (gn rfl)
        simp only [nm, seval]
        apply VE.cons
        · exact ev_cutstr (b := bstr A) (k := n) rfl (gn rfl) rfl rfl Tryd.underlying9 (by rw [bstr_size]; omega)
        simp only [nm, seval]
        apply VE.cons
        · exact ev_assign rfl (gn rfl)
        simp only [nm, seval]
        apply VE.cons
        · exact ev_assign rfl (gn rfl)
        simp only [nm, seval]
        exact VE.nil _
      · kernel_rfl
      change VOk _ _ _ _ _
      refine vret ?_
      refine post_ret (res2 Tryd.results17 (rv_tmp rfl) (rv_tmp rfl)) ?_
      intro ρ w' hr
      refine ⟨?_, hr.1⟩
      have hie : (n + 31) / 32 = i := by omega
      unfold expand
      rw [hie, hA, ← bstr_cut A (by omega)]
      rfl
    · refine vcond_t rfl ?_
      have hlt : 32 * i < n := of_decide_eq_true h_q
      refine vskip ?_
      change VOk _ _ _ _ _
      refine vseq ?_
      refine vblock ?_
      refine vseq ?_
      apply vrp
      · apply VE.cons
        · exact ev_move rfl (gn rfl)
        simp only [nm, seval]
        apply VE.cons
        · exact ev_move rfl (gn rfl)
        simp only [nm, seval]
        apply VE.cons
        · exact ev_move rfl (gn rfl)
        simp only [nm, seval]
        apply VE.cons
        · exact ev_bin (a := .string (bstr (T))) (b := .string (bstr (info))) (c := .string (bstr (T ++ info))) rfl (gn rfl) rfl rfl (fun w => str_add _ _ (by omega) _ _ w)
        simp only [nm, seval]
        apply VE.cons
        · exact ev_move rfl (gn rfl)
        simp only [nm, seval]
        apply VE.cons
        · exact ev_conv rfl (gn rfl) rfl (fun w => cv35 _ w)
        simp only [nm, seval]
        apply VE.cons
        · exact ev_buildslice rfl rfl (gn rfl) rfl (e := 5) (l := [b8 ((i + 1) % 256)]) rfl (by decide) (fun _ => by kernel_rfl)
        simp only [nm, seval]
        apply VE.cons
        · exact ev_convb (bs := [(i + 1) % 256]) rfl (gn rfl) rfl Tryd.underlying27 Tryd.underlying5 Tryd.underlying9 (rdg_row rfl)
        simp only [nm, seval]
        apply VE.cons
        · exact ev_bin (a := .string (bstr (T ++ info))) (b := .string (bstr ([(i + 1) % 256]))) (c := .string (bstr (T ++ info ++ [(i + 1) % 256]))) rfl (gn rfl) rfl rfl (fun w => str_add _ _ (by simp; omega) _ _ w)
        simp only [nm, seval]
        apply VE.cons
        · exact ev_callb (v := .string (bstr (hmac key (T ++ info ++ [(i + 1) % 256])))) rfl (gn rfl) rfl (en_of Tryd.func11 (by kernel_rfl) rfl) (fun w' hb => rOf_ok w' hkl hk8 (fun x hx => by rcases List.mem_append.1 hx with hx | hx; exact (List.mem_append.1 hx).elim (hT8 x) (hi8 x); simp at hx; omega) (by simp; omega))
        simp only [nm, seval]
        apply VE.cons
        · exact ev_assign rfl (gn rfl)
        simp only [nm, seval]
        exact VE.nil _
      · kernel_rfl
      change VOk _ _ _ _ _
      apply vrp
      · apply VE.cons
        · exact ev_move rfl (gn rfl)
        simp only [nm, seval]
        apply VE.cons
        · exact ev_move rfl (gn rfl)
        simp only [nm, seval]
        apply VE.cons
        · exact ev_bin (a := .string (bstr (A))) (b := .string (bstr (hmac key (T ++ info ++ [(i + 1) % 256])))) (c := .string (bstr (A ++ hmac key (T ++ info ++ [(i + 1) % 256])))) rfl (gn rfl) rfl rfl (fun w => str_add _ _ (by rw [hmac_len]; omega) _ _ w)
        simp only [nm, seval]
        apply VE.cons
        · exact ev_assign rfl (gn rfl)
        simp only [nm, seval]
        exact VE.nil _
      · kernel_rfl
      change VOk _ _ _ _ _
      apply vrp
      · apply VE.cons
        · exact ev_move rfl (gn rfl)
        simp only [nm, seval]
        apply VE.cons
        · exact ev_add (c := ((i + 1 + 1 : Nat) : Int)) rfl (gn rfl) rfl rfl (by rw [i64w (by omega) (by omega)]; omega)
        simp only [nm, seval]
        apply VE.cons
        · exact ev_assign rfl (gn rfl)
        simp only [nm, seval]
        exact VE.nil _
      · kernel_rfl
      refine ⟨⟨i + 1, by omega⟩, by show n + 32 - 32 * (i + 1) < n + 32 - 32 * i; omega, ?_⟩
      show Weaker w _ (fun f => ⟨[.v (.string (bstr key)), .v (.string (bstr info)), .v (.int .i64 (n : Nat)), .v (f 3), .v (f 4), .v (f 5), .v (f 6), .v (f 7), .v (.string (bstr (expN key info (i + 1)).1)), .v (.string (bstr (expN key info (i + 1)).2)), .v (.int .i64 ((i + 1 + 1 : Nat) : Nat)), .v (f 11), .v (f 12), .v (f 13), .v (f 14), .v (f 15), .v (f 16), .v (f 17), .v (f 18), .v (f 19), .v (f 20), .v (f 21), .v (f 22), .v (f 23), .v (f 24), .v (f 25), .v (f 26), .v (f 27), .v (f 28), .v (f 29), .v (f 30), .v (f 31), .v (f 32), .v (f 33), .v (f 34), .v (f 35), .v (f 36), .v (f 37), .v (f 38)], memOf []⟩)
      rw [hnx]
      exact weaker_forget (fun i => i == 0 || i == 1 || i == 2 || i == 8 || i == 9 || i == 10) [29]
  · exact weaker_forget (fun i => i == 0 || i == 1 || i == 2 || i == 8 || i == 9 || i == 10) []
theorem rLabel_ok {key lab ctx : List Nat} {n : Nat} (w : World) (hkl : key.length ≤ 64) (hk8 : ∀ y ∈ key, y < 256) (hc8 : ∀ y ∈ ctx, y < 256) (hcl : ctx.length ≤ 255) (hl8 : ∀ y ∈ lab, y < 256) (hll : lab.length ≤ 249) (hn : n ≤ 8160) : Calls Tryd.prog 10 #[.string (bstr key), .string (bstr lab), .string (bstr ctx), .int .i64 (n : Nat)] w fun e w' => e = .returned (.tuple #[.string (bstr (expand key (hkinfo lab ctx n) n)), .int .i64 0]) ∧ Bw w w' := by
  obtain ⟨X, hX⟩ : ∃ X, [116, 108, 115, 49, 51, 32] ++ lab = X := ⟨_, rfl⟩
  have hXl : X.length = 6 + lab.length := by rw [← hX, List.length_append]; rfl
  have hkX : hkinfo lab ctx n = [n / 256 % 256, n % 256, X.length % 256] ++ X ++ [ctx.length % 256] ++ ctx := by unfold hkinfo; rw [hX]
  have hkL : (hkinfo lab ctx n).length = 3 + X.length + 1 + ctx.length := by rw [hkX]; simp; omega
  go_enter Tryd.func10, Tryd.ntmps10
  refine ve_go ?_
  simp only [List.map_cons, List.map_nil]
  refine vseq ?_
  apply vrp
  · apply VE.cons
    · exact ev_assign rfl (gn rfl)
    simp only [nm, seval]
    apply VE.cons
    · exact ev_assign rfl (gn rfl)
    simp only [nm, seval]
    exact VE.nil _
  · kernel_rfl
  change VOk _ _ _ _ _
  refine vseq ?_
  apply vrp
  · apply VE.cons
    · exact ev_move rfl (gn rfl)
    simp only [nm, seval]
    apply VE.cons
    · exact ev_bin (a := .string (bstr [116, 108, 115, 49, 51, 32])) (b := .string (bstr lab)) (c := .string (bstr X)) rfl (gn rfl) rfl rfl (fun w => by rw [← hX]; exact str_add _ _ (by simp; omega) _ _ w)
    simp only [nm, seval]
    apply VE.cons
    · exact ev_assign rfl (gn rfl)
    simp only [nm, seval]
    exact VE.nil _
  · kernel_rfl
  change VOk _ _ _ _ _
  refine vseq ?_
  refine vseq ?_
  apply vrp
  · apply VE.cons
    · exact ev_move rfl (gn rfl)
    simp only [nm, seval]
    apply VE.cons
    · exact ev_lss (p := false) rfl (gn rfl) rfl rfl (decide_eq_false (by omega))
    simp only [nm, seval]
    apply VE.cons
    · exact ev_move rfl (gn rfl)
    simp only [nm, seval]
    apply VE.cons
    · first | exact Ev.skip (fun _ => rfl) | exact ev_move rfl (fun _ => rfl)
    simp only [nm, seval]
    apply VE.cons
    · first | exact Ev.skip (fun _ => rfl) | exact ev_gtr (p := false) rfl (fun _ => rfl) rfl rfl (decide_eq_false (by omega))
    simp only [nm, seval]
    apply VE.cons
    · first | exact ev_pick_t rfl (gn rfl) rfl rfl | exact ev_pick_f rfl (gn rfl) rfl rfl
    simp only [nm, seval]
    apply VE.cons
    · exact ev_move rfl (gn rfl)
    simp only [nm, seval]
    apply VE.cons
    · first | exact Ev.skip (fun _ => rfl) | exact ev_move rfl (fun _ => rfl)
    simp only [nm, seval]
    apply VE.cons
    · first | exact Ev.skip (fun _ => rfl) | exact ev_lenb rfl (fun _ => rfl) rfl Tryd.underlying9
    simp only [nm, seval]
    apply VE.cons
    · first | exact Ev.skip (fun _ => rfl) | exact ev_gtr (p := false) rfl (fun _ => rfl) rfl rfl (decide_eq_false (by omega))
    simp only [nm, seval]
    apply VE.cons
    · first | exact ev_pick_t rfl (gn rfl) rfl rfl | exact ev_pick_f rfl (gn rfl) rfl rfl
    simp only [nm, seval]
    apply VE.cons
    · exact ev_move rfl (gn rfl)
    simp only [nm, seval]
    apply VE.cons
    · first | exact Ev.skip (fun _ => rfl) | exact ev_move rfl (fun _ => rfl)
    simp only [nm, seval]
    apply VE.cons
    · first | exact Ev.skip (fun _ => rfl) | exact ev_lenb rfl (fun _ => rfl) rfl Tryd.underlying9
    simp only [nm, seval]
    apply VE.cons
    · first | exact Ev.skip (fun _ => rfl) | exact ev_gtr (p := false) rfl (fun _ => rfl) rfl rfl (decide_eq_false (by omega))
    simp only [nm, seval]
    apply VE.cons
    · first | exact ev_pick_t rfl (gn rfl) rfl rfl | exact ev_pick_f rfl (gn rfl) rfl rfl
    simp only [nm, seval]
    exact VE.nil _
  · kernel_rfl
  change VOk _ _ _ _ _
  refine vcond_f rfl ?_
  refine vskip ?_
  change VOk _ _ _ _ _
  refine vseq ?_
  apply vrp
  · apply VE.cons
    · exact ev_move rfl (gn rfl)
    simp only [nm, seval]
    apply VE.cons
    · exact ev_move rfl (gn rfl)
    simp only [nm, seval]
    apply VE.cons
    · exact ev_bin rfl (gn rfl) rfl rfl (fun w => shr8 hn _ _ w)
    simp only [nm, seval]
    apply VE.cons
    · exact ev_conv rfl (gn rfl) rfl (fun w => cv35 _ w)
    simp only [nm, seval]
    apply VE.cons
    · exact ev_move rfl (gn rfl)
    simp only [nm, seval]
    apply VE.cons
    · exact ev_conv rfl (gn rfl) rfl (fun w => cv35 _ w)
    simp only [nm, seval]
    apply VE.cons
    · exact ev_move rfl (gn rfl)
    simp only [nm, seval]
    apply VE.cons
    · exact ev_lenb rfl (gn rfl) rfl Tryd.underlying9
    simp only [nm, seval]
    apply VE.cons
    · exact ev_conv rfl (gn rfl) rfl (fun w => cv35 _ w)
    simp only [nm, seval]
    apply VE.cons
    · exact ev_buildslice rfl rfl (gn rfl) rfl (e := 5) (l := [b8 (n / 256 % 256), b8 (n % 256), b8 (X.length % 256)]) rfl (by decide) (fun _ => by kernel_rfl)
    simp only [nm, seval]
    apply VE.cons
    · exact ev_convb (bs := [n / 256 % 256, n % 256, X.length % 256]) rfl (gn rfl) rfl Tryd.underlying27 Tryd.underlying5 Tryd.underlying9 (rdg_row rfl)
    simp only [nm, seval]
    apply VE.cons
    · exact ev_move rfl (gn rfl)
    simp only [nm, seval]
    apply VE.cons
    · exact ev_bin (a := .string (bstr ([n / 256 % 256, n % 256, X.length % 256]))) (b := .string (bstr (X))) (c := .string (bstr ([n / 256 % 256, n % 256, X.length % 256] ++ X))) rfl (gn rfl) rfl rfl (fun w => str_add _ _ (by simp; omega) _ _ w)
    simp only [nm, seval]
    apply VE.cons
    · exact ev_move rfl (gn rfl)
    simp only [nm, seval]
    apply VE.cons
    · exact ev_lenb rfl (gn rfl) rfl Tryd.underlying9
    simp only [nm, seval]
    apply VE.cons
    · exact ev_conv rfl (gn rfl) rfl (fun w => cv35 _ w)
    simp only [nm, seval]
    apply VE.cons
    · exact ev_buildslice rfl rfl (gn rfl) rfl (e := 5) (l := [b8 (ctx.length % 256)]) rfl (by decide) (fun _ => by kernel_rfl)
    simp only [nm, seval]
    apply VE.cons
    · exact ev_convb (bs := [ctx.length % 256]) rfl (gn rfl) rfl Tryd.underlying27 Tryd.underlying5 Tryd.underlying9 (rdg_row rfl)
    simp only [nm, seval]
    apply VE.cons
    · exact ev_bin (a := .string (bstr ([n / 256 % 256, n % 256, X.length % 256] ++ X))) (b := .string (bstr ([ctx.length % 256]))) (c := .string (bstr ([n / 256 % 256, n % 256, X.length % 256] ++ X ++ [ctx.length % 256]))) rfl (gn rfl) rfl rfl (fun w => str_add _ _ (by simp; omega) _ _ w)
    simp only [nm, seval]
    apply VE.cons
    · exact ev_move rfl (gn rfl)
    simp only [nm, seval]
    apply VE.cons
    · exact ev_bin (a := .string (bstr ([n / 256 % 256, n % 256, X.length % 256] ++ X ++ [ctx.length % 256]))) (b := .string (bstr (ctx))) (c := .string (bstr ([n / 256 % 256, n % 256, X.length % 256] ++ X ++ [ctx.length % 256] ++ ctx))) rfl (gn rfl) rfl rfl (fun w => str_add _ _ (by simp; omega) _ _ w)
    simp only [nm, seval]
    apply VE.cons
    · exact ev_move rfl (gn rfl)
    simp only [nm, seval]
    apply VE.cons
    · exact ev_callb (v := .tuple #[.string (bstr (expand key (hkinfo lab ctx n) n)), .int .i64 0]) rfl (gn rfl) rfl (en_of Tryd.func17 (by kernel_rfl) rfl) (fun w' hb => by rw [← hkX]; exact rExpand_ok w' hkl hk8 (hkinfo_lt hl8 hc8) (by rw [hkL]; omega) hn)
    simp only [nm, seval]
    apply VE.cons
    · first | exact ev_extract rfl (gn rfl) rfl rfl | exact ev_extractt rfl (gn rfl) rfl rfl
    simp only [nm, seval]
    apply VE.cons
    · first | exact ev_extract rfl (gn rfl) rfl rfl | exact ev_extractt rfl (gn rfl) rfl rfl
    simp only [nm, seval]
    apply VE.cons
    · exact ev_assign rfl (gn rfl)
    simp only [nm, seval]
    apply VE.cons
    · exact ev_assign rfl (gn rfl)
    simp only [nm, seval]
    exact VE.nil _
  · kernel_rfl
  change VOk _ _ _ _ _
  refine vret ?_
  refine post_ret (res2 Tryd.results10 (rv_tmp rfl) (rv_tmp rfl)) ?_
  intro ρ w' hr
  exact ⟨rfl, hr.1⟩
end Go.Proofs.YtdhklekkpkbfeaaDoor
