import Derived.Test.YtdhklekkpkbfeaaDoorSj
namespace Go.Proofs.YtdhklekkpkbfeaaDoor
open Go.RowKit Go.Vx
open Go.Toll (Gw)
open TollSha
set_option maxHeartbeats 4000000
set_option maxRecDepth 100000
/-- an own array and the slice of it are a row. -/
theorem weaker_arrow {w0 : World} (a n : Nat) {fr fr' : List SV} {l : List Value} {ty : TypeId} {m : List (Nat × Blk)} (hn : l.length = n) (hml : n ≤ maxLen) (hm : m.all (fun x => x.1 != a && !x.2.has a) = true)
    (hfr : ∀ ρ ρ' : Nat → Nm, (∀ k, (ρ' k).g = (ρ k).g) → (∀ k, k ≠ a → ρ' k = ρ k) → (ρ' a).val = .slice (some ⟨(ρ a).g, 0, none⟩) n n → SV.cs ρ' fr' = SV.cs ρ fr) :
    Weaker w0 ⟨fr, memOf ((a, .arr l ty) :: m)⟩ (fun _ => ⟨fr', memOf ((a, .row n 1 ty (.exact l)) :: m)⟩) := fun ρ w hr => by
  obtain ⟨hb, S, hR⟩ := hr
  obtain ⟨ρ', hρ'⟩ : ∃ ρ' : Nat → Nm, ρ' = fun k => if k = a then ⟨(ρ a).g, .slice (some ⟨(ρ a).g, 0, none⟩) n n⟩ else ρ k := ⟨_, rfl⟩
  have hv : (ρ' a).val = .slice (some ⟨(ρ a).g, 0, none⟩) n n := by rw [hρ']; simp
  have hs : ∀ k, k ∉ [a] → ρ' k = ρ k := fun k hk => by rw [hρ']; simp at hk; simp [hk]
  have hg : ∀ k, (ρ' k).g = (ρ k).g := fun k => by rw [hρ']; by_cases h : k = a <;> simp [h]
  have hma : ∀ k b, memOf m k = some b → k ≠ a ∧ b.has a = false := fun k b h => by
    have hmem : ∀ (m : List (Nat × Blk)), memOf m k = some b → (k, b) ∈ m := by
      intro m
      induction m with
      | nil => intro h; cases h
      | cons x m ih =>
        intro h
        simp only [memOf] at h
        split at h
        · rename_i e; injection h with h; subst h; rw [e]; exact List.mem_cons_self
        · exact List.mem_cons_of_mem _ (ih h)
    have := List.all_eq_true.1 hm _ (hmem m h)
    simpa using this
  have back : ∀ k b, memOf ((a, Blk.row n 1 ty (.exact l)) :: m) k = some b → (k = a ∧ b = .row n 1 ty (.exact l)) ∨ (k ≠ a ∧ memOf m k = some b ∧ memOf ((a, Blk.arr l ty) :: m) k = some b) := by
    intro k b h
    simp only [memOf] at h ⊢
    split at h
    · rename_i e; injection h with h; exact .inl ⟨e, h.symm⟩
    · rename_i e; exact .inr ⟨e, h, by rw [if_neg e]; exact h⟩
  have old : memOf ((a, Blk.arr l ty) :: m) a = some (.arr l ty) := by simp [memOf]
  have some' : ∀ k, (memOf ((a, Blk.row n 1 ty (.exact l)) :: m) k).isSome → (memOf ((a, Blk.arr l ty) :: m) k).isSome := fun k h => by
    simp only [memOf] at h ⊢
    split
    · rfl
    · rename_i e; rw [if_neg e] at h; exact h
  have go := hR.good a _ old
  have own : ∀ k b, memOf ((a, Blk.row n 1 ty (.exact l)) :: m) k = some b → b.owns (ρ' k) → ∃ c, memOf ((a, Blk.arr l ty) :: m) k = some c ∧ c.owns (ρ k) := fun k b h ho => by
    rcases back k b h with ⟨rfl, rfl⟩ | ⟨e, h1, h2⟩
    · exact ⟨_, old, True.intro⟩
    · exact ⟨b, h2, by rw [← hs k (by simpa using e)]; exact ho⟩
  refine ⟨fun _ => undef, ρ', ⟨hb, S, ?_⟩, ?_⟩
  · refine ⟨?_, fun id k h => hR.lt id k (some' id h), fun id k h => hR.fr id k (some' id h), ?_, ?_⟩
    · intro k b h
      rcases back k b h with ⟨rfl, rfl⟩ | ⟨e, h1, h2⟩
      · refine ⟨l, by omega, rfl, .inr ⟨0, n, l.toArray, (0, 0), ?_, ?_, ?_, .inl rfl, Nat.le_refl _, hml, by simp; omega, ?_⟩⟩
        · rw [hv, hg]
        · rw [hg]; exact go.1
        · rw [hg]; exact go.2
        · simp [List.take_of_length_le (show l.length ≤ n by omega)]
      · have hhas := (hma k b h1).2
        exact (hR.good k b h2).keep (ρ' := ρ') (hs k (by simpa using e)) (fun l' ty' hbl => cs_upd hs fun j hj => by
          simp at hj; subst hj; rw [hbl] at hhas; exact hhas) (fun j g hbl => hs j (by
            simp only [List.mem_singleton]
            rintro rfl
            rw [hbl] at hhas; simp [Blk.has, SV.hasL, SV.has] at hhas)) (Nat.le_refl _) (fun _ _ => rfl) (fun _ => rfl)
    · intro i b j hi ho hj hk
      obtain ⟨c, h1, h2⟩ := own i b hi ho
      rw [hg] at hk
      exact hR.dis i c j h1 h2 (some' j hj) hk
    · intro i b j c hi ho hj hoc he
      obtain ⟨b', h1, h2⟩ := own i b hi ho
      obtain ⟨c', h3, h4⟩ := own j c hj hoc
      rw [hg, hg] at he
      exact hR.inj i b' j c' h1 h2 h3 h4 he
  · simp only [VS.act]
    rw [← cs_map, ← cs_map, hfr ρ ρ' hg (fun k hk => hs k (by simpa using hk)) hv]
theorem expN_len (k info : List Nat) : ∀ i, (expN k info i).1.length = 32 * i ∧ (expN k info i).2.length ≤ 32 ∧ (∀ x ∈ (expN k info i).1, x < 256) ∧ ∀ x ∈ (expN k info i).2, x < 256
  | 0 => ⟨rfl, Nat.zero_le _, by simp [expN], by simp [expN]⟩
  | i + 1 => by
    obtain ⟨h1, h2, h3, h4⟩ := expN_len k info i
    simp only [expN]
    refine ⟨by rw [List.length_append, h1, hmac_len]; omega, by rw [hmac_len]; exact Nat.le_refl _, fun x hx => ?_, hmac_lt _ _⟩
    rcases List.mem_append.1 hx with hx | hx
    · exact h3 x hx
    · exact hmac_lt _ _ x hx
/-- bytes of a key. -/
def expand (k info : List Nat) (n : Nat) : List Nat := (expN k info ((n + 31) / 32)).1.take n
theorem expand_len (k info : List Nat) (n : Nat) : (expand k info n).length = n := by
  unfold expand
  rw [List.length_take, (expN_len k info _).1]; omega
theorem expand_lt (k info : List Nat) (n : Nat) : ∀ x ∈ expand k info n, x < 256 := fun x hx => (expN_len k info _).2.2.1 x (List.mem_of_mem_take hx)
theorem Expand_ok {u : Value} {key info : List Nat} {n : Nat} {F : Nat → Prop} (w : World) (hL : LaidK w) (hH : LaidH w) (hb1 : 1 < w.heap.size) (hkl : key.length = 32) (hk8 : ∀ y ∈ key, y < 256) (hu : SlAt w u info.length 1 (info.map b8) F) (hu8 : ∀ y ∈ info, y < 256) (hul : info.length < 1000000) (hn : n ≤ 8160) : Calls Tryd.prog 23 #[.agg (key.map b8).toArray, u, .int .i64 (n : Nat)] w fun e w' => ∃ v', e = .returned (.tuple #[v', .int .i64 0]) ∧ RetRow w w' v' n 1 5 ((expand key info n).map b8) ∧ Bw w w' := by
  obtain ⟨F', hu', hF'⟩ := rdgf_argb hu
  go_enter Tryd.func23, Tryd.ntmps23
  refine ve_go ?_
  simp only [List.map_cons, List.map_nil]
  refine vseq ?_
  apply vrp
  · apply VE.cons
    · exact ev_boxr (l := key.map b8) rfl rfl (gn rfl) rfl rfl
    simp only [nm, seval]
    apply VE.cons
    · exact ev_assign rfl (gn rfl)
    simp only [nm, seval]
    apply VE.cons
    · exact ev_assign rfl (gn rfl)
    simp only [nm, seval]
    exact VE.nil _
  · kernel_rfl
  change VOk _ _ _ _ _
  refine vseq ?_
  refine vseq ?_
  apply vrp
  · apply VE.cons
    · exact ev_move rfl (gn rfl)
    simp only [nm, seval]
    apply VE.cons
    · exact ev_lss (p := false) rfl (gn rfl) rfl rfl (decide_eq_false (by omega))
    simp only [nm, seval]
    apply VE.cons
    · exact ev_move rfl (gn rfl)
    simp only [nm, seval]
    apply VE.cons
    · first | exact Ev.skip (fun _ => rfl) | exact ev_move rfl (fun _ => rfl)
    simp only [nm, seval]
    apply VE.cons
    · first | exact Ev.skip (fun _ => rfl) | exact ev_gtr (p := false) rfl (fun _ => rfl) rfl rfl (decide_eq_false (by omega))
    simp only [nm, seval]
    apply VE.cons
    · first | exact ev_pick_t rfl (gn rfl) rfl rfl | exact ev_pick_f rfl (gn rfl) rfl rfl
    simp only [nm, seval]
    exact VE.nil _
  · kernel_rfl
  change VOk _ _ _ _ _
  refine vcond_f rfl ?_
  refine vskip ?_
  change VOk _ _ _ _ _
  refine vseq ?_
  apply vrp
  · apply VE.cons
    · exact ev_assign rfl (gn rfl)
    simp only [nm, seval]
    apply VE.cons
    · exact ev_assign rfl (gn rfl)
    simp only [nm, seval]
    exact VE.nil _
  · kernel_rfl
  change VOk _ _ _ _ _
  refine vseq ?_
  refine vseq ?_
  apply vrp
  · apply VE.cons
    · exact ev_assign rfl (gn rfl)
    simp only [nm, seval]
    exact VE.nil _
  · kernel_rfl
  change VOk _ _ _ _ _
  refine vblock ?_
  refine vloop_w (α := {x : Nat // 32 * x < n + 32}) (fun (x : {x : Nat // 32 * x < n + 32}) f => ⟨[.v (f 0), .v u, .v (.int .i64 (n : Nat)), .p 3 0, .v (f 4), .v (f 5), .v (f 6), .v (f 7), .d 900, .d 901, .v (b8 ((x.1 + 1) % 256)), .v (f 11), .v (f 12), .v (f 13), .v (f 14), .v (f 15), .v (f 16), .v (f 17), .v (f 18), .v (f 19), .v (f 20), .v (f 21), .v (f 22), .v (f 23), .v (f 24), .v (f 25), .v (f 26), .v (f 27), .v (f 28), .v (f 29), .v (f 30), .v (f 31), .v (f 32), .v (f 33), .v (f 34), .v (f 35), .v (f 36), .v (f 37)], memOf [(900, .row (32 * x.1) 1 5 (.exact ((expN key info x.1).1.map b8))), (901, .row (expN key info x.1).2.length 1 28 (.exact ((expN key info x.1).2.map b8))), (3, .arr (key.map b8) 28)]⟩) (fun x => n + 32 - 32 * x.1) ?_ (⟨0, by omega⟩) ?_
  · rintro ⟨i, hi⟩ f
    obtain ⟨q, h_q⟩ : ∃ q, decide (32 * i < n) = q := ⟨_, rfl⟩
    have h_q' := (nat_lt (32 * i) n).trans h_q
    obtain ⟨hAl, hTl, hA8, hT8⟩ := expN_len key info i
    have hnx : expN key info (i + 1) = ((expN key info i).1 ++ hmac key ((expN key info i).2 ++ info ++ [(i + 1) % 256]), hmac key ((expN key info i).2 ++ info ++ [(i + 1) % 256])) := rfl
    obtain ⟨A, hA⟩ : ∃ A, (expN key info i).1 = A := ⟨_, rfl⟩
    obtain ⟨T, hT⟩ : ∃ T, (expN key info i).2 = T := ⟨_, rfl⟩
    rw [hA] at hAl hA8
    rw [hT] at hTl hT8
    rw [hA, hT] at hnx
    rw [hA, hT]
    change VOk _ _ _ _ _
    refine vseq ?_
    refine vseq ?_
    apply vrp
    · apply VE.cons
      · exact ev_move rfl (gn rfl)
      simp only [nm, seval]
      apply VE.cons
      · exact ev_len rfl (gn rfl) rfl Tryd.underlying27 (rdg_row rfl)
      simp only [nm, seval]
      apply VE.cons
      · exact ev_move rfl (gn rfl)
      simp only [nm, seval]
      apply VE.cons
      · exact ev_lss rfl (gn rfl) rfl rfl h_q'
      simp only [nm, seval]
      exact VE.nil _
    · kernel_rfl
    change VOk _ _ _ _ _
    cases q
    · refine vcond_f rfl ?_
      have hge : n ≤ 32 * i := by have := of_decide_eq_false h_q; omega
      refine vexit ?_
      change VOk _ _ _ _ _
      refine vseq ?_
      apply vrp
      · apply VE.cons
        · exact ev_move rfl (gn rfl)
        simp only [nm, seval]
        apply VE.cons
        · exact ev_move rfl (gn rfl)
        simp only [nm, seval]
        apply VE.cons
        · exact ev_cutrow (b := n) (l' := (A.take n).map b8) rfl rfl (gn rfl) rfl rfl Tryd.underlying27 Tryd.sizeOf5 rfl rfl (by have := of_decide_eq_false h_q; omega) (by rw [Nat.mul_one, List.map_take]) (by simp [hAl])
        simp only [nm, seval]
        apply VE.cons
        · exact ev_assign rfl (gn rfl)
        simp only [nm, seval]
        apply VE.cons
        · exact ev_assign rfl (gn rfl)
        simp only [nm, seval]
        exact VE.nil _
      · kernel_rfl
      change VOk _ _ _ _ _
      refine vret ?_
      refine post_ret (res2 Tryd.results23 (rv_tmp rfl) (rv_tmp rfl)) ?_
      intro ρ w' hr
      refine ⟨_, rfl, ?_, hr.1⟩
      have hh := ret_row (id := 37) hr rfl
      have hie : (n + 31) / 32 = i := by omega
      unfold expand
      rw [hie, hA]
      exact hh
    · refine vcond_t rfl ?_
      have hlt : 32 * i < n := of_decide_eq_true h_q
      refine vskip ?_
      change VOk _ _ _ _ _
      refine vseq ?_
      refine vblock ?_
      refine vseq ?_
      apply vrp
      · apply VE.cons
        · exact ev_slicea rfl (gn rfl) rfl Tryd.underlying28 Tryd.sizeOf5
        simp only [nm, seval]
        apply VE.cons
        · exact ev_move rfl (gn rfl)
        simp only [nm, seval]
        apply VE.cons
        · exact ev_move rfl (gn rfl)
        simp only [nm, seval]
        apply VE.cons
        · exact ev_move rfl (gn rfl)
        simp only [nm, seval]
        apply VE.cons
        · exact ev_buildslice rfl rfl (gn rfl) rfl (e := 5) (l := [b8 ((i + 1) % 256)]) rfl (by decide) (fun _ => by kernel_rfl)
        simp only [nm, seval]
        apply VE.cons
        · exact ev_buildsl3 [901, 28] rfl rfl (gn rfl) rfl rfl rfl (rdgf_rdg (rdgf_row (l := T.map b8) (by simp) rfl)) (rdgf_rdg (rdgf_arg hu' hF')) (rdgf_rdg (rdgf_row (n := 1) (l := [b8 ((i + 1) % 256)]) (by simp) rfl)) rfl bsl3
        simp only [nm, seval]
        apply VE.cons
        · exact ev_callp (v := .agg ((hmac key [T, info, [(i + 1) % 256]].flatten).map b8).toArray) [3, 901, 28, 29] rfl (gn rfl) rfl (en_of Tryd.func15 (by kernel_rfl) rfl) (fun ρ S w' hb hR => macOf_ok w' (hL.bw hb) (hH.bw hb) (Nat.lt_of_lt_of_le hb1 hb.size) (by rw [hkl]; exact rdgf_arr (id := 3) (len := 32) (b := key.map b8) (by simp) (by rfl) (by simp [hkl]) (by decide) ρ S w' hb hR) (by omega) hk8 (partsf_own (id := 29) (n := 3) (ls := [T, info, [(i + 1) % 256]]) (by simp) (by rfl) rfl (by exact ⟨⟨rdgf_row (by simp) rfl, hT8⟩, ⟨rdgf_arg hu' hF', hu8⟩, ⟨rdgf_row (by simp) rfl, by simp; omega⟩, trivial⟩) ρ S w' hb hR) (hangs_lt hb hR) (by simp; omega) (by simp))
        simp only [nm, seval]
        apply VE.cons
        · exact ev_allocr (l := OL []) rfl rfl (gn rfl) Tryd.zeroValue28 rfl
        simp only [nm, seval]
        apply VE.cons
        · exact ev_storer (l' := (hmac key [T, info, [(i + 1) % 256]].flatten).map b8) rfl (gn rfl) rfl rfl rfl Tryd.sizeOf28 (by simp [Value.cells, hmac_len]) (by rw [OL_len (by simp)]; decide) (by show ((hmac key [T, info, [(i + 1) % 256]].flatten).map b8).toArray.toList.all _ = true; exact b8_all _) (by rw [List.take_zero, List.nil_append, List.drop_of_length_le (by rw [OL_len (by simp)]; decide), List.append_nil]; simp [Value.cells])
        simp only [nm, seval]
        exact VE.nil _
      · kernel_rfl
      change VOk _ _ _ _ _
      refine vseq ?_
      apply vrp
      · apply VE.cons
        · exact ev_slicea rfl (gn rfl) rfl Tryd.underlying28 Tryd.sizeOf5
        simp only [nm, seval]
        apply VE.cons
        · exact ev_assign rfl (gn rfl)
        simp only [nm, seval]
        exact VE.nil _
      · kernel_rfl
      change VOk _ _ _ _ _
      apply vrp
      · apply VE.cons
        · exact ev_move rfl (gn rfl)
        simp only [nm, seval]
        apply VE.cons
        · exact ev_move rfl (gn rfl)
        simp only [nm, seval]
        apply VE.cons
        · exact ev_append rfl rfl (gn rfl) rfl rfl rfl (rdgf_rdg (rdgf_arr (rd := [11]) (by simp) rfl (by rw [List.length_map, hmac_len]) (by decide))) Tryd.underlying27 el5 (by decide) (by rw [List.length_map, hAl, Nat.mul_one]) (b8_all _) (by simp only [maxLen]; omega) (by omega) (by rw [List.length_map, hmac_len])
        simp only [nm, seval]
        apply VE.cons
        · exact ev_assign rfl (gn rfl)
        simp only [nm, seval]
        exact VE.nil _
      · kernel_rfl
      change VOk _ _ _ _ _
      apply vrp
      · apply VE.cons
        · exact ev_move rfl (gn rfl)
        simp only [nm, seval]
        apply VE.cons
        · exact ev_add (c := (((i + 1 + 1) % 256 : Nat) : Int)) rfl (gn rfl) rfl rfl (by rw [IntKind.wrap_u8']; omega)
        simp only [nm, seval]
        apply VE.cons
        · exact ev_assign rfl (gn rfl)
        simp only [nm, seval]
        exact VE.nil _
      · kernel_rfl
      have hfl : [T, info, [(i + 1) % 256]].flatten = T ++ info ++ [(i + 1) % 256] := by simp
      rw [hfl]
      obtain ⟨M, hM⟩ : ∃ M, hmac key (T ++ info ++ [(i + 1) % 256]) = M := ⟨_, rfl⟩
      rw [hM] at hnx ⊢
      have hMl : M.length = 32 := by rw [← hM]; exact hmac_len _ _
      have e1 : (expN key info (i + 1)).1 = A ++ M := by rw [hnx]
      have e2 : (expN key info (i + 1)).2 = M := by rw [hnx]
      rw [← List.map_append, show 32 * i + 32 = 32 * (i + 1) by omega]
      refine ⟨⟨i + 1, by omega⟩, by show n + 32 - 32 * (i + 1) < n + 32 - 32 * i; omega, ?_⟩
      show Weaker w _ (fun f => ⟨[.v (f 0), .v u, .v (.int .i64 (n : Nat)), .p 3 0, .v (f 4), .v (f 5), .v (f 6), .v (f 7), .d 900, .d 901, .v (b8 ((i + 1 + 1) % 256)), .v (f 11), .v (f 12), .v (f 13), .v (f 14), .v (f 15), .v (f 16), .v (f 17), .v (f 18), .v (f 19), .v (f 20), .v (f 21), .v (f 22), .v (f 23), .v (f 24), .v (f 25), .v (f 26), .v (f 27), .v (f 28), .v (f 29), .v (f 30), .v (f 31), .v (f 32), .v (f 33), .v (f 34), .v (f 35), .v (f 36), .v (f 37)], memOf [(900, .row (32 * (i + 1)) 1 5 (.exact ((expN key info (i + 1)).1.map b8))), (901, .row (expN key info (i + 1)).2.length 1 28 (.exact ((expN key info (i + 1)).2.map b8))), (3, .arr (key.map b8) 28)]⟩)
      rw [e1, e2, hMl]
      refine (weaker_forget (fun i => i == 1 || i == 2 || i == 3 || i == 8 || i == 9 || i == 10) [901, 28, 29]).trans2 (fun f => ?_)
      refine (weaker_swap (a := (34, _)) (b := (11, _)) (show (34 : Nat) ≠ 11 by decide)).trans2 (fun _ => (weaker_arrow 11 32 (fr' := [.v (f 0), .v u, .v (.int .i64 (n : Nat)), .p 3 0, .v (f 4), .v (f 5), .v (f 6), .v (f 7), .d 34, .d 11, .v (b8 ((i + 1 + 1) % 256)), .v (f 11), .v (f 12), .v (f 13), .v (f 14), .v (f 15), .v (f 16), .v (f 17), .v (f 18), .v (f 19), .v (f 20), .v (f 21), .v (f 22), .v (f 23), .v (f 24), .v (f 25), .v (f 26), .v (f 27), .v (f 28), .v (f 29), .v (f 30), .v (f 31), .v (f 32), .v (f 33), .v (f 34), .v (f 35), .v (f 36), .v (f 37)]) (by simp [hMl]) (by decide) rfl (fun ρ ρ' h1 h2 h3 => ?_)).trans2 (fun _ => (weaker_swap (a := (11, _)) (b := (34, _)) (show (11 : Nat) ≠ 34 by decide)).trans2 (fun _ => (weaker_ren 34 900 (by decide) rfl).trans2 (fun _ => weaker_ren 11 901 (by decide) rfl))))
      simp [forgetFr, SV.cs, SV.c, h3, h1, h2 34 (by decide), b8]
  · refine (weaker_forget (fun i => i == 1 || i == 2 || i == 3 || i == 8 || i == 9 || i == 10) []).trans2 (fun f => (weaker_name 901 1 28 (.exact []) (fun w => rfl) (fr' := [.v (f 0), .v u, .v (.int .i64 (n : Nat)), .p 3 0, .v (f 4), .v (f 5), .v (f 6), .v (f 7), .v (.slice none 0 0), .d 901, .v (b8 1), .v (f 11), .v (f 12), .v (f 13), .v (f 14), .v (f 15), .v (f 16), .v (f 17), .v (f 18), .v (f 19), .v (f 20), .v (f 21), .v (f 22), .v (f 23), .v (f 24), .v (f 25), .v (f 26), .v (f 27), .v (f 28), .v (f 29), .v (f 30), .v (f 31), .v (f 32), .v (f 33), .v (f 34), .v (f 35), .v (f 36), .v (f 37)]) (m' := [(3, .arr (key.map b8) 28)]) rfl rfl (fun ρ hv => ?_) (fun ρ hv => ?_)).trans2 (fun f2 => weaker_name 900 1 5 (.exact []) (fun w => rfl) (m' := [(901, .row 0 1 28 (.exact [])), (3, .arr (key.map b8) 28)]) rfl rfl (fun ρ hv => ?_) (fun ρ hv => ?_)))
    · simp [forgetFr, SV.cs, SV.c, hv, nilV, b8]
    · simp [memSim, memDel, Blk.sim]
    · simp [SV.cs, SV.c, hv, nilV, b8]
    · simp [memSim, Blk.sim]
end Go.Proofs.YtdhklekkpkbfeaaDoor
