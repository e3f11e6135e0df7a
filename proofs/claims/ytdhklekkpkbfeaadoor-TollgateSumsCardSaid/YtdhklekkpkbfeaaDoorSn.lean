import Derived.Test.YtdhklekkpkbfeaaDoorSm
namespace Go.Proofs.YtdhklekkpkbfeaaDoor
open Go.RowKit Go.Vx
open Go.Toll (Gw)
open TollSha
set_option maxHeartbeats 4000000
set_option maxRecDepth 100000
/-- a slice without elements or room. -/
def emptyD : Dat := ⟨fun xs _ _ => ∃ g, xs = [.slice (some ⟨g, 0, none⟩) 0 0], fun h _ => h⟩
theorem bw_alloc (w : World) (b : Obj) : Bw w (w.alloc b) := ⟨rfl, rfl, rfl, by simp, fun k hk => heap_alloc_old w _ hk⟩
theorem ev_buildempty {w0 : World} {ops : Array Oper} {o : Oper} {s : VS} {P : Program} {ty e : TypeId} {parts : Array (Nat × Operand)} {id : Nat} (_hd : o.dst = some id) (ho : o.op = .buildSlice ty 0 parts) (hgd : Want ops o s) (hp : parts = #[])
    (hb : ∀ w, (Instr.buildSlice ty 0 #[]).run P w = .ok (.slice (some ⟨w.heap.size, 0, none⟩) 0 0) (w.alloc (.cells #[] e))) : Ev P ops w0 o s ⟨.d id, [(id, .dat emptyD)], [], [id], []⟩ := by
  subst hp
  exact ⟨by simp [Eff.ok], .inr ⟨hgd, fun ρ S w hb0 hR => .inl ⟨.slice (some ⟨w.heap.size, 0, none⟩) 0 0, w.alloc (.cells #[] e), by
    simp only [execOp, ho]
    rw [Sem.run_bind, show (Array.map (fun (x : Nat × Operand) => (x.1, (s.act ρ).eval x.2)) #[]) = #[] by simp, hb w]
    rfl, _, _, by
    have := out_dat (base := w0.heap.size) (t := s.mem) (ρ := ρ) (S := S) (w := w) (w' := w.alloc (.cells #[] e)) (val := .d id) (rd := []) (id := id) (D := emptyD) (v := .slice (some ⟨w.heap.size, 0, none⟩) 0 0) (S1 := fun _ => False) (bw_alloc w _) ⟨_, rfl⟩ (fun _ h => h.elim)
    simpa [SV.c] using this⟩⟩⟩
/-- what is appended to it is data of its own. -/
theorem ev_appende {w0 : World} {ops : Array Oper} {o : Oper} {s : VS} {P : Program} {t e : TypeId} {x y : Operand} {id id2 k bytes : Nat} {news : List Value} {sv : SV} (rd : List Nat) (_hd : o.dst = some id2) (ho : o.op = .call { callee := .builtin .append, args := #[x, y], argTypes := #[t, t] }) (hgd : Want ops o s)
    (hx : svEval s x = .d id) (hm : s.mem id = some (.dat emptyD)) (hid : id ∈ rd) (hy : svEval s y = sv) (hr : Rdg w0 s.mem rd sv k 1 news)
    (ht : P.underlying t = some (.slice e)) (hI : ElInfo P e 1 bytes) (h1 : news.all (·.oneCell') = true) (h63 : k ≤ maxLen) (hbytes : k * bytes ≤ 140737488355328) :
    Ev P ops w0 o s ⟨.d id2, [(id2, .dat (Dat.sl k 1 news))], [], [id2], rd⟩ :=
  ⟨by simp [Eff.ok], .inr ⟨hgd, fun ρ S w hb hR => by
    obtain ⟨i, z, hi, hz, hsize, hby, hzs⟩ := hI.get
    obtain ⟨g, hg⟩ := relon_dat hR hid hm
    simp only [List.cons.injEq, and_true] at hg
    obtain ⟨S1, ao, cp, hv, hkc, hnl, hne⟩ := hr ρ S w hb hR
    rw [Nat.mul_one] at hnl
    have e1 := svEval_c s ρ x
    rw [hx] at e1
    have e2 := svEval_c s ρ y
    rw [hy, hv] at e2
    simp only [SV.c] at e1
    rw [hg] at e1
    by_cases hk0 : k = 0
    · subst hk0
      have hn : news = [] := List.eq_nil_of_length_eq_zero hnl
      subst hn
      have hrun : (Builtin.append_ #[t, t] o.type #[.slice (some ⟨g, 0, none⟩) 0 0, .slice ao 0 cp]).run P w = .ok (.slice (some ⟨g, 0, none⟩) 0 0) w := by
        cases ao <;> simp [Builtin.append_, run_underlying ht, sizeOf, typeInfo, hi, Builtin.lenOf, Builtin.firstCells, loadCells, loadCellsFrom, storeCells]
      refine .inl ⟨.slice (some ⟨g, 0, none⟩) 0 0, w, ?_, fun j => if j = id2 then ⟨0, .slice (some ⟨g, 0, none⟩) 0 0⟩ else ρ j, fun _ _ => False, ?_⟩
      · unfold execOp
        simp only [ho, resolve, invoke, builtin, Sem.run_bind, Sem.run_pure, Result.andThen_ok, List.map_toArray, List.map_cons, List.map_nil, e1, e2, hrun]
      · have := out_dat (base := w0.heap.size) (t := s.mem) (ρ := ρ) (S := S) (w := w) (w' := w) (val := .d id2) (rd := rd) (id := id2) (D := Dat.sl 0 1 []) (v := .slice (some ⟨g, 0, none⟩) 0 0) (S1 := fun _ => False) (Bw.refl w) ⟨_, rfl, _, _, rfl, Nat.le_refl _, rfl, .inl rfl⟩ (fun _ h => h.elim)
        simpa [SV.c] using this
    · have hnn : news ≠ [] := fun h => by rw [h] at hnl; simp at hnl; omega
      rcases hne with hne | ⟨ga, rfl, _, hnews⟩
      · exact absurd hne hnn
      have hr2 := run_append_grow (P := P) w t o.type e i z ht hi hz ⟨g, 0, none⟩ 0 0 [] (by simp) (fun j u hj => by simp at hj) ga k cp news (by rw [hnl, hsize, Nat.mul_one]) hnews (by omega) (by simp only [maxLen] at h63; omega) (growslice_fits (by omega) (by rw [Nat.zero_add, hby]; exact hbytes))
      simp only [Nat.zero_add] at hr2
      have hge := grownCap_ge w k 0 e
      refine .inl ⟨.slice (some ⟨w.heap.size, 0, none⟩) k (grownCap w k 0 e), w.drew.alloc (.cells (#[] ++ news.toArray ++ Builtin.zeroCells z.cells (grownCap w k 0 e - k)) e), ?_, fun j => if j = id2 then ⟨0, .slice (some ⟨w.heap.size, 0, none⟩) k (grownCap w k 0 e)⟩ else ρ j, fun _ => fun q => q = w.heap.size, ?_⟩
      · unfold execOp
        simp only [ho, resolve, invoke, builtin, Sem.run_bind, Sem.run_pure, Result.andThen_ok, List.map_toArray, List.map_cons, List.map_nil, e1, e2, hr2]
      · have hb2 : Bw w (w.drew.alloc (.cells (#[] ++ news.toArray ++ Builtin.zeroCells z.cells (grownCap w k 0 e - k)) e)) := ⟨rfl, rfl, rfl, by simp, fun j hj => heap_alloc_old w.drew _ hj⟩
        have := out_dat (base := w0.heap.size) (t := s.mem) (ρ := ρ) (S := S) (w := w) (w' := _) (val := .d id2) (rd := rd) (id := id2) (D := Dat.sl k 1 news) (v := .slice (some ⟨w.heap.size, 0, none⟩) k (grownCap w k 0 e)) (S1 := fun q => q = w.heap.size) hb2
          ⟨_, rfl, _, _, rfl, hge, by rw [hnl, Nat.mul_one], .inr ⟨_, rfl, rfl, fun j u hj => by
            rw [add_at, Nat.zero_add]
            have hh : (w.drew.alloc (.cells (#[] ++ news.toArray ++ Builtin.zeroCells z.cells (grownCap w k 0 e - k)) e)).heap[w.heap.size]? = _ := heap_alloc_new w.drew _
            have hjl := (List.getElem?_eq_some_iff.1 hj).1
            simp only [World.cell?, hh]
            simp [Array.getElem?_append, hjl]
            exact (List.getElem?_eq_some_iff.1 hj).2⟩⟩ (fun q hq => by subst hq; exact ⟨Nat.le_refl _, by simp⟩)
        simpa [SV.c] using this⟩⟩
/-- slices of bytes, data of the call's own. -/
def datP (ls : List (List Nat)) : Dat := ⟨fun xs w S => xs.length = ls.length ∧ ∀ (i : Nat) (l : List Nat), ls[i]? = some l → ∃ u, xs[i]? = some u ∧ SlAt w u l.length 1 (l.map b8) S ∧ ∀ x ∈ l, x < 256, fun ⟨h0, h⟩ hk => ⟨h0, fun i l hl => by
  obtain ⟨u, h1, h2, h3⟩ := h i l hl
  exact ⟨u, h1, h2.keep hk, h3⟩⟩⟩
def partsD (ls : List (List Nat)) : Dat := ⟨fun xs w S => ∃ v, xs = [v] ∧ PartsAt w v ls S, fun ⟨v, e, vs, h1, h2⟩ hk => ⟨v, e, vs, h1.keep hk, fun i l hl => by
  obtain ⟨u, h3, h4, h5⟩ := h2 i l hl
  exact ⟨u, h3, h4.keep hk, h5⟩⟩⟩
def few (ls : List (List Nat)) : List (List Nat) := (ls.take 6).map (·.take 60)
theorem few_len (ls : List (List Nat)) : (few ls).length = min 6 ls.length := by simp [few]
theorem few_get {ls : List (List Nat)} {i : Nat} {l : List Nat} (h : ls[i]? = some l) (hi : i < 6) : (few ls)[i]? = some (l.take 60) := by
  unfold few
  rw [List.getElem?_map, List.getElem?_take, if_pos hi, h]; rfl
theorem take_min (l : List Nat) : (l.map b8).take (min l.length 60) = (l.take 60).map b8 := by
  rw [← List.map_take]
  congr 1
  by_cases h : l.length ≤ 60
  · rw [Nat.min_eq_left h, List.take_of_length_le (Nat.le_refl _), List.take_of_length_le h]
  · rw [Nat.min_eq_right (by omega)]
theorem el27 : ElInfo Tryd.prog 27 1 24 := by unfold ElInfo; kernel_rfl
theorem datP_snoc {ls : List (List Nat)} {l : List Nat} {xs ys : List Value} {u : Value} {w : World} {S0 S1 S : Nat → Prop} (hD : (datP ls).holds xs w S0) (hy : ys = [u]) (h : SlAt w u (l.take 60).length 1 ((l.take 60).map b8) S1) (h8 : ∀ x ∈ l, x < 256) (h0 : ∀ k, S0 k → S k) (h1 : ∀ k, S1 k → S k) : (datP (ls ++ [l.take 60])).holds (xs ++ ys) w S := by
  subst hy
  obtain ⟨e0, e1⟩ := hD
  refine ⟨by simp [e0], fun i m hm => ?_⟩
  by_cases hi : i < ls.length
  · rw [List.getElem?_append_left hi] at hm
    obtain ⟨u, a1, a2, a3⟩ := e1 i m hm
    exact ⟨u, by rw [List.getElem?_append_left (by omega)]; exact a1, sl_mono a2 h0, a3⟩
  · rw [List.getElem?_append_right (by omega)] at hm
    have hi0 : i - ls.length = 0 := by
      rcases Nat.eq_zero_or_pos (i - ls.length) with h | h
      · exact h
      · rw [List.getElem?_eq_none (by simp; omega)] at hm; cases hm
    rw [hi0] at hm
    simp only [List.getElem?_cons_zero, Option.some.injEq] at hm
    subst hm
    exact ⟨u, by rw [List.getElem?_append_right (by omega), e0, hi0]; rfl, sl_mono h h1, fun x hx => h8 x (List.mem_of_mem_take hx)⟩
theorem ret_parts {w0 w : World} {s : VS} {ρ : Nat → Nm} {id n : Nat} {ls : List (List Nat)} (hr : Rel w0 ρ s w) (hm : s.mem id = some (.row n 1 27 (datP ls))) (hn : ls.length = n) : RetD w0 w (ρ id).val (partsD ls) := by
  obtain ⟨hb, S, hR⟩ := hr
  obtain ⟨xs, hl, ⟨hx0, hx1⟩, hrow⟩ := hR.good id _ hm
  subst hn
  refine ⟨fun k => S id k ∨ ((ρ id).val ≠ .slice none 0 0 ∧ k = (ρ id).g), ⟨_, rfl, xs, ?_, fun i l hi => ?_⟩, fun k hk => ?_⟩
  · rcases hrow with ⟨h1, h2⟩ | hrow'
    · have : xs = [] := List.eq_nil_of_length_eq_zero (by rw [hl, h2])
      exact ⟨none, 0, by rw [h1, h2], by omega, hl, .inl this⟩
    · refine sl_mono (row_sl (.inr hrow') hl) fun k hk => .inr ⟨fun h => ?_, hk⟩
      obtain ⟨off, cap, cur, fz, h1, _⟩ := hrow'
      rw [h1] at h; cases h
  · obtain ⟨u, h1, h2, h3⟩ := hx1 i l hi
    exact ⟨u, h1, sl_mono h2 fun k hk => .inl hk, h3⟩
  · rcases hk with hk | ⟨hk, rfl⟩
    · exact ⟨hR.fr id k (by rw [hm]; rfl) hk, hR.lt id k (by rw [hm]; rfl) hk⟩
    · exact (hR.good id _ hm).own hk
theorem Few_ok {v : Value} {ls : List (List Nat)} {F : Nat → Prop} (w : World) (hp : PartsAt w v ls F) : Calls Tryd.prog 4 #[v, .int .i64 6, .int .i64 60] w fun e w' => ∃ v', e = .returned v' ∧ RetD w w' v' (partsD (few ls)) ∧ Bw w w' := by
  obtain ⟨vs, hvs, hel⟩ := hp
  go_enter Tryd.func4, Tryd.ntmps4
  refine ve_go ?_
  simp only [List.map_cons, List.map_nil]
  refine vseq ?_
  apply vrp
  · apply VE.cons
    · exact ev_assign rfl (gn rfl)
    simp only [nm, seval]
    exact VE.nil _
  · kernel_rfl
  change VOk _ _ _ _ _
  refine vseq ?_
  apply vrp
  · apply VE.cons
    · exact ev_assign rfl (gn rfl)
    simp only [nm, seval]
    exact VE.nil _
  · kernel_rfl
  change VOk _ _ _ _ _
  refine vseq ?_
  refine vseq ?_
  apply vrp
  · apply VE.cons
    · exact ev_assign rfl (gn rfl)
    simp only [nm, seval]
    exact VE.nil _
  · kernel_rfl
  change VOk _ _ _ _ _
  refine vblock ?_
  refine vloop_w (α := {x : Nat // x ≤ min 6 ls.length}) (fun (x : {x : Nat // x ≤ min 6 ls.length}) f => ⟨[.v v, .v (.int .i64 6), .v (.int .i64 60), .v (f 3), .v (f 4), .v (f 5), .v (f 6), .d 900, .v (.int .i64 (x.1 : Nat)), .v (f 9), .v (f 10), .v (f 11), .v (f 12), .v (f 13), .v (f 14), .v (f 15), .v (f 16), .v (f 17), .v (f 18), .v (f 19), .v (f 20), .v (f 21), .v (f 22), .v (f 23), .v (f 24), .v (f 25), .v (f 26), .v (f 27), .v (f 28), .v (f 29), .v (f 30), .v (f 31), .v (f 32), .v (f 33), .v (f 34), .v (f 35), .v (f 36), .v (f 37)], memOf [(900, .row (x.1) 1 27 (datP ((few ls).take (x.1))))]⟩) (fun x => 6 - x.1) ?_ (⟨0, Nat.zero_le _⟩) ?_
  · rintro ⟨i, hi⟩ f
    obtain ⟨q, h_q⟩ : ∃ q, decide (i < ls.length) = q := ⟨_, rfl⟩
    have h_q' := (nat_lt i ls.length).trans h_q
    obtain ⟨q2, h_q2⟩ : ∃ q, decide (i < 6) = q := ⟨_, rfl⟩
    have h_q2' := (nat_lt i 6).trans h_q2
    cases q <;> cases q2 <;>
    (
      change VOk _ _ _ _ _
      refine vseq ?_
      refine vseq ?_
      apply vrp
      · apply VE.cons
        · exact ev_move rfl (gn rfl)
        simp only [nm, seval]
        apply VE.cons
        · exact ev_move rfl (gn rfl)
        simp only [nm, seval]
        apply VE.cons
        · exact ev_len rfl (gn rfl) rfl Tryd.underlying22 (rdg_arg hvs)
        simp only [nm, seval]
        apply VE.cons
        · exact ev_lss rfl (gn rfl) rfl rfl h_q'
        simp only [nm, seval]
        apply VE.cons
        · exact ev_move rfl (gn rfl)
        simp only [nm, seval]
        apply VE.cons
        · first | exact Ev.skip (fun _ => rfl) | exact ev_move rfl (fun _ => rfl)
        simp only [nm, seval]
        apply VE.cons
        · first | exact Ev.skip (fun _ => rfl) | exact ev_move rfl (fun _ => rfl)
        simp only [nm, seval]
        apply VE.cons
        · first | exact Ev.skip (fun _ => rfl) | exact ev_lss rfl (fun _ => rfl) rfl rfl h_q2'
        simp only [nm, seval]
        apply VE.cons
        · first | exact ev_pick_t rfl (gn rfl) rfl rfl | exact ev_pick_f rfl (gn rfl) rfl rfl
        simp only [nm, seval]
        exact VE.nil _
      · kernel_rfl
      change VOk _ _ _ _ _
      first
      | (
          refine vcond_f rfl ?_
          have hie : i = min 6 ls.length := by simp only [decide_eq_false_iff_not, decide_eq_true_eq] at h_q h_q2; omega
          subst hie
          refine vexit ?_
          change VOk _ _ _ _ _
          refine vseq ?_
          apply vrp
          · apply VE.cons
            · exact ev_move rfl (gn rfl)
            simp only [nm, seval]
            apply VE.cons
            · exact ev_assign rfl (gn rfl)
            simp only [nm, seval]
            exact VE.nil _
          · kernel_rfl
          change VOk _ _ _ _ _
          refine vret ?_
          refine post_ret (res1 Tryd.results4 (rv_tmp rfl)) ?_
          intro ρ w' hr
          refine ⟨_, rfl, ret_parts (id := 900) hr (n := min 6 ls.length) ?_ (few_len ls), hr.1⟩
          rw [List.take_of_length_le (by rw [few_len]; exact Nat.le_refl _)]; rfl
        )
      | (
          refine vcond_t rfl ?_
          have hlt : i < ls.length := of_decide_eq_true h_q
          have hlt6 : i < 6 := of_decide_eq_true h_q2
          obtain ⟨l, hl⟩ : ∃ l, ls[i]? = some l := ⟨ls[i], List.getElem?_eq_getElem hlt⟩
          obtain ⟨u, hu1, hu2, hu8⟩ := hel i l hl
          have hfl := few_get hl hlt6
          have hnx := take_get hfl
          refine vskip ?_
          change VOk _ _ _ _ _
          refine vseq ?_
          refine vblock ?_
          apply vrd (by kernel_rfl)
          · apply VE.cons
            · exact ev_move rfl (gn rfl)
            simp only [nm, seval]
            apply VE.cons
            · exact ev_buildempty rfl rfl (gn rfl) rfl (e := 5) (fun _ => by kernel_rfl)
            simp only [nm, seval]
            apply VE.cons
            · exact ev_move rfl (gn rfl)
            simp only [nm, seval]
            apply VE.cons
            · exact ev_move rfl (gn rfl)
            simp only [nm, seval]
            apply VE.cons
            · exact ev_idx (k := i) rfl (gn rfl) rfl rfl Tryd.underlying22 Tryd.sizeOf27 (rdg_arg hvs) hlt (by decide)
            simp only [nm, seval]
            apply VE.cons
            · exact ev_loadi rfl (gn rfl) rfl Tryd.underlying27 rfl (rdg_arg hvs) hu1
            simp only [nm, seval]
            apply VE.cons
            · exact ev_move rfl (gn rfl)
            simp only [nm, seval]
            apply VE.cons
            · exact ev_move rfl (gn rfl)
            simp only [nm, seval]
            apply VE.cons
            · exact ev_idx (k := i) rfl (gn rfl) rfl rfl Tryd.underlying22 Tryd.sizeOf27 (rdg_arg hvs) hlt (by decide)
            simp only [nm, seval]
            apply VE.cons
            · exact ev_loadi rfl (gn rfl) rfl Tryd.underlying27 rfl (rdg_arg hvs) hu1
            simp only [nm, seval]
            apply VE.cons
            · exact ev_len rfl (gn rfl) rfl Tryd.underlying27 (rdg_arg hu2)
            simp only [nm, seval]
            apply VE.cons
            · exact ev_move rfl (gn rfl)
            simp only [nm, seval]
            apply VE.cons
            · exact ev_min (c := min l.length 60) (b := 60) rfl (gn rfl) rfl rfl rfl
            simp only [nm, seval]
            apply VE.cons
            · exact ev_cut (a := 0) (b := min l.length 60) (size := 1) rfl (gn rfl) rfl Tryd.underlying27 Tryd.sizeOf5 (rdg_arg hu2) rfl rfl (Nat.zero_le _) (by omega)
            simp only [nm, seval]
            apply VE.cons
            · exact ev_appende (k := min l.length 60) [21] rfl rfl (gn rfl) rfl rfl (by simp) rfl (rdg_mono (rdg_sub (lo := 0) (hi := min l.length 60) (n' := min l.length 60) (l' := (l.take 60).map b8) (rdg_arg hu2) (Nat.zero_le _) (by omega) (by rw [Nat.mul_one, Nat.mul_one, List.drop_zero, Nat.sub_zero]; exact take_min l) rfl) rfl) Tryd.underlying27 el5 (b8_all _) (by simp only [maxLen]; omega) (by omega)
            simp only [nm, seval]
            apply VE.cons
            · exact ev_buildsl1 (n := 1) (l := [.d 34]) [34] rfl rfl (gn rfl) rfl (fun ρ S w' hR => by obtain ⟨u', e1, _, _, e2, _⟩ := relon_dat (id := 34) hR (by simp) rfl; simp only [List.cons.injEq, and_true] at e1; show ((ρ 34).val).cells.toList = [(ρ 34).val]; rw [e1, e2]; rfl) rfl rfl bsl1
            simp only [nm, seval]
            apply VE.cons
            · exact ev_appendD (datP ((few ls).take i ++ [l.take 60])) [900, 34, 35] rfl rfl (gn rfl) rfl rfl rfl rfl rfl (Nat.le_refl _) Tryd.underlying22 el27 (by decide) (by simp only [maxLen]; omega) (by omega) (by simp) (by simp) (fun ρ S w' hR => by obtain ⟨u', e1, _, _, e2, _⟩ := relon_dat (id := 34) hR (by simp) rfl; simp only [List.cons.injEq, and_true] at e1; simp only [SV.cs, SV.c, e1, e2]; rfl) (fun ρ S w' xs hb hR hD => by obtain ⟨u', e1, e2⟩ := relon_dat (id := 34) hR (by simp) rfl; simp only [List.cons.injEq, and_true] at e1; exact datP_snoc (u := u') (S0 := S 900) (S1 := S 34) hD (by show [(ρ 34).val] = [u']; rw [e1]) (by rw [List.length_take, Nat.min_comm]; exact e2) hu8 (fun k hk => ⟨900, by simp, rfl, hk⟩) (fun k hk => ⟨34, by simp, rfl, hk⟩))
            simp only [nm, seval]
            apply VE.cons
            · exact ev_assign rfl (gn rfl)
            simp only [nm, seval]
            exact VE.nil _
          · kernel_rfl
          change VOk _ _ _ _ _
          apply vrp
          · apply VE.cons
            · exact ev_move rfl (gn rfl)
            simp only [nm, seval]
            apply VE.cons
            · exact ev_add (c := ((i + 1 : Nat) : Int)) rfl (gn rfl) rfl rfl (by rw [i64w (by omega) (by omega)]; omega)
            simp only [nm, seval]
            apply VE.cons
            · exact ev_assign rfl (gn rfl)
            simp only [nm, seval]
            exact VE.nil _
          · kernel_rfl
          refine ⟨⟨i + 1, by omega⟩, by show 6 - (i + 1) < 6 - i; omega, ?_⟩
          show Weaker w _ (fun f => ⟨[.v v, .v (.int .i64 6), .v (.int .i64 60), .v (f 3), .v (f 4), .v (f 5), .v (f 6), .d 900, .v (.int .i64 ((i + 1 : Nat) : Nat)), .v (f 9), .v (f 10), .v (f 11), .v (f 12), .v (f 13), .v (f 14), .v (f 15), .v (f 16), .v (f 17), .v (f 18), .v (f 19), .v (f 20), .v (f 21), .v (f 22), .v (f 23), .v (f 24), .v (f 25), .v (f 26), .v (f 27), .v (f 28), .v (f 29), .v (f 30), .v (f 31), .v (f 32), .v (f 33), .v (f 34), .v (f 35), .v (f 36), .v (f 37)], memOf [(900, .row (i + 1) 1 27 (datP ((few ls).take (i + 1))))]⟩)
          rw [hnx]
          exact (weaker_forget (fun i => i == 0 || i == 1 || i == 2 || i == 7 || i == 8) [21, 34, 35]).trans2 (fun f => weaker_ren 36 900 (by decide) rfl)
        )
    )
  · refine (weaker_forget (fun i => i == 0 || i == 1 || i == 2 || i == 7 || i == 8) []).trans2 (fun f => ?_)
    refine (weaker_name 900 1 27 (datP []) (fun w => ⟨rfl, fun i l hl => by simp at hl⟩) (m' := []) rfl rfl (fun ρ hv => ?_) (fun ρ hv => ?_))
    · simp [forgetFr, SV.cs, SV.c, hv, nilV]
    · simp [memSim, memDel]
end Go.Proofs.YtdhklekkpkbfeaaDoor
