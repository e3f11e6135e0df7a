import Derived.Test.YtmgmiiongleaeaaDoorDp
namespace Go.Proofs.YtmgmiiongleaeaaDoor
open Go.RowKit Go.Vx
open Go.Toll (Gw)
set_option maxHeartbeats 4000000
set_option maxRecDepth 100000
theorem Word_ok {b : List Nat} (h8 : ∀ x ∈ b, x < 256) (hm : b.length ≤ maxLen) (w : World) : Calls Tryd.prog 26 #[.string (bstr b)] w fun e w' => ∃ v, e = .returned v ∧ RetD w w' v (datN (.mk 12 b [])) ∧ Bw w w' := by
  go_enter Tryd.func26, Tryd.ntmps26
  refine ve_go ?_
  simp only [List.map_cons, List.map_nil]
  refine vseq ?_
  apply vrp
  · apply VE.cons
    · exact ev_alloc rfl rfl (gn rfl) Tryd.zeroValue29
    simp only [nm, seval]
    exact VE.nil _
  · kernel_rfl
  change VOk _ _ _ _ _
  refine vseq ?_
  apply vrp
  · apply VE.cons
    · exact ev_move rfl (gn rfl)
    simp only [nm, seval]
    apply VE.cons
    · exact ev_convsb8 rfl rfl (gn rfl) rfl Tryd.underlying9 Tryd.underlying26 Tryd.underlying5 hm h8
    simp only [nm, seval]
    apply VE.cons
    · exact ev_build2 (n := b.length) (size := 1) (l := b.map b8) rfl (gn rfl) rfl rfl (rdg_row rfl) (fun p m q => built29 12 p m q)
    simp only [nm, seval]
    apply VE.cons
    · exact ev_storeR (vl := [.v (.int .i64 12), .d 4, .v (.slice none 0 0)]) [2, 4] rfl (gn rfl) rfl rfl rfl Tryd.sizeOf29 rfl (fun ρ S w' _ hR => ⟨agg_cells _, by have hh := row_cells (id := 4) hR (by simp) rfl; simp only [SV.cs, SV.c, List.all_cons, List.all_nil, hh.2]; rfl⟩) rfl (by simp)
    simp only [nm, seval]
    exact VE.nil _
  · kernel_rfl
  change VOk _ _ _ _ _
  refine vret ?_
  refine post_ret (res1 Tryd.results26 (rv_cella rfl rfl Tryd.underlying29 rfl Tryd.sizeOf29 rfl)) ?_
  intro ρ w' hr
  refine ⟨_, rfl, ?_, hr.1⟩
  have := node_leaf (t := 12) (b := b) 4 hr rfl
  simpa [SV.c, SV.cs] using this
theorem ev_buildslice_s {P : Program} {w0 : World} {ops : Array Oper} {o : Oper} {s : VS} {ty e : TypeId} {len size : Nat} {parts : Array (Nat × Operand)} {pl : List (Nat × Value)} {l : List Value} {id : Nat} (_hd : o.dst = some id) (ho : o.op = .buildSlice ty len parts) (hgd : Want ops o s)
    (hx : unVP (parts.toList.map fun x => (x.1, svEval s x.2)) = some pl) (hl : l.length = len * size) (hm : len ≤ maxLen)
    (hb : ∀ w, (Instr.buildSlice ty len pl.toArray).run P w = .ok (.slice (some ⟨w.heap.size, 0, none⟩) len len) (w.alloc (.cells l.toArray e))) : Ev P ops w0 o s ⟨.d id, [(id, .row len size e (.exact l))], [], [id], []⟩ :=
  ⟨by simp [Eff.ok], .inr ⟨hgd, fun ρ S w hb0 hR => .inl ⟨.slice (some ⟨w.heap.size, 0, none⟩) len len, w.alloc (.cells l.toArray e), by
    have h1 : (parts.map fun (i, x) => (i, (s.act ρ).eval x)) = pl.toArray := by
      rw [← Array.toList_inj, ← unVP_eq hx ρ]
      simp only [Array.toList_map, List.map_map]
      exact List.map_congr_left fun x _ => by simp only [Function.comp_apply, svEval_c]
    simp only [execOp, ho]
    rw [h1, Sem.run_bind, hb w]
    rfl, _, _, by
    have := out_row (t := s.mem) (ρ := ρ) (S := S) (val := .d id) (rd := []) (id := id) (n := len) (size := size) (ty := e) (l := l) (w := w) (w' := w.alloc (.cells l.toArray e)) (v := .slice (some ⟨w.heap.size, 0, none⟩) len len) (g := w.heap.size) hb0.size
      ⟨rfl, rfl, rfl, by simp, fun k hk => heap_alloc_old w _ hk⟩ (by omega) (.inr ⟨0, len, l.toArray, (0, 0), rfl, Nat.le_refl _, heap_alloc_new w _, .inl rfl, Nat.le_refl _, hm, by simp [hl], by simp [← hl]⟩)
    simpa [SV.c] using this⟩⟩⟩
theorem eqnil27_t (n c : Nat) (p q : Operand) (w : World) : (do eqGuard .eql 27 p q (.slice none n c) (.slice none 0 0); binOp .eql 27 (.slice none n c) (.slice none 0 0) : Sem Value).run Tryd.prog w = .ok (.bool true) w := by
  go_simp
  exact Go.Lib.run_eql_slice_nil_nil w n c Tryd.underlying27
theorem eqnil27_f (a : Addr) (n c : Nat) (p q : Operand) (w : World) : (do eqGuard .eql 27 p q (.slice (some a) n c) (.slice none 0 0); binOp .eql 27 (.slice (some a) n c) (.slice none 0 0) : Sem Value).run Tryd.prog w = .ok (.bool false) w := by
  go_simp
  exact Go.Lib.run_eql_slice_some_nil w a n c Tryd.underlying27
theorem clonen_n {n c : Nat} (w : World) : Calls Tryd.prog 34 #[.slice none n c] w fun e w' => ∃ v, e = .returned v ∧ RetRow w w' v (0) 3 29 ([]) ∧ Bw w w' := by
  go_enter Tryd.func34, Tryd.ntmps34
  refine ve_go ?_
  simp only [List.map_cons, List.map_nil]
  refine vseq ?_
  apply vrp
  · apply VE.cons
    · exact ev_assign rfl (gn rfl)
    simp only [nm, seval]
    exact VE.nil _
  · kernel_rfl
  change VOk _ _ _ _ _
  refine vseq ?_
  refine vseq ?_
  apply vrp
  · apply VE.cons
    · exact ev_move rfl (gn rfl)
    simp only [nm, seval]
    apply VE.cons
    · exact ev_bin (c := .bool true) rfl (gn rfl) rfl rfl (fun w => eqnil27_t _ _ _ _ w)
    simp only [nm, seval]
    exact VE.nil _
  · kernel_rfl
  change VOk _ _ _ _ _
  refine vcond_t rfl ?_
  refine vseq ?_
  apply vrp
  · apply VE.cons
    · exact ev_assign rfl (gn rfl)
    simp only [nm, seval]
    exact VE.nil _
  · kernel_rfl
  change VOk _ _ _ _ _
  refine vret ?_
  refine post_ret (res1 Tryd.results34 (rv_tmp rfl)) ?_
  intro ρ w' hr
  exact ⟨_, rfl, ret_nil _ _ _ _, hr.1⟩
theorem clonen_s {a : Addr} {n c : Nat} {cs : List Value} {S : Nat → Prop} (w : World) (hv : SlAt w (.slice (some a) n c) n 3 cs S) (hone : cs.all (·.oneCell') = true) (hm : n ≤ 1048576) : Calls Tryd.prog 34 #[.slice (some a) n c] w fun e w' => ∃ v, e = .returned v ∧ RetRow w w' v (n) 3 29 (cs) ∧ Bw w w' := by
  go_enter Tryd.func34, Tryd.ntmps34
  refine ve_go ?_
  simp only [List.map_cons, List.map_nil]
  refine vseq ?_
  apply vrp
  · apply VE.cons
    · exact ev_assign rfl (gn rfl)
    simp only [nm, seval]
    exact VE.nil _
  · kernel_rfl
  change VOk _ _ _ _ _
  refine vseq ?_
  refine vseq ?_
  apply vrp
  · apply VE.cons
    · exact ev_move rfl (gn rfl)
    simp only [nm, seval]
    apply VE.cons
    · exact ev_bin (c := .bool false) rfl (gn rfl) rfl rfl (fun w => eqnil27_f _ _ _ _ _ w)
    simp only [nm, seval]
    exact VE.nil _
  · kernel_rfl
  change VOk _ _ _ _ _
  refine vcond_f rfl ?_
  refine vskip ?_
  change VOk _ _ _ _ _
  refine vseq ?_
  apply vrp
  · apply VE.cons
    · exact ev_buildslice_s rfl rfl (gn rfl) rfl (size := 3) (e := 29) (l := []) rfl (by decide) (fun _ => by kernel_rfl)
    simp only [nm, seval]
    apply VE.cons
    · exact ev_move rfl (gn rfl)
    simp only [nm, seval]
    apply VE.cons
    · exact ev_append (n := 0) (size := 3) rfl rfl (gn rfl) rfl rfl rfl (rdg_arg hv) Tryd.underlying27 el29 (by decide) rfl hone (by simp only [maxLen]; omega) (by omega) (by have := len_lt hv (by decide) True.intro; omega)
    simp only [nm, seval]
    apply VE.cons
    · exact ev_assign rfl (gn rfl)
    simp only [nm, seval]
    exact VE.nil _
  · kernel_rfl
  change VOk _ _ _ _ _
  refine vret ?_
  refine post_ret (res1 Tryd.results34 (rv_tmp rfl)) ?_
  intro ρ w' hr
  refine ⟨(ρ 7).val, rfl, ?_, hr.1⟩
  have := ret_row (id := 7) hr rfl
  simpa using this
theorem clonen_ok {v : Value} {n : Nat} {cs : List Value} {S : Nat → Prop} (w : World) (hv : SlAt w v n 3 cs S) (hone : cs.all (·.oneCell') = true) (hm : n ≤ 1048576) : Calls Tryd.prog 34 #[v] w fun e w' => ∃ v, e = .returned v ∧ RetRow w w' v (n) 3 29 (cs) ∧ Bw w w' := by
  have hv' := hv
  obtain ⟨ao, cap, rfl, h1, h2, h3⟩ := hv'
  cases ao with
  | none =>
    have : cs = [] := by
      rcases h3 with h3 | ⟨a, h3, _⟩
      · exact h3
      · cases h3
    subst this
    have : n = 0 := by simp at h2; omega
    subst this
    exact clonen_n w
  | some a => exact clonen_s w hv hone hm
theorem Of_ok {t : Int} {v : Value} {n : Nat} {cs : List Value} {S : Nat → Prop} (w : World) (hv : SlAt w v n 3 cs S) (hone : cs.all (·.oneCell') = true) (hm : n ≤ 1048576) : Calls Tryd.prog 17 #[.int .i64 t, v] w fun e w' => ∃ v, e = .returned (.agg #[.int .i64 t, .slice none 0 0, v]) ∧ RetRow w w' v n 3 29 cs ∧ Bw w w' := by
  go_enter Tryd.func17, Tryd.ntmps17
  refine ve_go ?_
  simp only [List.map_cons, List.map_nil]
  refine vseq ?_
  apply vrp
  · apply VE.cons
    · exact ev_alloc rfl rfl (gn rfl) Tryd.zeroValue29
    simp only [nm, seval]
    exact VE.nil _
  · kernel_rfl
  change VOk _ _ _ _ _
  refine vseq ?_
  apply vrp
  · apply VE.cons
    · exact ev_move rfl (gn rfl)
    simp only [nm, seval]
    apply VE.cons
    · exact ev_move rfl (gn rfl)
    simp only [nm, seval]
    apply VE.cons
    · exact ev_callrow [] rfl rfl (gn rfl) rfl (en_of Tryd.func34 (by kernel_rfl) rfl) (n := n) (size := 3) (l := cs) (len_lt hv (by decide) True.intro) (fun ρ S w' hb _ => clonen_ok w' (sl_bw hv hb) hone hm)
    simp only [nm, seval]
    apply VE.cons
    · exact ev_build02 (n := n) (size := 3) (l := cs) rfl (gn rfl) rfl rfl (rdg_row rfl) (fun p m q => built29k t p m q)
    simp only [nm, seval]
    apply VE.cons
    · exact ev_storeR (vl := [.v (.int .i64 t), .v (.slice none 0 0), .d 7]) [4, 7] rfl (gn rfl) rfl rfl rfl Tryd.sizeOf29 rfl (fun ρ S w' _ hR => ⟨agg_cells _, by have hh := row_cells (id := 7) hR (by simp) rfl; simp only [SV.cs, SV.c, List.all_cons, List.all_nil, hh.2]; rfl⟩) rfl (by simp)
    simp only [nm, seval]
    exact VE.nil _
  · kernel_rfl
  change VOk _ _ _ _ _
  refine vret ?_
  refine post_ret (res1 Tryd.results17 (rv_cella rfl rfl Tryd.underlying29 rfl Tryd.sizeOf29 rfl)) ?_
  intro ρ w' hr
  exact ⟨(ρ 7).val, by simp [SV.c, SV.cs], ret_row (id := 7) hr rfl, hr.1⟩
theorem cells_get {w : World} {ρ : Nat → Nm} {l : List SV} {ty : TypeId} {g i : Nat} {x : Value} (hg : w.heap[g]? = some (cellsObj ρ l ty)) (hx : (SV.cs ρ l)[i]? = some x) : w.cell? ((⟨g, 0, none⟩ : Addr).add i) = some x := by
  rw [cs_map, List.getElem?_map] at hx
  cases h : l[i]? with
  | none => rw [h] at hx; cases hx
  | some y => rw [h] at hx; simp only [Option.map_some, Option.some.injEq] at hx; rw [← hx, add_at, Nat.zero_add]; exact cell_own hg h
def dT : Tr := .mk 48 [] [.mk 2 [5] [], .mk 12 [97, 98] []]
theorem dT_ok : dT.ok := by
  simp [dT, Tr.ok, oks]
def ofV (t : Int) (v : Value) : Value := .agg #[.int .i64 t, .slice none 0 0, v]
/-- two nodes that were made, in a slice: what Of makes of them. -/
theorem of_two {ρ : Nat → Nm} {S : Nat → Nat → Prop} {w w0 : World} {m : Mem} {rd : List Nat} {i j q : Nat} {t1 t2 : Tr} {bt : TypeId} (hR : RelOn w0.heap.size ρ S w (restr rd m)) (hi : i ∈ rd) (hj : j ∈ rd) (hq : q ∈ rd) (h1 : m i = some (.dat (datN t1))) (h2 : m j = some (.dat (datN t2)))
    (h3 : m q = some (.cells ([.fn (cellV 0) (.d i), .fn (cellV 1) (.d i), .fn (cellV 2) (.d i)] ++ [.fn (cellV 0) (.d j), .fn (cellV 1) (.d j), .fn (cellV 2) (.d j)]) bt)) (t : Int) :
    Calls Tryd.prog 17 #[.int .i64 t, .slice (some ⟨(ρ q).g, 0, none⟩) 2 2] w fun e w' => ∃ v l S', e = .returned (ofV t v) ∧ l.length = 2 * 3 ∧ RetRow w w' v 2 3 29 l ∧ (datNs [t1, t2]).holds l w S' ∧ (∀ k, S' k → ∃ j ∈ rd, (m j).isSome ∧ S j k) ∧ Bw w w' := by
  obtain ⟨c1, e1, d1⟩ := datN_get hR hi h1
  obtain ⟨c2, e2, d2⟩ := datN_get hR hj h2
  have f1 := (fn3 e1 (DN_len d1)).2
  have f2 := (fn3 e2 (DN_len d2)).2
  have hc : SV.cs ρ ([.fn (cellV 0) (.d i), .fn (cellV 1) (.d i), .fn (cellV 2) (.d i)] ++ [.fn (cellV 0) (.d j), .fn (cellV 1) (.d j), .fn (cellV 2) (.d j)]) = c1 ++ c2 := by
    rw [← f1, ← f2]; simp [cs_map]
  have hs : SlAt w (.slice (some ⟨(ρ q).g, 0, none⟩) 2 2) 2 3 (c1 ++ c2) (fun _ => True) := by
    have hg := (relon_get hR h3 hq).2
    refine ⟨_, _, rfl, Nat.le_refl _, by rw [List.length_append, DN_len d1, DN_len d2], .inr ⟨_, rfl, True.intro, fun i x hx => ?_⟩⟩
    rw [← hc] at hx
    exact cells_get hg hx
  have hone : (c1 ++ c2).all (·.oneCell') = true := by rw [List.all_append, DN_one d1, DN_one d2]; rfl
  refine (Of_ok (t := t) w hs hone (by decide)).mono fun e w' ⟨v, a1, a2, a3⟩ => ⟨v, c1 ++ c2, fun k => S i k ∨ S j k, a1, by rw [List.length_append, DN_len d1, DN_len d2], a2, ?_, ?_, a3⟩
  · show DNs w _ [t1, t2] (c1 ++ c2)
    simp only [DNs]
    exact ⟨c1, c2, rfl, DN_sub (fun k hk => .inl hk) d1, c2, [], by simp, DN_sub (fun k hk => .inr hk) d2, rfl⟩
  · rintro k (hk | hk)
    · exact ⟨i, hi, by rw [h1]; rfl, hk⟩
    · exact ⟨j, hj, by rw [h2]; rfl, hk⟩
theorem ders_ok (w : World) : Calls Tryd.prog 14 #[] w fun e w' => e = .returned (.bool true) ∧ Bw w w' := by
  go_enter Tryd.func14, Tryd.ntmps14
  refine ve_go ?_
  simp only [List.map_cons, List.map_nil]
  refine vseq ?_
  apply vrp
  · apply VE.cons
    · exact ev_assign rfl (gn rfl)
    simp only [nm, seval]
    exact VE.nil _
  · kernel_rfl
  change VOk _ _ _ _ _
  refine vseq ?_
  apply vrp
  · apply VE.cons
    · exact ev_calld (D := datN (.mk 2 [5] [])) [] rfl rfl (gn rfl) rfl (en_of Tryd.func24 (by kernel_rfl) rfl) (fun ρ S w' hb _ => Num_ok 5 (by decide) w')
    simp only [nm, seval]
    apply VE.cons
    · exact ev_calld (D := datN (.mk 12 [97, 98] [])) [] rfl rfl (gn rfl) rfl (en_of Tryd.func26 (by kernel_rfl) rfl) (fun ρ S w' hb _ => Word_ok (b := [97, 98]) (by simp) (by simp [maxLen]) w')
    simp only [nm, seval]
    apply VE.cons
    · exact ev_buildsl2 (n := 3) (l := [.fn (cellV 0) (.d 4), .fn (cellV 1) (.d 4), .fn (cellV 2) (.d 4)]) (l2 := [.fn (cellV 0) (.d 5), .fn (cellV 1) (.d 5), .fn (cellV 2) (.d 5)]) [4, 5] rfl rfl (gn rfl) rfl rfl (fun ρ S w' hR => by obtain ⟨c1, e1, d1⟩ := datN_get (id := 4) hR (by simp) rfl; obtain ⟨c2, e2, d2⟩ := datN_get (id := 5) hR (by simp) rfl; exact ⟨(fn3 e1 (DN_len d1)).1, (fn3 e2 (DN_len d2)).1⟩) rfl rfl rfl bs29_2
    simp only [nm, seval]
    apply VE.cons
    · exact ev_callrowD (n := 2) (size := 3) (ty := 29) (datNs [.mk 2 [5] [], .mk 12 [97, 98] []]) (ofV 48) [6, 4, 5] rfl rfl (gn rfl) rfl (en_of Tryd.func17 (by kernel_rfl) rfl) (fun ρ S w' hb hR => of_two (i := 4) (j := 5) (q := 6) hR (by simp) (by simp) (by simp) rfl rfl rfl 48)
    simp only [nm, seval]
    apply VE.cons
    · exact ev_callrowt [7] rfl rfl (gn rfl) rfl (en_of Tryd.func12 (by kernel_rfl) rfl) (n := 9) (size := 1) (ty := 5) (l := [48, 7, 2, 1, 5, 12, 2, 97, 98].map b8) (y := .int .i64 0) rfl (fun ρ S w' hb hR => by obtain ⟨S', hd⟩ := node_row (t := 48) (ks := [.mk 2 [5] [], .mk 12 [97, 98] []]) (id := 7) hR (by simp) rfl; have := Write_t (t := dT) w' dT_ok hd (by decide) (by decide) (by decide); exact this)
    simp only [nm, seval]
    apply VE.cons
    · exact ev_move rfl (gn rfl)
    simp only [nm, seval]
    apply VE.cons
    · first | exact ev_extract rfl (gn rfl) rfl rfl | exact ev_extractt rfl (gn rfl) rfl rfl
    simp only [nm, seval]
    apply VE.cons
    · first | exact ev_extract rfl (gn rfl) rfl rfl | exact ev_extractt rfl (gn rfl) rfl rfl
    simp only [nm, seval]
    apply VE.cons
    · exact ev_assign rfl (gn rfl)
    simp only [nm, seval]
    apply VE.cons
    · exact ev_assign rfl (gn rfl)
    simp only [nm, seval]
    exact VE.nil _
  · kernel_rfl
  change VOk _ _ _ _ _
  refine vseq ?_
  apply vrp
  · apply VE.cons
    · exact ev_move rfl (gn rfl)
    simp only [nm, seval]
    apply VE.cons
    · exact ev_eql (p := true) rfl (gn rfl) rfl rfl (by decide)
    simp only [nm, seval]
    apply VE.cons
    · exact ev_move rfl (gn rfl)
    simp only [nm, seval]
    apply VE.cons
    · first | exact Ev.skip (fun _ => rfl) | exact ev_move rfl (fun _ => rfl)
    simp only [nm, seval]
    apply VE.cons
    · first | exact Ev.skip (fun _ => rfl) | exact ev_convb (bs := [48, 7, 2, 1, 5, 12, 2, 97, 98]) rfl (fun _ => rfl) rfl Tryd.underlying26 Tryd.underlying5 Tryd.underlying9 (rdg_row rfl)
    simp only [nm, seval]
    apply VE.cons
    · first | exact Ev.skip (fun _ => rfl) | exact ev_bin (c := .bool true) rfl (fun _ => rfl) rfl rfl (fun w => str_is (a := [48, 7, 2, 1, 5, 12, 2, 97, 98]) (b := [48, 7, 2, 1, 5, 12, 2, 97, 98]) (by decide) (by decide) (by decide) _ _ w)
    simp only [nm, seval]
    apply VE.cons
    · first | exact ev_pick_t rfl (gn rfl) rfl rfl | exact ev_pick_f rfl (gn rfl) rfl rfl
    simp only [nm, seval]
    apply VE.cons
    · exact ev_assign rfl (gn rfl)
    simp only [nm, seval]
    exact VE.nil _
  · kernel_rfl
  change VOk _ _ _ _ _
  refine vret ?_
  refine post_ret (res1 Tryd.results14 (rv_tmp rfl)) ?_
  intro ρ w' hr
  exact ⟨rfl, hr.1⟩
end Go.Proofs.YtmgmiiongleaeaaDoor
