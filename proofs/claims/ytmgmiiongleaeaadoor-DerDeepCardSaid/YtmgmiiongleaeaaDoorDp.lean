import Derived.Test.YtmgmiiongleaeaaDoorDn
namespace Go.Proofs.YtmgmiiongleaeaaDoor
open Go.RowKit Go.Vx
open Go.Toll (Gw)
set_option maxHeartbeats 4000000
set_option maxRecDepth 100000
/-! ### more operations -/
theorem ev_max {P : Program} {w0 : World} {ops : Array Oper} {o : Oper} {s : VS} {t : Array TypeId} {x y : Operand} {a b c : Int} (ho : o.op = .call { callee := .builtin .max, args := #[x, y], argTypes := t }) (hgd : Want ops o s) (hx : svEval s x = .v (.int .i64 a)) (hy : svEval s y = .v (.int .i64 b)) (hc : max a b = c) :
    Ev P ops w0 o s ⟨.v (.int .i64 c), [], [], [], []⟩ :=
  Ev.run _ _ hgd fun ρ S w hb hR => by
    have e1 := svEval_c s ρ x
    rw [hx] at e1
    have e2 := svEval_c s ρ y
    rw [hy] at e2
    simp only [SV.c] at e1 e2
    subst hc
    unfold execOp
    simp only [ho, resolve, invoke, builtin, Sem.run_bind, Sem.run_pure, Result.andThen_ok, List.map_toArray, List.map_cons, List.map_nil, e1, e2, SV.c]
    by_cases h : a ≤ b
    · simp [Builtin.max_, Builtin.max2, Int.max_eq_right h]
      omega
    · simp [Builtin.max_, Builtin.max2, Int.max_eq_left (by omega : b ≤ a)]
      omega
/-- a call that hands back a row whose content hangs on what it was handed. -/
theorem ev_callrowD {P : Program} {w0 : World} {ops : Array Oper} {o : Oper} {s : VS} {f : FuncId} {xs : Array Operand} {ats : Array TypeId} {vs : List SV} {id n size : Nat} {ty : TypeId} (D : Dat) (g : Value → Value) (rd : List Nat) (_hd : o.dst = some id) (ho : o.op = .call { callee := .value (.func f), args := xs, argTypes := ats }) (hgd : Want ops o s)
    (hx : xs.toList.map (svEval s) = vs) (he : ∀ args w, (callFunc f args).run P w = .ok (.enter f args) w)
    (hc : ∀ ρ S w, Bw w0 w → RelOn w0.heap.size ρ S w (restr rd s.mem) → Calls P f (SV.cs ρ vs).toArray w fun e w' => ∃ v l S', e = .returned (g v) ∧ l.length = n * size ∧ RetRow w w' v n size ty l ∧ D.holds l w S' ∧ (∀ k, S' k → ∃ j ∈ rd, (s.mem j).isSome ∧ S j k) ∧ Bw w w') : Ev P ops w0 o s ⟨.fn g (.d id), [(id, .row n size ty D)], [], [id], rd⟩ :=
  ⟨by simp [Eff.ok], .inr ⟨hgd, fun ρ S w hb hR => .inr (.inr ⟨f, (SV.cs ρ vs).toArray, by
    obtain ⟨dst, op, type, pos, after, guard⟩ := o
    simp only at ho
    subst ho
    rw [execOp_call_go, args_p, hx, ← cs_map]
    simpa using he (SV.cs ρ vs).toArray w, (hc ρ S w hb hR).mono fun e w' ⟨v, l, S', h1, hl, ⟨q, h2⟩, h3, h4, h5⟩ => ⟨_, h1, _, _, by
      have hin : ∀ j, j ∈ rd → restr rd s.mem j = s.mem j := fun j hj => by unfold restr; rw [if_pos hj]
      have hlt : ∀ k, S' k → k < w.heap.size := fun k hk => by
        obtain ⟨j, h6, h7, h8⟩ := h4 k hk
        exact hR.lt j k (by rw [hin j h6]; exact h7) h8
      have := out_new (base := w0.heap.size) (t := s.mem) (ρ := ρ) (S := S) (w := w) (w' := w') (val := .fn g (.d id)) (rd := rd) (up := []) (id := id) (b := .row n size ty D) (m := ⟨q, v⟩) (S1 := S')
        h5.os h5.tape h5.output h5.size (fun k hk _ => h5.block k hk) (fun ρ' g1 _ => ⟨l, hl, D.keep h3 (fun k hk => h5.block k (hlt k hk)), by
          rw [g1]
          rcases h2 with h2 | ⟨off, cap, cur, fz, a1, a2, a3⟩
          · exact .inl h2
          · exact .inr ⟨off, cap, cur, fz, a1, Nat.le_trans hb.size a2, a3⟩⟩) (fun k hk => .inl (h4 k hk))
        (fun hob => .inr (by
          rcases h2 with ⟨h2, _⟩ | ⟨off, cap, cur, fz, a1, a2, a3⟩
          · exact absurd h2 hob
          · exact ⟨a2, fun h => Nat.lt_irrefl _ (Nat.lt_of_lt_of_le (hlt _ h) a2)⟩))
      simpa [SV.c] using this⟩⟩)⟩⟩
/-- two values of some cells in a slice of their own. -/
theorem ev_buildsl2 {P : Program} {w0 : World} {ops : Array Oper} {o : Oper} {s : VS} {ty e : TypeId} {x y : Operand} {n id : Nat} {sv sv2 : SV} {l l2 : List SV} (rd : List Nat) (_hd : o.dst = some id) (ho : o.op = .buildSlice ty 2 #[(0, x), (1, y)]) (hgd : Want ops o s)
    (hx : svEval s x = sv) (hy : svEval s y = sv2) (hc : ∀ ρ S w, RelOn w0.heap.size ρ S w (restr rd s.mem) → (sv.c ρ).cells.toList = SV.cs ρ l ∧ (sv2.c ρ).cells.toList = SV.cs ρ l2) (hn : l.length = n) (hn2 : l2.length = n) (hid : SV.hasL id (l ++ l2) = false)
    (hb : ∀ v u w, v.cells.size = n → u.cells.size = n → (Instr.buildSlice ty 2 #[(0, v), (1, u)]).run P w = .ok (.slice (some ⟨w.heap.size, 0, none⟩) 2 2) (w.alloc (.cells (v.cells ++ u.cells) e))) : Ev P ops w0 o s ⟨.s id 0 2 2, [(id, .cells (l ++ l2) e)], [], [id], rd⟩ :=
  ⟨by simp [Eff.ok], .inr ⟨hgd, fun ρ S w hbw hR => by
    have e0 := svEval_c s ρ x
    rw [hx] at e0
    have e1 := svEval_c s ρ y
    rw [hy] at e1
    obtain ⟨hcs, hcs2⟩ := hc ρ S w hR
    have hsz : (sv.c ρ).cells.size = n := by rw [← Array.length_toList, hcs, cs_map, List.length_map]; exact hn
    have hsz2 : (sv2.c ρ).cells.size = n := by rw [← Array.length_toList, hcs2, cs_map, List.length_map]; exact hn2
    have hcells : (sv.c ρ).cells ++ (sv2.c ρ).cells = (SV.cs ρ (l ++ l2)).toArray := by apply Array.ext'; rw [Array.toList_append, hcs, hcs2]; simp [cs_map]
    have hrun := hb _ _ w hsz hsz2
    rw [hcells] at hrun
    refine .inl ⟨.slice (some ⟨w.heap.size, 0, none⟩) 2 2, w.alloc (.cells (SV.cs ρ (l ++ l2)).toArray e), ?_, fun j => if j = id then ⟨w.heap.size, undef⟩ else ρ j, fun _ _ => False, ?_⟩
    · simp only [execOp, ho, List.map_toArray, List.map_cons, List.map_nil, e0, e1]
      rw [Sem.run_bind, hrun]
      rfl
    · have := out_new (base := w0.heap.size) (t := s.mem) (ρ := ρ) (S := S) (w := w) (w' := w.alloc (.cells (SV.cs ρ (l ++ l2)).toArray e)) (val := .s id 0 2 2) (rd := rd) (up := []) (id := id) (b := .cells (l ++ l2) e) (m := ⟨w.heap.size, undef⟩) (S1 := fun _ => False)
        rfl rfl rfl (by simp) (fun k hk _ => heap_alloc_old w _ hk) (fun ρ' g1 g2 => by
          refine ⟨by rw [g1]; exact hbw.size, ?_⟩
          rw [g1]
          simp only [cellsObj]
          rw [cs_upd (nw := [id]) (fun i hi => g2 i (by simpa using hi)) (fun i hi => by simp at hi; rw [hi]; exact hid)]
          exact heap_alloc_new w _) (fun _ h => h.elim) (fun _ => .inr ⟨Nat.le_refl _, fun h => h⟩)
      simpa [SV.c] using this⟩⟩
theorem ev_build02 {P : Program} {w0 : World} {ops : Array Oper} {o : Oper} {s : VS} {ty : TypeId} {x y : Operand} {a c : Value} {sy : SV} {n size : Nat} {l : List Value} {rd : List Nat} (ho : o.op = .build ty #[(0, x), (2, y)]) (hgd : Want ops o s)
    (hx : svEval s x = .v a) (hy : svEval s y = sy) (hr : Rdg w0 s.mem rd sy n size l) (hb : ∀ p m q, P.built ty [(0, a), (2, .slice p m q)] = some #[a, c, .slice p m q]) : Ev P ops w0 o s ⟨.agg [.v a, .v c, sy], [], [], [], rd⟩ :=
  Ev.run _ _ hgd fun ρ S w hbw hR => by
    have e0 := svEval_c s ρ x
    rw [hx] at e0
    have e1 := svEval_c s ρ y
    rw [hy] at e1
    obtain ⟨_, ao, cap, h1, _⟩ := hr ρ S w hbw hR
    rw [h1] at e1
    simp only [execOp, ho, List.map_toArray, List.map_cons, List.map_nil, e0, e1, SV.c]
    rw [Sem.run_bind, run_build w ty _ #[a, c, .slice ao n cap] (hb _ _ _)]
    simp [SV.c, SV.cs, h1]
theorem built29k (t : Int) (p : Option Addr) (m q : Nat) : Tryd.prog.built 29 [(0, .int .i64 t), (2, .slice p m q)] = some #[.int .i64 t, .slice none 0 0, .slice p m q] := by kernel_rfl
theorem bs29_2 (v u : Value) (w : World) (h : v.cells.size = 3) (h2 : u.cells.size = 3) : (Instr.buildSlice 27 2 #[(0, v), (1, u)]).run Tryd.prog w = .ok (.slice (some ⟨w.heap.size, 0, none⟩) 2 2) (w.alloc (.cells (v.cells ++ u.cells) 29)) := by
  obtain ⟨a, b, c, hl⟩ := list3 (l := v.cells.toList) (by simpa using h)
  obtain ⟨a', b', c', hl2⟩ := list3 (l := u.cells.toList) (by simpa using h2)
  have hl' : v.cells = #[a, b, c] := by apply Array.ext'; rw [hl]
  have hl2' : u.cells = #[a', b', c'] := by apply Array.ext'; rw [hl2]
  have hz : ∀ w, (zeroValue 29).run Tryd.prog w = .ok (.agg #[.int .i64 0, .slice none 0 0, .slice none 0 0]) w := Tryd.zeroValue29
  have hs : ∀ w, (Go.sizeOf 29).run Tryd.prog w = .ok 3 w := Tryd.sizeOf29
  unfold Instr.buildSlice
  have hzc : Value.cells (.agg #[.int .i64 0, .slice none 0 0, .slice none 0 0]) = #[.int .i64 0, .slice none 0 0, .slice none 0 0] := rfl
  have hr : Array.range 6 = #[0, 1, 2, 3, 4, 5] := by decide
  simp [run_underlying Tryd.underlying27, hs, hz, Instr.fill, hl', hl2', hzc, newRow, newObj, hr]
  rfl
theorem ret_datN {w0 w : World} {s : VS} {ρ : Nat → Nm} (id : Nat) {t : Tr} (hr : Rel w0 ρ s w) (hm : s.mem id = some (.dat (datN t))) : RetD w0 w (.agg (SV.cs ρ [.fn (cellV 0) (.d id), .fn (cellV 1) (.d id), .fn (cellV 2) (.d id)]).toArray) (datN t) := by
  obtain ⟨hb, S, hR⟩ := hr
  obtain ⟨c, h1, h2⟩ := hR.good id _ hm
  simp only [List.cons.injEq, and_true] at h1
  rw [(fn3 h1 (DN_len h2)).2]
  exact ⟨S id, ⟨c, rfl, h2⟩, fun k hk => ⟨hR.fr id k (by rw [hm]; rfl) hk, hR.lt id k (by rw [hm]; rfl) hk⟩⟩
theorem node_leaf {w0 w : World} {s : VS} {ρ : Nat → Nm} (i : Nat) {t : Int} {b : List Nat} (hr : Rel w0 ρ s w) (h1 : s.mem i = some (.row b.length 1 5 (.exact (b.map b8)))) :
    RetD w0 w (.agg #[.int .i64 t, (ρ i).val, .slice none 0 0]) (datN (.mk t b [])) := by
  obtain ⟨hb, S, hR⟩ := hr
  obtain ⟨xs, e1, e2, e3⟩ := hR.good i _ h1
  have e2' : xs = b.map b8 := e2
  subst e2'
  refine ⟨fun k => w0.heap.size ≤ k ∧ k < w.heap.size, ⟨[.int .i64 t, (ρ i).val, .slice none 0 0], rfl, ?_⟩, fun k hk => hk⟩
  simp only [DN, DNs]
  refine ⟨_, _, [], rfl, ?_, ⟨none, 0, rfl, Nat.le_refl _, rfl, .inl rfl⟩, rfl⟩
  have hs := row_sl e3 e1
  rcases e3 with ⟨g1, g2⟩ | ⟨off, cap, cur, fz, g1, g2, g3, _⟩
  · obtain ⟨ao, cap, a1, a2, a3, a4⟩ := hs
    refine ⟨ao, cap, a1, a2, a3, .inl ?_⟩
    exact List.eq_nil_of_length_eq_zero (by rw [e1, g2])
  · exact sl_sub hs fun k hk => by subst hk; exact ⟨g2, (Array.getElem?_eq_some_iff.1 g3).1⟩
/-- a node of a row of nodes. -/
theorem node_row {w : World} {base : Nat} {ρ : Nat → Nm} {S : Nat → Nat → Prop} {m : Mem} {rd : List Nat} {id : Nat} {t : Int} {ks : List Tr} (hR : RelOn base ρ S w (restr rd m)) (hid : id ∈ rd) (hm : m id = some (.row ks.length 3 29 (datNs ks))) :
    ∃ S', DN w S' (.mk t [] ks) [.int .i64 t, .slice none 0 0, (ρ id).val] := by
  obtain ⟨ys, f1, f2, f3⟩ := relon_get hR hm hid
  refine ⟨fun _ => True, ?_⟩
  simp only [DN]
  exact ⟨_, _, ys, rfl, ⟨none, 0, rfl, Nat.le_refl _, rfl, .inl rfl⟩, sl_sub (row_sl f3 f1) fun _ _ => True.intro, DNs_sub (fun _ _ => True.intro) f2⟩
/-! ### TrimLeft -/
def trimL (bs : List Nat) : List Nat := bs.dropWhile (· == 0)
def trimV : Value → List Nat → Value
  | _, [] => .slice none 0 0
  | v, b :: r => bif decide (b = 0) then trimV (cutV 1 (r.length + 1) 1 v) r else v
theorem cut1 {w : World} {v : Value} {b : Nat} {r : List Nat} {S : Nat → Prop} (h : SlAt w v (b :: r).length 1 ((b :: r).map b8) S) : SlAt w (cutV 1 (r.length + 1) 1 v) r.length 1 (r.map b8) S := by
  have := sl_cut (lo := 1) (hi := r.length + 1) h (by omega) (by simp)
  have e : List.take r.length (List.map b8 r) = List.map b8 r := List.take_of_length_le (by simp)
  simpa [e] using this
theorem trim_sl {w : World} {S : Nat → Prop} : ∀ {bs : List Nat} {v : Value}, SlAt w v bs.length 1 (bs.map b8) S → SlAt w (trimV v bs) (trimL bs).length 1 ((trimL bs).map b8) S
  | [], v, h => ⟨none, 0, rfl, Nat.le_refl _, rfl, .inl rfl⟩
  | b :: r, v, h => by
    by_cases hb : b = 0
    · have e1 : trimL (b :: r) = trimL r := by simp [trimL, hb]
      have e2 : trimV v (b :: r) = trimV (cutV 1 (r.length + 1) 1 v) r := by simp [trimV, hb]
      rw [e1, e2]; exact trim_sl (cut1 h)
    · have e1 : trimL (b :: r) = b :: r := by simp [trimL, hb]
      have e2 : trimV v (b :: r) = v := by simp [trimV, hb]
      rw [e1, e2]; exact h
theorem trimL_len : ∀ bs : List Nat, (trimL bs).length ≤ bs.length
  | [] => Nat.le_refl _
  | b :: r => by
    have := trimL_len r
    by_cases hb : b = 0
    · have e1 : trimL (b :: r) = trimL r := by simp [trimL, hb]
      rw [e1, List.length_cons]; omega
    · have e1 : trimL (b :: r) = b :: r := by simp [trimL, hb]
      rw [e1]; exact Nat.le_refl _
theorem cons_of {l : List Nat} (h : l.length > 0) : ∃ b r, l = b :: r := by
  cases l with
  | nil => simp at h
  | cons b r => exact ⟨b, r, rfl⟩
theorem head_get {l : List Nat} (h : l.length > 0) : (l.map b8)[0]? = some (b8 (l.headD 0)) := by
  obtain ⟨b, r, rfl⟩ := cons_of h; rfl
theorem trimb_ok {v : Value} {bs : List Nat} {S : Nat → Prop} (w : World) (hv : SlAt w v bs.length 1 (bs.map b8) S) (_hm : bs.length ≤ maxLen) : Calls Tryd.prog 57 #[v, .int .u8 0] w fun e w' => e = .returned (trimV v bs) ∧ Bw w w' := by
  go_enter Tryd.func57, Tryd.ntmps57
  refine ve_go ?_
  simp only [List.map_cons, List.map_nil]
  refine vseq ?_
  apply vrp
  · apply VE.cons
    · exact ev_assign rfl (gn rfl)
    simp only [nm, seval]
    exact VE.nil _
  · kernel_rfl
  change VOk _ _ _ _ _
  refine vseq ?_
  refine vblock ?_
  refine vloop_w (α := {x : List Nat × Value // SlAt w x.2 x.1.length 1 (x.1.map b8) S ∧ trimV v bs = trimV x.2 x.1 ∧ x.1.length ≤ bs.length}) (fun (x : {x : List Nat × Value // SlAt w x.2 x.1.length 1 (x.1.map b8) S ∧ trimV v bs = trimV x.2 x.1 ∧ x.1.length ≤ bs.length}) f => ⟨[.v x.1.2, .v (.int .u8 0), .v (f 2), .v (f 3), .v (.slice none 0 0), .v (f 5), .v (f 6), .v (f 7), .v (f 8), .v (f 9), .v (f 10), .v (f 11), .v (f 12), .v (f 13), .v (f 14), .v (f 15), .v (f 16), .v (f 17), .v (f 18), .v (f 19), .v (f 20)], memOf []⟩) (fun x => x.1.1.length) ?_ (⟨(bs, v), hv, rfl, Nat.le_refl _⟩) ?_
  · rintro ⟨⟨bs', v'⟩, hv', hgo, hle⟩ f
    simp only at hv' hgo hle
    obtain ⟨q, h_q⟩ : ∃ q, decide (bs'.length > 0) = q := ⟨_, rfl⟩
    obtain ⟨q2, h_q2⟩ : ∃ q, decide (bs'.headD 0 = 0) = q := ⟨_, rfl⟩
    have h_q' := (nat_gt bs'.length 0).trans h_q
    have h_q2' := (nat_eq (bs'.headD 0) 0).trans h_q2
    cases q <;> cases q2 <;>
    (
      change VOk _ _ _ _ _
      refine vseq ?_
      refine vseq ?_
      apply vrp
      · apply VE.cons
        · exact ev_move rfl (gn rfl)
        simp only [nm, seval]
        apply VE.cons
        · exact ev_len rfl (gn rfl) rfl Tryd.underlying26 (rdg_arg hv')
        simp only [nm, seval]
        apply VE.cons
        · exact ev_gtr rfl (gn rfl) rfl rfl h_q'
        simp only [nm, seval]
        apply VE.cons
        · exact ev_move rfl (gn rfl)
        simp only [nm, seval]
        apply VE.cons
        · first | exact Ev.skip (fun _ => rfl) | exact ev_move rfl (fun _ => rfl)
        simp only [nm, seval]
        apply VE.cons
        · first | exact Ev.skip (fun _ => rfl) | exact ev_idx (k := 0) rfl (fun _ => rfl) rfl rfl Tryd.underlying26 Tryd.sizeOf5 (rdg_arg hv') (of_decide_eq_true h_q) (by decide)
        simp only [nm, seval]
        apply VE.cons
        · first | exact Ev.skip (fun _ => rfl) | exact ev_loadi rfl (fun _ => rfl) rfl Tryd.underlying5 rfl (rdg_arg hv') (head_get (of_decide_eq_true h_q))
        simp only [nm, seval]
        apply VE.cons
        · first | exact Ev.skip (fun _ => rfl) | exact ev_move rfl (fun _ => rfl)
        simp only [nm, seval]
        apply VE.cons
        · first | exact Ev.skip (fun _ => rfl) | exact ev_eql rfl (fun _ => rfl) rfl rfl h_q2'
        simp only [nm, seval]
        apply VE.cons
        · first | exact ev_pick_t rfl (gn rfl) rfl rfl | exact ev_pick_f rfl (gn rfl) rfl rfl
        simp only [nm, seval]
        exact VE.nil _
      · kernel_rfl
      change VOk _ _ _ _ _
      first
      | (
          refine vcond_t rfl ?_
          refine vskip ?_
          change VOk _ _ _ _ _
          refine vblock ?_
          apply vrp
          · apply VE.cons
            · exact ev_move rfl (gn rfl)
            simp only [nm, seval]
            apply VE.cons
            · exact ev_cutx (a := 1) (b := bs'.length) rfl (gn rfl) rfl Tryd.underlying26 Tryd.sizeOf5 (rdg_arg hv') rfl rfl (of_decide_eq_true h_q) (Nat.le_refl _) rfl
            simp only [nm, seval]
            apply VE.cons
            · exact ev_assign rfl (gn rfl)
            simp only [nm, seval]
            exact VE.nil _
          · kernel_rfl
          obtain ⟨b, r, rfl⟩ := cons_of (of_decide_eq_true h_q)
          have hb0 : b = 0 := of_decide_eq_true h_q2
          subst hb0
          refine ⟨⟨(r, cutV 1 (r.length + 1) 1 v'), cut1 hv', hgo, by show r.length ≤ bs.length; simp only [List.length_cons] at hle; omega⟩, by show r.length < r.length + 1; omega, ?_⟩
          exact weaker_forget (fun i => i == 0 || i == 1 || i == 4) []
        )
      | (
          refine vcond_f rfl ?_
          have hz' : decide ((bs'.length : Int) = ((0 : Nat) : Int)) = !decide (bs'.length > 0) := by rw [nat_eq]; cases bs' <;> simp
          rw [h_q] at hz'
          refine vexit ?_
          change VOk _ _ _ _ _
          refine vseq ?_
          refine vseq ?_
          apply vrp
          · apply VE.cons
            · exact ev_move rfl (gn rfl)
            simp only [nm, seval]
            apply VE.cons
            · exact ev_len rfl (gn rfl) rfl Tryd.underlying26 (rdg_arg hv')
            simp only [nm, seval]
            apply VE.cons
            · exact ev_eql rfl (gn rfl) rfl rfl hz'
            simp only [nm, seval]
            exact VE.nil _
          · kernel_rfl
          change VOk _ _ _ _ _
          first
          | (
              refine vcond_t rfl ?_
              refine vseq ?_
              apply vrp
              · apply VE.cons
                · exact ev_assign rfl (gn rfl)
                simp only [nm, seval]
                exact VE.nil _
              · kernel_rfl
              change VOk _ _ _ _ _
              refine vret ?_
              refine post_ret (res1 Tryd.results57 (rv_tmp rfl)) ?_
              intro ρ w' hr
              (first | (refine ⟨?_, hr.1⟩; rw [hgo]; have h0 : bs' = [] := List.eq_nil_of_length_eq_zero (by have := of_decide_eq_false h_q; omega); subst h0; rfl) | (refine ⟨?_, hr.1⟩; rw [hgo]; obtain ⟨b, r, rfl⟩ := cons_of (of_decide_eq_true h_q); have hb0 : decide (b = 0) = false := h_q2; simp only [trimV, hb0, cond_false]; rfl))
            )
          | (
              refine vcond_f rfl ?_
              refine vskip ?_
              change VOk _ _ _ _ _
              refine vseq ?_
              apply vrp
              · apply VE.cons
                · exact ev_move rfl (gn rfl)
                simp only [nm, seval]
                apply VE.cons
                · exact ev_assign rfl (gn rfl)
                simp only [nm, seval]
                exact VE.nil _
              · kernel_rfl
              change VOk _ _ _ _ _
              refine vret ?_
              refine post_ret (res1 Tryd.results57 (rv_tmp rfl)) ?_
              intro ρ w' hr
              (first | (refine ⟨?_, hr.1⟩; rw [hgo]; have h0 : bs' = [] := List.eq_nil_of_length_eq_zero (by have := of_decide_eq_false h_q; omega); subst h0; rfl) | (refine ⟨?_, hr.1⟩; rw [hgo]; obtain ⟨b, r, rfl⟩ := cons_of (of_decide_eq_true h_q); have hb0 : decide (b = 0) = false := h_q2; simp only [trimV, hb0, cond_false]; rfl))
            )
        )
    )
  · exact weaker_forget (fun i => i == 0 || i == 1 || i == 4) []
theorem trim_ok {v : Value} {bs : List Nat} {S : Nat → Prop} (w : World) (hv : SlAt w v bs.length 1 (bs.map b8) S) (hm : bs.length ≤ maxLen) : Calls Tryd.prog 49 #[v, .string (bstr [0])] w fun e w' => e = .returned (trimV v bs) ∧ Bw w w' := by
  obtain ⟨q, h_q⟩ : ∃ p, decide (bs.length = 0) = p := ⟨_, rfl⟩
  have h_q' := (nat_eq bs.length 0).trans h_q
  go_enter Tryd.func49, Tryd.ntmps49
  refine ve_go ?_
  simp only [List.map_cons, List.map_nil]
  refine vseq ?_
  apply vrp
  · apply VE.cons
    · exact ev_assign rfl (gn rfl)
    simp only [nm, seval]
    exact VE.nil _
  · kernel_rfl
  change VOk _ _ _ _ _
  refine vseq ?_
  refine vseq ?_
  apply vrp
  · apply VE.cons
    · exact ev_move rfl (gn rfl)
    simp only [nm, seval]
    apply VE.cons
    · exact ev_len rfl (gn rfl) rfl Tryd.underlying26 (rdg_arg hv)
    simp only [nm, seval]
    apply VE.cons
    · exact ev_eql rfl (gn rfl) rfl rfl h_q'
    simp only [nm, seval]
    exact VE.nil _
  · kernel_rfl
  change VOk _ _ _ _ _
  cases q
  · refine vcond_f rfl ?_
    refine vskip ?_
    change VOk _ _ _ _ _
    refine vseq ?_
    refine vseq ?_
    apply vrp
    · apply VE.cons
      · exact ev_move rfl (gn rfl)
      simp only [nm, seval]
      apply VE.cons
      · exact ev_bin (c := .bool false) rfl (gn rfl) rfl rfl (fun w => str_is (a := [0]) (b := []) (by decide) (by simp) (by simp) _ _ w)
      simp only [nm, seval]
      exact VE.nil _
    · kernel_rfl
    change VOk _ _ _ _ _
    refine vcond_f rfl ?_
    refine vskip ?_
    change VOk _ _ _ _ _
    refine vseq ?_
    refine vseq ?_
    apply vrp
    · apply VE.cons
      · exact ev_move rfl (gn rfl)
      simp only [nm, seval]
      apply VE.cons
      · exact ev_lenb (b := [0]) rfl (gn rfl) rfl Tryd.underlying9
      simp only [nm, seval]
      apply VE.cons
      · exact ev_eql (p := true) rfl (gn rfl) rfl rfl (by decide)
      simp only [nm, seval]
      apply VE.cons
      · exact ev_move rfl (gn rfl)
      simp only [nm, seval]
      apply VE.cons
      · first | exact Ev.skip (fun _ => rfl) | exact ev_move rfl (fun _ => rfl)
      simp only [nm, seval]
      apply VE.cons
      · first | exact Ev.skip (fun _ => rfl) | exact ev_idxb (b := [0]) (k := 0) (c := 0) rfl (fun _ => rfl) rfl rfl Tryd.underlying9 rfl (by decide)
      simp only [nm, seval]
      apply VE.cons
      · first | exact Ev.skip (fun _ => rfl) | exact ev_lss5 (p := true) rfl (fun _ => rfl) rfl rfl (by decide)
      simp only [nm, seval]
      apply VE.cons
      · first | exact ev_pick_t rfl (gn rfl) rfl rfl | exact ev_pick_f rfl (gn rfl) rfl rfl
      simp only [nm, seval]
      exact VE.nil _
    · kernel_rfl
    change VOk _ _ _ _ _
    refine vcond_t rfl ?_
    refine vseq ?_
    apply vrp
    · apply VE.cons
      · exact ev_move rfl (gn rfl)
      simp only [nm, seval]
      apply VE.cons
      · exact ev_move rfl (gn rfl)
      simp only [nm, seval]
      apply VE.cons
      · exact ev_idxb (b := [0]) (k := 0) (c := 0) rfl (gn rfl) rfl rfl Tryd.underlying9 rfl (by decide)
      simp only [nm, seval]
      apply VE.cons
      · exact ev_callb rfl (gn rfl) rfl (en_of Tryd.func57 (by kernel_rfl) rfl) (fun w' hb => trimb_ok w' (sl_bw hv hb) hm)
      simp only [nm, seval]
      apply VE.cons
      · exact ev_assign rfl (gn rfl)
      simp only [nm, seval]
      exact VE.nil _
    · kernel_rfl
    change VOk _ _ _ _ _
    refine vret ?_
    refine post_ret (res1 Tryd.results49 (rv_tmp rfl)) ?_
    intro ρ w' hr
    (first | exact ⟨rfl, hr.1⟩ | (refine ⟨?_, hr.1⟩; have h0 : bs = [] := List.eq_nil_of_length_eq_zero (of_decide_eq_true h_q); subst h0; rfl))
  · refine vcond_t rfl ?_
    refine vseq ?_
    apply vrp
    · apply VE.cons
      · exact ev_assign rfl (gn rfl)
      simp only [nm, seval]
      exact VE.nil _
    · kernel_rfl
    change VOk _ _ _ _ _
    refine vret ?_
    refine post_ret (res1 Tryd.results49 (rv_tmp rfl)) ?_
    intro ρ w' hr
    (first | exact ⟨rfl, hr.1⟩ | (refine ⟨?_, hr.1⟩; have h0 : bs = [] := List.eq_nil_of_length_eq_zero (of_decide_eq_true h_q); subst h0; rfl))
/-- the body of a number: no noughts ahead but one, if it would be below nought. -/
def numB (bs : List Nat) : List Nat := bif decide ((trimL bs).length = 0) || decide ((trimL bs).headD 0 ≥ 128) then 0 :: trimL bs else trimL bs
theorem numB_len (bs : List Nat) : (numB bs).length ≤ bs.length + 1 := by
  have := trimL_len bs
  unfold numB
  cases decide ((trimL bs).length = 0) || decide ((trimL bs).headD 0 ≥ 128) <;> simp <;> omega
theorem len_pos_of {l : List Nat} (h : decide (l.length = 0) = false) : l.length > 0 := by have := of_decide_eq_false h; omega
theorem number_ok {v : Value} {bs : List Nat} {S : Nat → Prop} (w : World) (hv : SlAt w v bs.length 1 (bs.map b8) S) (hm : bs.length ≤ 1048576) : Calls Tryd.prog 38 #[v] w fun e w' => ∃ v, e = .returned v ∧ RetD w w' v (datN (.mk 2 (numB bs) [])) ∧ Bw w w' := by
  unfold numB
  have htv := trim_sl hv
  have htl := trimL_len bs
  obtain ⟨q1, h_q1⟩ : ∃ p, decide ((trimL bs).length = 0) = p := ⟨_, rfl⟩
  obtain ⟨q2, h_q2⟩ : ∃ p, decide ((trimL bs).headD 0 ≥ 128) = p := ⟨_, rfl⟩
  rw [h_q1, h_q2]
  have h_q1' := (nat_eq (trimL bs).length 0).trans h_q1
  have h_q2' := (nat_ge ((trimL bs).headD 0) 128).trans h_q2
  go_enter Tryd.func38, Tryd.ntmps38
  refine ve_go ?_
  simp only [List.map_cons, List.map_nil]
  cases q1 <;> cases q2 <;>
  (
    refine vseq ?_
    apply vrp
    · apply VE.cons
      · exact ev_alloc rfl rfl (gn rfl) Tryd.zeroValue29
      simp only [nm, seval]
      exact VE.nil _
    · kernel_rfl
    change VOk _ _ _ _ _
    refine vseq ?_
    apply vrp
    · apply VE.cons
      · exact ev_move rfl (gn rfl)
      simp only [nm, seval]
      apply VE.cons
      · exact ev_callb rfl (gn rfl) rfl (en_of Tryd.func49 (by kernel_rfl) rfl) (fun w' hb => trim_ok w' (sl_bw hv hb) (by simp only [maxLen]; omega))
      simp only [nm, seval]
      apply VE.cons
      · exact ev_assign rfl (gn rfl)
      simp only [nm, seval]
      exact VE.nil _
    · kernel_rfl
    change VOk _ _ _ _ _
    refine vseq ?_
    refine vseq ?_
    apply vrp
    · apply VE.cons
      · exact ev_move rfl (gn rfl)
      simp only [nm, seval]
      apply VE.cons
      · exact ev_len rfl (gn rfl) rfl Tryd.underlying26 (rdg_arg htv)
      simp only [nm, seval]
      apply VE.cons
      · exact ev_eql rfl (gn rfl) rfl rfl h_q1'
      simp only [nm, seval]
      apply VE.cons
      · exact ev_move rfl (gn rfl)
      simp only [nm, seval]
      apply VE.cons
      · first | exact Ev.skip (fun _ => rfl) | exact ev_move rfl (fun _ => rfl)
      simp only [nm, seval]
      apply VE.cons
      · first | exact Ev.skip (fun _ => rfl) | exact ev_idx (k := 0) rfl (fun _ => rfl) rfl rfl Tryd.underlying26 Tryd.sizeOf5 (rdg_arg htv) (len_pos_of h_q1) (by decide)
      simp only [nm, seval]
      apply VE.cons
      · first | exact Ev.skip (fun _ => rfl) | exact ev_loadi rfl (fun _ => rfl) rfl Tryd.underlying5 rfl (rdg_arg htv) (head_get (len_pos_of h_q1))
      simp only [nm, seval]
      apply VE.cons
      · first | exact Ev.skip (fun _ => rfl) | exact ev_geq5 rfl (fun _ => rfl) rfl rfl h_q2'
      simp only [nm, seval]
      apply VE.cons
      · first | exact ev_pick_t rfl (gn rfl) rfl rfl | exact ev_pick_f rfl (gn rfl) rfl rfl
      simp only [nm, seval]
      exact VE.nil _
    · kernel_rfl
    change VOk _ _ _ _ _
    first
    | (
        refine vcond_t rfl ?_
        apply vrp
        · apply VE.cons
          · exact ev_buildslice rfl rfl (gn rfl) rfl (e := 5) (l := [b8 0]) rfl (by decide) (fun _ => by kernel_rfl)
          simp only [nm, seval]
          apply VE.cons
          · exact ev_move rfl (gn rfl)
          simp only [nm, seval]
          apply VE.cons
          · exact ev_append rfl rfl (gn rfl) rfl rfl rfl (rdg_arg htv) Tryd.underlying26 el5 (by decide) (by simp) (b8_all _) (by simp only [maxLen]; omega) (by omega) (by simp)
          simp only [nm, seval]
          apply VE.cons
          · exact ev_assign rfl (gn rfl)
          simp only [nm, seval]
          exact VE.nil _
        · kernel_rfl
        change VOk _ _ _ _ _
        refine vseq ?_
        apply vrp
        · apply VE.cons
          · exact ev_move rfl (gn rfl)
          simp only [nm, seval]
          apply VE.cons
          · first | exact ev_callrow [16] rfl rfl (gn rfl) rfl (en_of Tryd.func45 (by kernel_rfl) rfl) (n := (0 :: trimL bs).length) (size := 1) (l := (0 :: trimL bs).map b8) (by simp) (fun ρ S w' hb hR => by obtain ⟨_, s0⟩ := sl_row (id := 16) hR (by simp) rfl; rw [Nat.add_comm] at s0; exact clone_ok (bs := 0 :: trimL bs) w' s0 (by simp; omega)) | exact ev_callrow [] rfl rfl (gn rfl) rfl (en_of Tryd.func45 (by kernel_rfl) rfl) (n := (trimL bs).length) (size := 1) (l := (trimL bs).map b8) (by simp) (fun ρ S w' hb hR => clone_ok w' (sl_bw htv hb) (by omega))
          simp only [nm, seval]
          apply VE.cons
          · first | exact ev_build2 (n := (0 :: trimL bs).length) (size := 1) (l := (0 :: trimL bs).map b8) rfl (gn rfl) rfl rfl (rdg_row rfl) (fun p m q => built29 2 p m q) | exact ev_build2 (n := (trimL bs).length) (size := 1) (l := (trimL bs).map b8) rfl (gn rfl) rfl rfl (rdg_row rfl) (fun p m q => built29 2 p m q)
          simp only [nm, seval]
          apply VE.cons
          · exact ev_storeR (vl := [.v (.int .i64 2), .d 18, .v (.slice none 0 0)]) [2, 18] rfl (gn rfl) rfl rfl rfl Tryd.sizeOf29 rfl (fun ρ S w' _ hR => ⟨agg_cells _, by have hh := row_cells (id := 18) hR (by simp) rfl; simp only [SV.cs, SV.c, List.all_cons, List.all_nil, hh.2]; rfl⟩) rfl (by simp)
          simp only [nm, seval]
          exact VE.nil _
        · kernel_rfl
        change VOk _ _ _ _ _
        refine vret ?_
        refine post_ret (res1 Tryd.results38 (rv_cella rfl rfl Tryd.underlying29 rfl Tryd.sizeOf29 rfl)) ?_
        intro ρ w' hr
        refine ⟨_, rfl, ?_, hr.1⟩
        first | (have := node_leaf (t := 2) (b := 0 :: trimL bs) 18 hr rfl; simpa [SV.c, SV.cs] using this) | (have := node_leaf (t := 2) (b := trimL bs) 18 hr rfl; simpa [SV.c, SV.cs] using this)
      )
    | (
        refine vcond_f rfl ?_
        refine vskip ?_
        change VOk _ _ _ _ _
        refine vseq ?_
        apply vrp
        · apply VE.cons
          · exact ev_move rfl (gn rfl)
          simp only [nm, seval]
          apply VE.cons
          · first | exact ev_callrow [16] rfl rfl (gn rfl) rfl (en_of Tryd.func45 (by kernel_rfl) rfl) (n := (0 :: trimL bs).length) (size := 1) (l := (0 :: trimL bs).map b8) (by simp) (fun ρ S w' hb hR => by obtain ⟨_, s0⟩ := sl_row (id := 16) hR (by simp) rfl; rw [Nat.add_comm] at s0; exact clone_ok (bs := 0 :: trimL bs) w' s0 (by simp; omega)) | exact ev_callrow [] rfl rfl (gn rfl) rfl (en_of Tryd.func45 (by kernel_rfl) rfl) (n := (trimL bs).length) (size := 1) (l := (trimL bs).map b8) (by simp) (fun ρ S w' hb hR => clone_ok w' (sl_bw htv hb) (by omega))
          simp only [nm, seval]
          apply VE.cons
          · first | exact ev_build2 (n := (0 :: trimL bs).length) (size := 1) (l := (0 :: trimL bs).map b8) rfl (gn rfl) rfl rfl (rdg_row rfl) (fun p m q => built29 2 p m q) | exact ev_build2 (n := (trimL bs).length) (size := 1) (l := (trimL bs).map b8) rfl (gn rfl) rfl rfl (rdg_row rfl) (fun p m q => built29 2 p m q)
          simp only [nm, seval]
          apply VE.cons
          · exact ev_storeR (vl := [.v (.int .i64 2), .d 18, .v (.slice none 0 0)]) [2, 18] rfl (gn rfl) rfl rfl rfl Tryd.sizeOf29 rfl (fun ρ S w' _ hR => ⟨agg_cells _, by have hh := row_cells (id := 18) hR (by simp) rfl; simp only [SV.cs, SV.c, List.all_cons, List.all_nil, hh.2]; rfl⟩) rfl (by simp)
          simp only [nm, seval]
          exact VE.nil _
        · kernel_rfl
        change VOk _ _ _ _ _
        refine vret ?_
        refine post_ret (res1 Tryd.results38 (rv_cella rfl rfl Tryd.underlying29 rfl Tryd.sizeOf29 rfl)) ?_
        intro ρ w' hr
        refine ⟨_, rfl, ?_, hr.1⟩
        first | (have := node_leaf (t := 2) (b := 0 :: trimL bs) 18 hr rfl; simpa [SV.c, SV.cs] using this) | (have := node_leaf (t := 2) (b := trimL bs) 18 hr rfl; simpa [SV.c, SV.cs] using this)
      )
  )
theorem shr_n (m s : Nat) (_hm : m < 9223372036854775808) (hs : s < 64) (p q : Operand) (w : World) : (do eqGuard .shr 3 p q (.int .i64 (m : Nat)) (.int .i64 (s : Nat)); binOp .shr 3 (.int .i64 (m : Nat)) (.int .i64 (s : Nat)) : Sem Value).run Tryd.prog w = .ok (.int .i64 ((hb m s : Nat) : Int)) w := by
  go_simp
  unfold hb
  have h1 : ¬ ((s : Int) < 0) := by omega
  simp [h1]
def numL (m : Nat) : List Nat := [n8 (hb m 56), n8 (hb m 48), n8 (hb m 40), n8 (hb m 32), n8 (hb m 24), n8 (hb m 16), n8 (hb m 8), n8 (hb m 0)]
theorem numL_get {m j s : Nat} (h : j < 8) (hs : s = 56 - 8 * j) : (numL m)[j]? = some (n8 (hb m s)) := by
  subst hs
  have : j = 0 ∨ j = 1 ∨ j = 2 ∨ j = 3 ∨ j = 4 ∨ j = 5 ∨ j = 6 ∨ j = 7 := by omega
  rcases this with rfl | rfl | rfl | rfl | rfl | rfl | rfl | rfl <;> rfl
theorem Num_ok (n : Int) (hn : n ≤ 9223372036854775807) (w : World) : Calls Tryd.prog 24 #[.int .i64 n] w fun e w' => ∃ v, e = .returned v ∧ RetD w w' v (datN (.mk 2 (numB (numL n.toNat)) [])) ∧ Bw w w' := by
  go_enter Tryd.func24, Tryd.ntmps24
  refine ve_go ?_
  simp only [List.map_cons, List.map_nil]
  refine vseq ?_
  apply vrp
  · apply VE.cons
    · exact ev_alloc rfl rfl (gn rfl) Tryd.zeroValue29
    simp only [nm, seval]
    exact VE.nil _
  · kernel_rfl
  change VOk _ _ _ _ _
  refine vseq ?_
  apply vrp
  · apply VE.cons
    · exact ev_assign rfl (gn rfl)
    simp only [nm, seval]
    exact VE.nil _
  · kernel_rfl
  change VOk _ _ _ _ _
  refine vseq ?_
  refine vseq ?_
  apply vrp
  · apply VE.cons
    · exact ev_assign rfl (gn rfl)
    simp only [nm, seval]
    exact VE.nil _
  · kernel_rfl
  change VOk _ _ _ _ _
  refine vblock ?_
  refine vloop_w (α := {x : Nat × Int // x.1 ≤ 8 ∧ x.2 = 56 - 8 * (x.1 : Int)}) (fun (x : {x : Nat × Int // x.1 ≤ 8 ∧ x.2 = 56 - 8 * (x.1 : Int)}) f => ⟨[.v (.int .i64 n), .v (f 1), .p 2 0, .d 900, .v (.int .i64 x.1.2), .v (f 5), .v (f 6), .v (f 7), .v (f 8), .v (f 9), .v (f 10), .v (f 11), .v (f 12), .v (f 13), .v (f 14), .v (f 15), .v (f 16), .v (f 17), .v (f 18)], memOf [(900, .row x.1.1 1 5 (.exact (((numL n.toNat).take x.1.1).map b8))), (2, .cells [.v (.int .i64 0), .v (.slice none 0 0), .v (.slice none 0 0)] 29)]⟩) (fun x => 8 - x.1.1) ?_ (⟨(0, 56), by decide, rfl⟩) ?_
  · rintro ⟨⟨j, z⟩, hj, hz⟩ f
    simp only at hj hz
    obtain ⟨q, h_q⟩ : ∃ q, decide (z ≥ 0) = q := ⟨_, rfl⟩
    change VOk _ _ _ _ _
    refine vseq ?_
    refine vseq ?_
    apply vrp
    · apply VE.cons
      · exact ev_move rfl (gn rfl)
      simp only [nm, seval]
      apply VE.cons
      · exact ev_geq rfl (gn rfl) rfl rfl h_q
      simp only [nm, seval]
      exact VE.nil _
    · kernel_rfl
    change VOk _ _ _ _ _
    cases q
    · refine vcond_f rfl ?_
      have h8 : j = 8 := by have := of_decide_eq_false h_q; omega
      subst h8
      have hj8 : True := True.intro
      refine vexit ?_
      change VOk _ _ _ _ _
      refine vseq ?_
      apply vrp
      · apply VE.cons
        · exact ev_move rfl (gn rfl)
        simp only [nm, seval]
        apply VE.cons
        · exact ev_calld (D := datN (.mk 2 (numB (numL n.toNat)) [])) [900] rfl rfl (gn rfl) rfl (en_of Tryd.func38 (by kernel_rfl) rfl) (fun ρ S w' hb hR => by obtain ⟨_, s0⟩ := sl_row (id := 900) hR (by simp) rfl; exact number_ok (bs := numL n.toNat) w' s0 (by simp [numL]))
        simp only [nm, seval]
        apply VE.cons
        · exact ev_storeR (vl := [.fn (cellV 0) (.d 18), .fn (cellV 1) (.d 18), .fn (cellV 2) (.d 18)]) [2, 18] rfl (gn rfl) rfl rfl rfl Tryd.sizeOf29 rfl (fun ρ S w' _ hR => by obtain ⟨c, h1, h2⟩ := datN_get (id := 18) hR (by simp) rfl; have hf := fn3 h1 (DN_len h2); exact ⟨hf.1, hf.2 ▸ DN_one h2⟩) rfl (by simp)
        simp only [nm, seval]
        exact VE.nil _
      · kernel_rfl
      change VOk _ _ _ _ _
      refine vret ?_
      refine post_ret (res1 Tryd.results24 (rv_cella rfl rfl Tryd.underlying29 rfl Tryd.sizeOf29 rfl)) ?_
      intro ρ w' hr
      exact ⟨_, rfl, ret_datN 18 hr rfl, hr.1⟩
    · refine vcond_t rfl ?_
      have hj2 : j < 8 := by have := of_decide_eq_true h_q; omega
      obtain ⟨s, hs⟩ : ∃ s : Nat, s = 56 - 8 * j := ⟨_, rfl⟩
      have hzs : z = ((s : Nat) : Int) := by omega
      refine vskip ?_
      change VOk _ _ _ _ _
      refine vseq ?_
      refine vblock ?_
      apply vrp
      · apply VE.cons
        · exact ev_move rfl (gn rfl)
        simp only [nm, seval]
        apply VE.cons
        · exact ev_move rfl (gn rfl)
        simp only [nm, seval]
        apply VE.cons
        · exact ev_max (c := ((n.toNat : Nat) : Int)) rfl (gn rfl) rfl rfl (by omega)
        simp only [nm, seval]
        apply VE.cons
        · exact ev_move rfl (gn rfl)
        simp only [nm, seval]
        apply VE.cons
        · exact ev_bin (b := .int .i64 ((s : Nat) : Int)) rfl (gn rfl) rfl (by simp only [nm, seval, hzs]) (fun w => shr_n _ s (by omega) (by omega) _ _ w)
        simp only [nm, seval]
        apply VE.cons
        · exact ev_conv rfl (gn rfl) rfl (fun w => cvu8 _ w)
        simp only [nm, seval]
        apply VE.cons
        · exact ev_buildslice rfl rfl (gn rfl) rfl (e := 5) (l := [b8 (n8 (hb n.toNat s))]) rfl (by decide) (fun _ => by kernel_rfl)
        simp only [nm, seval]
        apply VE.cons
        · exact ev_append rfl rfl (gn rfl) rfl rfl rfl (rdg_row rfl) Tryd.underlying26 el5 (by decide) (by simp [numL]; omega) rfl (by simp only [maxLen]; omega) (by omega) (by simp)
        simp only [nm, seval]
        apply VE.cons
        · exact ev_assign rfl (gn rfl)
        simp only [nm, seval]
        exact VE.nil _
      · kernel_rfl
      change VOk _ _ _ _ _
      apply vrp
      · apply VE.cons
        · exact ev_move rfl (gn rfl)
        simp only [nm, seval]
        apply VE.cons
        · exact ev_sub (c := z - 8) rfl (gn rfl) rfl rfl (by rw [i64w (by omega) (by omega)])
        simp only [nm, seval]
        apply VE.cons
        · exact ev_assign rfl (gn rfl)
        simp only [nm, seval]
        exact VE.nil _
      · kernel_rfl
      have e1 : ((numL n.toNat).take j).map b8 ++ [b8 (n8 (hb n.toNat s))] = ((numL n.toNat).take (j + 1)).map b8 := by rw [take_get (numL_get hj2 hs), List.map_append]; rfl
      rw [e1]
      refine ⟨⟨(j + 1, z - 8), by show j + 1 ≤ 8; omega, by show z - 8 = 56 - 8 * ((j + 1 : Nat) : Int); omega⟩, by show 8 - (j + 1) < 8 - j; omega, ?_⟩
      exact (weaker_forget (fun i => i == 0 || i == 2 || i == 3 || i == 4) [15]).trans2 (fun f => weaker_ren 16 900 (by decide) rfl)
  · refine (weaker_forget (fun i => i == 0 || i == 2 || i == 3 || i == 4) []).trans2 (fun f => ?_)
    refine (weaker_name 900 1 5 (.exact []) (fun w => rfl) (m' := [(2, .cells [.v (.int .i64 0), .v (.slice none 0 0), .v (.slice none 0 0)] 29)]) rfl rfl (fun ρ hv => ?_) (fun ρ hv => ?_))
    · simp [forgetFr, SV.cs, SV.c, hv, nilV]
    · simp [memSim, memDel, Blk.sim]
end Go.Proofs.YtmgmiiongleaeaaDoor
