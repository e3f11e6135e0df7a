import Derived.Test.YtmgmiiongleaeaaDoorEc
namespace Go.Proofs.YtmgmiiongleaeaaDoor
open Go.RowKit Go.Vx
open Go.Toll (Gw)
set_option maxHeartbeats 4000000
set_option maxRecDepth 100000
theorem ev_calldD {P : Program} {w0 : World} {ops : Array Oper} {o : Oper} {s : VS} {f : FuncId} {xs : Array Operand} {ats : Array TypeId} {vs : List SV} {id : Nat} (D : Dat) (rd : List Nat) (_hd : o.dst = some id) (ho : o.op = .call { callee := .value (.func f), args := xs, argTypes := ats }) (hgd : Want ops o s)
    (hx : xs.toList.map (svEval s) = vs) (he : ∀ args w, (callFunc f args).run P w = .ok (.enter f args) w)
    (hc : ∀ ρ S w, Bw w0 w → RelOn w0.heap.size ρ S w (restr rd s.mem) → Calls P f (SV.cs ρ vs).toArray w fun e w' => ∃ v S', e = .returned v ∧ D.holds [v] w' S' ∧ (∀ k, S' k → (∃ j ∈ rd, (s.mem j).isSome ∧ S j k) ∨ (w.heap.size ≤ k ∧ k < w'.heap.size)) ∧ Bw w w') : Ev P ops w0 o s ⟨.d id, [(id, .dat D)], [], [id], rd⟩ :=
  ⟨by simp [Eff.ok], .inr ⟨hgd, fun ρ S w hb hR => .inr (.inr ⟨f, (SV.cs ρ vs).toArray, by
    obtain ⟨dst, op, type, pos, after, guard⟩ := o
    simp only at ho
    subst ho
    rw [execOp_call_go, args_p, hx, ← cs_map]
    simpa using he (SV.cs ρ vs).toArray w, (hc ρ S w hb hR).mono fun e w' ⟨v, S', h1, h3, h4, h5⟩ => ⟨_, h1, _, _, by
      have := out_new (base := w0.heap.size) (t := s.mem) (ρ := ρ) (S := S) (w := w) (w' := w') (val := .d id) (rd := rd) (up := []) (id := id) (b := .dat D) (m := ⟨0, v⟩) (S1 := S')
        h5.os h5.tape h5.output h5.size (fun k hk _ => h5.block k hk) (fun ρ' g1 _ => by show D.holds [(ρ' id).val] w' S'; rw [g1]; exact h3) h4 (fun ho => ho.elim)
      simpa [SV.c] using this⟩⟩)⟩⟩
theorem of_one {ρ : Nat → Nm} {S : Nat → Nat → Prop} {w w0 : World} {m : Mem} {rd : List Nat} {i q : Nat} {t1 : Tr} {bt : TypeId} (hR : RelOn w0.heap.size ρ S w (restr rd m)) (hi : i ∈ rd) (hq : q ∈ rd) (h1 : m i = some (.dat (datN t1)))
    (h3 : m q = some (.cells [.fn (cellV 0) (.d i), .fn (cellV 1) (.d i), .fn (cellV 2) (.d i)] bt)) (t : Int) :
    Calls Tryd.prog 17 #[.int .i64 t, .slice (some ⟨(ρ q).g, 0, none⟩) 1 1] w fun e w' => ∃ v S', e = .returned v ∧ (datN (.mk t [] [t1])).holds [v] w' S' ∧ (∀ k, S' k → (∃ j ∈ rd, (m j).isSome ∧ S j k) ∨ (w.heap.size ≤ k ∧ k < w'.heap.size)) ∧ Bw w w' := by
  obtain ⟨c1, e1, d1⟩ := datN_get hR hi h1
  have f1 := (fn3 e1 (DN_len d1)).2
  have hs : SlAt w (.slice (some ⟨(ρ q).g, 0, none⟩) 1 1) 1 3 c1 (fun _ => True) := by
    have hg := (relon_get hR h3 hq).2
    refine ⟨_, _, rfl, Nat.le_refl _, by rw [DN_len d1], .inr ⟨_, rfl, True.intro, fun i x hx => ?_⟩⟩
    rw [← f1] at hx
    exact cells_get hg hx
  refine (Of_ok (t := t) w hs (DN_one d1) (by decide)).mono fun e w' ⟨v, a1, ⟨g, a2⟩, a3⟩ => ⟨_, fun k => S i k ∨ (w.heap.size ≤ k ∧ k < w'.heap.size), a1, ?_, ?_, a3⟩
  · refine ⟨[.int .i64 t, .slice none 0 0, v], rfl, ?_⟩
    simp only [DN, DNs]
    have hl : c1.length = 1 * 3 := by rw [DN_len d1]
    have hr := row_sl (a := ⟨g, v⟩) a2 hl
    have hr2 : SlAt w' v 1 3 c1 (fun k => S i k ∨ (w.heap.size ≤ k ∧ k < w'.heap.size)) := by
      rcases a2 with ⟨_, g2⟩ | ⟨off, cap, cur, fz, g1, g2, g3, _⟩
      · omega
      · exact sl_sub hr fun k hk => by subst hk; exact .inr ⟨g2, (Array.getElem?_eq_some_iff.1 g3).1⟩
    exact ⟨_, _, c1, rfl, ⟨none, 0, rfl, Nat.le_refl _, rfl, .inl rfl⟩, hr2, c1, [], by simp, DN_sub (fun k hk => .inl hk) (DN_bw a3 d1), rfl⟩
  · rintro k (hk | hk)
    · exact .inl ⟨i, hi, by rw [h1]; rfl, hk⟩
    · exact .inr hk
theorem DNs_one {w : World} {S : Nat → Prop} : ∀ {ks : List Tr} {cs : List Value}, DNs w S ks cs → cs.all (·.oneCell') = true
  | [], cs, h => by simp only [DNs] at h; subst h; rfl
  | k :: ks, cs, h => by
    simp only [DNs] at h
    obtain ⟨x, y, rfl, h1, h2⟩ := h
    rw [List.all_append, DN_one h1, DNs_one h2]; rfl
theorem of_row {ρ : Nat → Nm} {S : Nat → Nat → Prop} {w w0 : World} {m : Mem} {rd : List Nat} {i n : Nat} {ks : List Tr} (hR : RelOn w0.heap.size ρ S w (restr rd m)) (hi : i ∈ rd) (h1 : m i = some (.row n 3 29 (datNs ks))) (hn : n ≤ 1048576) (t : Int) :
    Calls Tryd.prog 17 #[.int .i64 t, (ρ i).val] w fun e w' => ∃ v l S', e = .returned (ofV t v) ∧ l.length = n * 3 ∧ RetRow w w' v n 3 29 l ∧ (datNs ks).holds l w S' ∧ (∀ k, S' k → ∃ j ∈ rd, (m j).isSome ∧ S j k) ∧ Bw w w' := by
  obtain ⟨ys, f1, f2, f3⟩ := relon_get hR h1 hi
  exact (Of_ok (t := t) w (row_sl f3 f1) (DNs_one f2) hn).mono fun e w' ⟨v, a1, a2, a3⟩ => ⟨v, ys, S i, a1, f1, a2, f2, fun k hk => ⟨i, hi, by rw [h1]; rfl, hk⟩, a3⟩
theorem node_rown {w : World} {base : Nat} {ρ : Nat → Nm} {S : Nat → Nat → Prop} {m : Mem} {rd : List Nat} {id n : Nat} {t : Int} {ks : List Tr} (hR : RelOn base ρ S w (restr rd m)) (hid : id ∈ rd) (hm : m id = some (.row n 3 29 (datNs ks))) (hn : ks.length = n) :
    ∃ S', DN w S' (.mk t [] ks) [.int .i64 t, .slice none 0 0, (ρ id).val] := by
  subst hn; exact node_row hR hid hm
def numT (m : Nat) : Tr := .mk 2 (numB (numL m)) []
def nestT : Nat → Tr
  | 0 => numT 5
  | j + 1 => .mk 48 [] [nestT j]
def kidT (n : Nat) : List Tr := (List.range n).map numT
def wideT (n : Nat) : Tr := .mk 160 [] (kidT n)
theorem kidT_succ (i : Nat) : kidT (i + 1) = kidT i ++ [numT i] := by simp [kidT, List.range_succ]
theorem kidT_len (n : Nat) : (kidT n).length = n := by simp [kidT]
theorem trimL_mem' {l : List Nat} (h : ∀ x ∈ l, x < 256) : ∀ x ∈ numB l, x < 256 := by
  have ht : ∀ x ∈ trimL l, x < 256 := fun x hx => h x ((List.dropWhile_suffix _).subset hx)
  unfold numB
  cases decide ((trimL l).length = 0) || decide ((trimL l).headD 0 ≥ 128) <;> simp only [cond_true, cond_false]
  · exact ht
  · intro x hx
    rcases List.mem_cons.1 hx with rfl | hx
    · decide
    · exact ht x hx
theorem numT_ok (m : Nat) : (numT m).ok ∧ wt (numT m) ≤ 19 := by
  have hl := numB_len (numL m)
  have h8 : (numL m).length = 8 := rfl
  refine ⟨?_, ?_⟩
  · simp only [numT, Tr.ok, oks, List.length_nil]
    refine ⟨trimL_mem' fun x hx => ?_, by omega, by omega, True.intro⟩
    simp only [numL, n8, List.mem_cons, List.not_mem_nil, or_false] at hx
    rcases hx with rfl | rfl | rfl | rfl | rfl | rfl | rfl | rfl <;> exact Nat.mod_lt _ (by decide)
  · simp only [numT, wt, wts]; omega
theorem nestT_ok : ∀ j, (nestT j).ok ∧ wt (nestT j) ≤ 19 + 10 * j
  | 0 => numT_ok 5
  | j + 1 => by
    obtain ⟨h1, h2⟩ := nestT_ok j
    refine ⟨?_, ?_⟩
    · simp only [nestT, Tr.ok, oks, List.length_nil, List.length_cons]; exact ⟨fun x hx => (by cases hx), by omega, by omega, h1, True.intro⟩
    · simp only [nestT, wt, wts, List.length_nil]; omega
theorem kids_okw : ∀ n, oks (kidT n) ∧ wts (kidT n) ≤ 19 * n
  | 0 => ⟨True.intro, by simp [kidT, wts]⟩
  | n + 1 => by
    obtain ⟨h1, h2⟩ := kids_okw n
    obtain ⟨h3, h4⟩ := numT_ok n
    rw [kidT_succ]
    refine ⟨oks_snoc h1 h3, ?_⟩
    rw [wts_snoc]; omega
theorem wideT_ok {n : Nat} (hn : n ≤ 1000) : (wideT n).ok ∧ wt (wideT n) ≤ 1073741824 := by
  obtain ⟨h1, h2⟩ := kids_okw n
  refine ⟨?_, ?_⟩
  · simp only [wideT, Tr.ok, List.length_nil, kidT_len]; exact ⟨fun x hx => (by cases hx), by omega, by omega, h1⟩
  · simp only [wideT, wt, List.length_nil]; omega
theorem deep_is : ∀ j, j < 12 → decide ((wrT (nestT j)).2 = 0) = decide (((1 + j : Nat) : Int) ≤ 8) := by decide +kernel
theorem wide_is : ∀ n, n < 25 → decide ((wrT (wideT n)).2 = 0) = decide ((n : Int) ≤ 20) := by decide +kernel
theorem wide_len : ∀ n, n < 21 → (wrT (wideT n)).1.length = 2 + 3 * n := by decide +kernel
theorem eqB (a b : Bool) (p q : Operand) (w : World) : (do eqGuard .eql 4 p q (.bool a) (.bool b); binOp .eql 4 (.bool a) (.bool b) : Sem Value).run Tryd.prog w = .ok (.bool (a == b)) w := by
  go_simp
  try (cases a <;> cases b <;> rfl)
theorem mul3 {n : Nat} (hn : n ≤ 1000) (p q : Operand) (w : World) : (do eqGuard .mul 3 p q (.int .i64 3) (.int .i64 (n : Nat)); binOp .mul 3 (.int .i64 3) (.int .i64 (n : Nat)) : Sem Value).run Tryd.prog w = .ok (.int .i64 ((3 * n : Nat) : Int)) w := by
  have e : IntKind.i64.wrap (3 * (n : Int)) = ((3 * n : Nat) : Int) := by rw [i64w (by omega) (by omega)]; omega
  go_simp
  try exact e
theorem deep_walk {dp wd : Int} {j n : Nat} {B C : List Nat} {e1 e2 : Int} {p1 p2 : Bool} (w : World) (hj : unsg dp % 12 = j) (hn : unsg wd % 25 = n) (hj11 : j ≤ 11) (hn24 : n ≤ 24) (hB : (wrT (nestT j)).1 = B) (he1 : (wrT (nestT j)).2 = e1) (hC : (wrT (wideT n)).1 = C) (he2 : (wrT (wideT n)).2 = e2) (hok : (nestT j).ok) (hwt : wt (nestT j) ≤ 1048576) (hwok : (wideT n).ok ∧ wt (wideT n) ≤ 1073741824) (hB8 : ∀ x ∈ B, x < 256) (hBl : B.length ≤ 2048) (h_p1 : decide (e1 = 0) = p1) (h_p2 : decide (e2 = 0) = p2) (h_d : decide (((1 + j : Nat) : Int) ≤ 8) = p1) (h_w : decide ((n : Int) ≤ 20) = p2) (hg : p1 = true → (rdT B).2 = 0) (hcl : p2 = true → C.length = 2 + 3 * n) : Calls Tryd.prog 9 #[.int .i64 dp, .int .i64 wd] w fun e w' => e = .returned (.bool true) ∧ Bw w w' := by
  have hr12 := fun (p q : Operand) (w : World) => rem61 (unsg dp) 12 (by decide) p q w
  rw [hj] at hr12
  have hr25 := fun (p q : Operand) (w : World) => rem61 (unsg wd) 25 (by decide) p q w
  rw [hn] at hr25
  have h_n1 : decide (e1 ≠ 0) = !p1 := by rw [← h_p1]; exact decide_not
  have h_n2 : decide (e2 ≠ 0) = !p2 := by rw [← h_p2]; exact decide_not
  go_enter Tryd.func9, Tryd.ntmps9
  refine ve_go ?_
  simp only [List.map_cons, List.map_nil]
  refine vseq ?_
  apply vrp
  · apply VE.cons
    · exact ev_assign rfl (gn rfl)
    simp only [nm, seval]
    exact VE.nil _
  · kernel_rfl
  change VOk _ _ _ _ _
  refine vseq ?_
  apply vrp
  · apply VE.cons
    · exact ev_move rfl (gn rfl)
    simp only [nm, seval]
    apply VE.cons
    · exact ev_conv rfl (gn rfl) rfl (fun w => cv361 dp w)
    simp only [nm, seval]
    apply VE.cons
    · exact ev_bin rfl (gn rfl) rfl rfl (fun w => hr12 _ _ w)
    simp only [nm, seval]
    apply VE.cons
    · exact ev_conv rfl (gn rfl) rfl (fun w => cv613 (x := j) (by omega) w)
    simp only [nm, seval]
    apply VE.cons
    · exact ev_add (c := ((1 + j : Nat) : Int)) rfl (gn rfl) rfl rfl (by rw [i64w (by omega) (by omega)]; omega)
    simp only [nm, seval]
    apply VE.cons
    · exact ev_move rfl (gn rfl)
    simp only [nm, seval]
    apply VE.cons
    · exact ev_conv rfl (gn rfl) rfl (fun w => cv361 wd w)
    simp only [nm, seval]
    apply VE.cons
    · exact ev_bin rfl (gn rfl) rfl rfl (fun w => hr25 _ _ w)
    simp only [nm, seval]
    apply VE.cons
    · exact ev_conv rfl (gn rfl) rfl (fun w => cv613 (x := n) (by omega) w)
    simp only [nm, seval]
    apply VE.cons
    · exact ev_assign rfl (gn rfl)
    simp only [nm, seval]
    apply VE.cons
    · exact ev_assign rfl (gn rfl)
    simp only [nm, seval]
    exact VE.nil _
  · kernel_rfl
  change VOk _ _ _ _ _
  refine vseq ?_
  apply vrp
  · apply VE.cons
    · exact ev_calld (D := datN (numT 5)) [] rfl rfl (gn rfl) rfl (en_of Tryd.func24 (by kernel_rfl) rfl) (fun ρ S w' hb _ => Num_ok 5 (by omega) w')
    simp only [nm, seval]
    apply VE.cons
    · exact ev_alloc rfl rfl (gn rfl) Tryd.zeroValue29
    simp only [nm, seval]
    apply VE.cons
    · first | exact ev_storeR (vl := [.fn (cellV 0) (.d 24), .fn (cellV 1) (.d 24), .fn (cellV 2) (.d 24)]) [5, 24] rfl (gn rfl) rfl rfl rfl Tryd.sizeOf29 rfl (fun ρ S w' _ hR => by obtain ⟨c, h1, h2⟩ := datN_get (id := 24) hR (by simp) rfl; have hf := fn3 h1 (DN_len h2); exact ⟨hf.1, hf.2 ▸ DN_one h2⟩) rfl (by simp) | exact ev_storeR (vl := [.fn (cellV 0) (.d 32), .fn (cellV 1) (.d 32), .fn (cellV 2) (.d 32)]) [5, 32] rfl (gn rfl) rfl rfl rfl Tryd.sizeOf29 rfl (fun ρ S w' _ hR => by obtain ⟨c, h1, h2⟩ := datN_get (id := 32) hR (by simp) rfl; have hf := fn3 h1 (DN_len h2); exact ⟨hf.1, hf.2 ▸ DN_one h2⟩) rfl (by simp) | exact ev_storeR (vl := [.fn (cellV 0) (.d 56), .fn (cellV 1) (.d 56), .fn (cellV 2) (.d 56)]) [13, 56] rfl (gn rfl) rfl rfl rfl Tryd.sizeOf29 rfl (fun ρ S w' _ hR => by obtain ⟨c, h1, h2⟩ := datN_get (id := 56) hR (by simp) rfl; have hf := fn3 h1 (DN_len h2); exact ⟨hf.1, hf.2 ▸ DN_one h2⟩) rfl (by simp)
    simp only [nm, seval]
    exact VE.nil _
  · kernel_rfl
  change VOk _ _ _ _ _
  refine vseq ?_
  refine vseq ?_
  apply vrp
  · apply VE.cons
    · exact ev_assign rfl (gn rfl)
    simp only [nm, seval]
    exact VE.nil _
  · kernel_rfl
  change VOk _ _ _ _ _
  refine vblock ?_
  refine vloop_w (α := {i : Nat // i ≤ j}) (fun (x : {i : Nat // i ≤ j}) f => ⟨[.v (.int .i64 ((1 + j : Nat) : Int)), .v (.int .i64 (n : Nat)), .v (f 2), .v (f 3), .v (f 4), .p 5 0, .v (.int .i64 ((x.1 + 1 : Nat) : Int)), .v (f 7), .v (f 8), .v (f 9), .v (f 10), .v (f 11), .v (f 12), .v (f 13), .v (f 14), .v (f 15), .v (f 16), .v (f 17), .v (f 18), .v (f 19), .v (f 20), .v (f 21), .v (f 22), .v (f 23), .v (f 24), .v (f 25), .v (f 26), .v (f 27), .v (f 28), .v (f 29), .v (f 30), .v (f 31), .v (f 32), .v (f 33), .v (f 34), .v (f 35), .v (f 36), .v (f 37), .v (f 38), .v (f 39), .v (f 40), .v (f 41), .v (f 42), .v (f 43), .v (f 44), .v (f 45), .v (f 46), .v (f 47), .v (f 48), .v (f 49), .v (f 50), .v (f 51), .v (f 52), .v (f 53), .v (f 54), .v (f 55), .v (f 56), .v (f 57), .v (f 58), .v (f 59), .v (f 60), .v (f 61), .v (f 62), .v (f 63), .v (f 64), .v (f 65), .v (f 66), .v (f 67), .v (f 68), .v (f 69), .v (f 70), .v (f 71), .v (f 72), .v (f 73), .v (f 74), .v (f 75), .v (f 76), .v (f 77), .v (f 78), .v (f 79), .v (f 80), .v (f 81), .v (f 82), .v (f 83), .v (f 84), .v (f 85), .v (f 86), .v (f 87), .v (f 88), .v (f 89), .v (f 90), .v (f 91), .v (f 92), .v (f 93)], memOf [(900, .dat (datN (nestT x.1))), (5, .cells [.fn (cellV 0) (.d 900), .fn (cellV 1) (.d 900), .fn (cellV 2) (.d 900)] 29)]⟩) (fun x => j - x.1) ?_ (⟨0, Nat.zero_le _⟩) ?_
  · rintro ⟨i, hi⟩ f
    obtain ⟨q, h_q⟩ : ∃ q, decide (i + 1 < 1 + j) = q := ⟨_, rfl⟩
    have h_q' := (nat_lt (i + 1) (1 + j)).trans h_q
    change VOk _ _ _ _ _
    refine vseq ?_
    refine vseq ?_
    apply vrp
    · apply VE.cons
      · exact ev_move rfl (gn rfl)
      simp only [nm, seval]
      apply VE.cons
      · exact ev_move rfl (gn rfl)
      simp only [nm, seval]
      apply VE.cons
      · exact ev_lss rfl (gn rfl) rfl rfl h_q'
      simp only [nm, seval]
      exact VE.nil _
    · kernel_rfl
    change VOk _ _ _ _ _
    cases q
    · refine vcond_f rfl ?_
      have hij : i = j := by have := of_decide_eq_false h_q; omega
      subst hij
      refine vexit ?_
      change VOk _ _ _ _ _
      refine vseq ?_
      apply vrp
      · apply VE.cons
        · exact ev_loada rfl (gn rfl) rfl rfl Tryd.underlying29 rfl Tryd.sizeOf29 rfl
        simp only [nm, seval]
        apply VE.cons
        · exact ev_callrowt [900] rfl rfl (gn rfl) rfl (en_of Tryd.func12 (by kernel_rfl) rfl) (n := B.length) (size := 1) (l := B.map b8) (y := .int .i64 e1) (by simp) (fun ρ S w' hb hR => by have := c_write (t := nestT i) 900 hok hwt hR (by simp) rfl; rw [hB, he1] at this; exact this)
        simp only [nm, seval]
        apply VE.cons
        · exact ev_move rfl (gn rfl)
        simp only [nm, seval]
        apply VE.cons
        · first | exact ev_extract rfl (gn rfl) rfl rfl | exact ev_extractt rfl (gn rfl) rfl rfl
        simp only [nm, seval]
        apply VE.cons
        · first | exact ev_extract rfl (gn rfl) rfl rfl | exact ev_extractt rfl (gn rfl) rfl rfl
        simp only [nm, seval]
        apply VE.cons
        · exact ev_assign rfl (gn rfl)
        simp only [nm, seval]
        apply VE.cons
        · exact ev_assign rfl (gn rfl)
        simp only [nm, seval]
        exact VE.nil _
      · kernel_rfl
      change VOk _ _ _ _ _
      refine vseq ?_
      apply vrp
      · apply VE.cons
        · exact ev_assign rfl (gn rfl)
        simp only [nm, seval]
        exact VE.nil _
      · kernel_rfl
      change VOk _ _ _ _ _
      refine vseq ?_
      refine vseq ?_
      apply vrp
      · apply VE.cons
        · exact ev_assign rfl (gn rfl)
        simp only [nm, seval]
        exact VE.nil _
      · kernel_rfl
      change VOk _ _ _ _ _
      refine vblock ?_
      refine vloop_w (α := {i : Nat // i ≤ n}) (fun (x : {i : Nat // i ≤ n}) f => ⟨[.v (.int .i64 ((1 + i : Nat) : Int)), .v (.int .i64 (n : Nat)), .v (f 2), .v (f 3), .v (f 4), .v (f 5), .v (f 6), .d 35, .v (.int .i64 e1), .d 901, .v (.int .i64 (x.1 : Nat)), .v (f 11), .v (f 12), .v (f 13), .v (f 14), .v (f 15), .v (f 16), .v (f 17), .v (f 18), .v (f 19), .v (f 20), .v (f 21), .v (f 22), .v (f 23), .v (f 24), .v (f 25), .v (f 26), .v (f 27), .v (f 28), .v (f 29), .v (f 30), .v (f 31), .v (f 32), .v (f 33), .v (f 34), .v (f 35), .v (f 36), .v (f 37), .v (f 38), .v (f 39), .v (f 40), .v (f 41), .v (f 42), .v (f 43), .v (f 44), .v (f 45), .v (f 46), .v (f 47), .v (f 48), .v (f 49), .v (f 50), .v (f 51), .v (f 52), .v (f 53), .v (f 54), .v (f 55), .v (f 56), .v (f 57), .v (f 58), .v (f 59), .v (f 60), .v (f 61), .v (f 62), .v (f 63), .v (f 64), .v (f 65), .v (f 66), .v (f 67), .v (f 68), .v (f 69), .v (f 70), .v (f 71), .v (f 72), .v (f 73), .v (f 74), .v (f 75), .v (f 76), .v (f 77), .v (f 78), .v (f 79), .v (f 80), .v (f 81), .v (f 82), .v (f 83), .v (f 84), .v (f 85), .v (f 86), .v (f 87), .v (f 88), .v (f 89), .v (f 90), .v (f 91), .v (f 92), .v (f 93)], memOf [(901, .row x.1 3 29 (datNs (kidT x.1))), (35, .row B.length 1 5 (.exact (B.map b8)))]⟩) (fun x => n - x.1) ?_ (⟨0, Nat.zero_le _⟩) ?_
      · rintro ⟨y, hy⟩ f
        obtain ⟨q2, h_q2⟩ : ∃ q, decide (y < n) = q := ⟨_, rfl⟩
        have h_q2' := (nat_lt y n).trans h_q2
        change VOk _ _ _ _ _
        refine vseq ?_
        refine vseq ?_
        apply vrp
        · apply VE.cons
          · exact ev_move rfl (gn rfl)
          simp only [nm, seval]
          apply VE.cons
          · exact ev_move rfl (gn rfl)
          simp only [nm, seval]
          apply VE.cons
          · exact ev_lss rfl (gn rfl) rfl rfl h_q2'
          simp only [nm, seval]
          exact VE.nil _
        · kernel_rfl
        change VOk _ _ _ _ _
        cases q2
        · refine vcond_f rfl ?_
          have hyn : y = n := by have := of_decide_eq_false h_q2; omega
          subst hyn
          cases p1 <;> cases p2 <;>
          (
            refine vexit ?_
            change VOk _ _ _ _ _
            refine vseq ?_
            apply vrp
            · apply VE.cons
              · exact ev_move rfl (gn rfl)
              simp only [nm, seval]
              apply VE.cons
              · exact ev_callrowD (n := y) (size := 3) (ty := 29) (datNs (kidT y)) (ofV 160) [901] rfl rfl (gn rfl) rfl (en_of Tryd.func17 (by kernel_rfl) rfl) (fun ρ S w' hb hR => of_row (i := 901) hR (by simp) rfl (by omega) 160)
              simp only [nm, seval]
              apply VE.cons
              · exact ev_callrowt [50] rfl rfl (gn rfl) rfl (en_of Tryd.func12 (by kernel_rfl) rfl) (n := C.length) (size := 1) (ty := 5) (l := C.map b8) (y := .int .i64 e2) (by simp) (fun ρ S w' hb hR => by obtain ⟨S', hd⟩ := node_rown (t := 160) (ks := kidT y) (id := 50) hR (by simp) rfl (kidT_len y); have := Write_ok (t := wideT y) w' hwok.1 hd hwok.2; rw [hC, he2] at this; exact this)
              simp only [nm, seval]
              apply VE.cons
              · exact ev_move rfl (gn rfl)
              simp only [nm, seval]
              apply VE.cons
              · first | exact ev_extract rfl (gn rfl) rfl rfl | exact ev_extractt rfl (gn rfl) rfl rfl
              simp only [nm, seval]
              apply VE.cons
              · first | exact ev_extract rfl (gn rfl) rfl rfl | exact ev_extractt rfl (gn rfl) rfl rfl
              simp only [nm, seval]
              apply VE.cons
              · exact ev_assign rfl (gn rfl)
              simp only [nm, seval]
              apply VE.cons
              · exact ev_assign rfl (gn rfl)
              simp only [nm, seval]
              exact VE.nil _
            · kernel_rfl
            change VOk _ _ _ _ _
            refine vseq ?_
            apply vrp
            · apply VE.cons
              · exact ev_move rfl (gn rfl)
              simp only [nm, seval]
              apply VE.cons
              · exact ev_calldt (D := datN ((rdT B).1)) (ys := [.int .i64 (rdT B).2]) [35] rfl rfl (gn rfl) rfl (en_of Tryd.func28 (by kernel_rfl) rfl) (fun ρ S w' hb hR => by obtain ⟨_, s0⟩ := sl_row (id := 35) hR (by simp) rfl; exact Read_ok w' s0 hB8 (by omega))
              simp only [nm, seval]
              apply VE.cons
              · exact ev_move rfl (gn rfl)
              simp only [nm, seval]
              apply VE.cons
              · first | exact ev_extract rfl (gn rfl) rfl rfl | exact ev_extractt rfl (gn rfl) rfl rfl
              simp only [nm, seval]
              apply VE.cons
              · first | exact ev_extract rfl (gn rfl) rfl rfl | exact ev_extractt rfl (gn rfl) rfl rfl
              simp only [nm, seval]
              apply VE.cons
              · exact ev_alloc rfl rfl (gn rfl) Tryd.zeroValue29
              simp only [nm, seval]
              apply VE.cons
              · first | exact ev_storeR (vl := [.fn (cellV 0) (.d 24), .fn (cellV 1) (.d 24), .fn (cellV 2) (.d 24)]) [5, 24] rfl (gn rfl) rfl rfl rfl Tryd.sizeOf29 rfl (fun ρ S w' _ hR => by obtain ⟨c, h1, h2⟩ := datN_get (id := 24) hR (by simp) rfl; have hf := fn3 h1 (DN_len h2); exact ⟨hf.1, hf.2 ▸ DN_one h2⟩) rfl (by simp) | exact ev_storeR (vl := [.fn (cellV 0) (.d 32), .fn (cellV 1) (.d 32), .fn (cellV 2) (.d 32)]) [5, 32] rfl (gn rfl) rfl rfl rfl Tryd.sizeOf29 rfl (fun ρ S w' _ hR => by obtain ⟨c, h1, h2⟩ := datN_get (id := 32) hR (by simp) rfl; have hf := fn3 h1 (DN_len h2); exact ⟨hf.1, hf.2 ▸ DN_one h2⟩) rfl (by simp) | exact ev_storeR (vl := [.fn (cellV 0) (.d 56), .fn (cellV 1) (.d 56), .fn (cellV 2) (.d 56)]) [13, 56] rfl (gn rfl) rfl rfl rfl Tryd.sizeOf29 rfl (fun ρ S w' _ hR => by obtain ⟨c, h1, h2⟩ := datN_get (id := 56) hR (by simp) rfl; have hf := fn3 h1 (DN_len h2); exact ⟨hf.1, hf.2 ▸ DN_one h2⟩) rfl (by simp)
              simp only [nm, seval]
              apply VE.cons
              · exact ev_assign rfl (gn rfl)
              simp only [nm, seval]
              exact VE.nil _
            · kernel_rfl
            change VOk _ _ _ _ _
            refine vseq ?_
            apply vrp
            · apply VE.cons
              · exact ev_callb rfl (gn rfl) rfl (en_of Tryd.func14 (by kernel_rfl) rfl) (fun w' hb => ders_ok w')
              simp only [nm, seval]
              apply VE.cons
              · exact ev_move rfl (gn rfl)
              simp only [nm, seval]
              apply VE.cons
              · first | exact Ev.skip (fun _ => rfl) | exact ev_move rfl (fun _ => rfl)
              simp only [nm, seval]
              apply VE.cons
              · first | exact Ev.skip (fun _ => rfl) | exact ev_eql rfl (fun _ => rfl) rfl rfl h_p1
              simp only [nm, seval]
              apply VE.cons
              · first | exact Ev.skip (fun _ => rfl) | exact ev_move rfl (fun _ => rfl)
              simp only [nm, seval]
              apply VE.cons
              · first | exact Ev.skip (fun _ => rfl) | exact ev_leq rfl (fun _ => rfl) rfl rfl h_d
              simp only [nm, seval]
              apply VE.cons
              · first | exact Ev.skip (fun _ => rfl) | exact ev_bin (c := .bool true) rfl (fun _ => rfl) rfl rfl (fun w => eqB _ _ _ _ w)
              simp only [nm, seval]
              apply VE.cons
              · first | exact ev_pick_t rfl (gn rfl) rfl rfl | exact ev_pick_f rfl (gn rfl) rfl rfl
              simp only [nm, seval]
              apply VE.cons
              · exact ev_move rfl (gn rfl)
              simp only [nm, seval]
              apply VE.cons
              · first | exact Ev.skip (fun _ => rfl) | exact ev_move rfl (fun _ => rfl)
              simp only [nm, seval]
              apply VE.cons
              · first | exact Ev.skip (fun _ => rfl) | exact ev_eql rfl (fun _ => rfl) rfl rfl h_p2
              simp only [nm, seval]
              apply VE.cons
              · first | exact Ev.skip (fun _ => rfl) | exact ev_move rfl (fun _ => rfl)
              simp only [nm, seval]
              apply VE.cons
              · first | exact Ev.skip (fun _ => rfl) | exact ev_leq rfl (fun _ => rfl) rfl rfl h_w
              simp only [nm, seval]
              apply VE.cons
              · first | exact Ev.skip (fun _ => rfl) | exact ev_bin (c := .bool true) rfl (fun _ => rfl) rfl rfl (fun w => eqB _ _ _ _ w)
              simp only [nm, seval]
              apply VE.cons
              · first | exact ev_pick_t rfl (gn rfl) rfl rfl | exact ev_pick_f rfl (gn rfl) rfl rfl
              simp only [nm, seval]
              apply VE.cons
              · exact ev_move rfl (gn rfl)
              simp only [nm, seval]
              apply VE.cons
              · first | exact Ev.skip (fun _ => rfl) | exact ev_move rfl (fun _ => rfl)
              simp only [nm, seval]
              apply VE.cons
              · first | exact Ev.skip (fun _ => rfl) | exact ev_neq rfl (fun _ => rfl) rfl rfl h_n1
              simp only [nm, seval]
              apply VE.cons
              · first | exact Ev.skip (fun _ => rfl) | exact ev_move rfl (fun _ => rfl)
              simp only [nm, seval]
              apply VE.cons
              · first | exact Ev.skip (fun _ => rfl) | exact ev_move rfl (fun _ => rfl)
              simp only [nm, seval]
              apply VE.cons
              · first | exact Ev.skip (fun _ => rfl) | exact ev_eql (p := true) rfl (fun _ => rfl) rfl rfl (decide_eq_true (hg rfl))
              simp only [nm, seval]
              apply VE.cons
              · first | exact Ev.skip (fun _ => rfl) | exact ev_pick_t rfl (fun _ => rfl) rfl rfl | exact ev_pick_f rfl (fun _ => rfl) rfl rfl
              simp only [nm, seval]
              apply VE.cons
              · first | exact ev_pick_t rfl (gn rfl) rfl rfl | exact ev_pick_f rfl (gn rfl) rfl rfl
              simp only [nm, seval]
              apply VE.cons
              · exact ev_move rfl (gn rfl)
              simp only [nm, seval]
              apply VE.cons
              · first | exact Ev.skip (fun _ => rfl) | exact ev_move rfl (fun _ => rfl)
              simp only [nm, seval]
              apply VE.cons
              · first | exact Ev.skip (fun _ => rfl) | exact ev_neq rfl (fun _ => rfl) rfl rfl h_n2
              simp only [nm, seval]
              apply VE.cons
              · first | exact Ev.skip (fun _ => rfl) | exact ev_move rfl (fun _ => rfl)
              simp only [nm, seval]
              apply VE.cons
              · first | exact Ev.skip (fun _ => rfl) | exact ev_move rfl (fun _ => rfl)
              simp only [nm, seval]
              apply VE.cons
              · first | exact Ev.skip (fun _ => rfl) | exact ev_len rfl (fun _ => rfl) rfl Tryd.underlying26 (rdg_row rfl)
              simp only [nm, seval]
              apply VE.cons
              · first | exact Ev.skip (fun _ => rfl) | exact ev_move rfl (fun _ => rfl)
              simp only [nm, seval]
              apply VE.cons
              · first | exact Ev.skip (fun _ => rfl) | exact ev_bin rfl (fun _ => rfl) rfl rfl (fun w => mul3 (n := y) (by omega) _ _ w)
              simp only [nm, seval]
              apply VE.cons
              · first | exact Ev.skip (fun _ => rfl) | exact ev_add (c := ((2 + 3 * y : Nat) : Int)) rfl (fun _ => rfl) rfl rfl (by rw [i64w (by omega) (by omega)]; omega)
              simp only [nm, seval]
              apply VE.cons
              · first | exact Ev.skip (fun _ => rfl) | exact ev_eql (p := true) rfl (fun _ => rfl) rfl rfl (decide_eq_true (by have := hcl rfl; omega))
              simp only [nm, seval]
              apply VE.cons
              · first | exact Ev.skip (fun _ => rfl) | exact ev_pick_t rfl (fun _ => rfl) rfl rfl | exact ev_pick_f rfl (fun _ => rfl) rfl rfl
              simp only [nm, seval]
              apply VE.cons
              · first | exact ev_pick_t rfl (gn rfl) rfl rfl | exact ev_pick_f rfl (gn rfl) rfl rfl
              simp only [nm, seval]
              apply VE.cons
              · exact ev_assign rfl (gn rfl)
              simp only [nm, seval]
              exact VE.nil _
            · kernel_rfl
            change VOk _ _ _ _ _
            refine vret ?_
            refine post_ret (res1 Tryd.results9 (rv_tmp rfl)) ?_
            intro ρ w' hr
            exact ⟨rfl, hr.1⟩
          )
        · refine vcond_t rfl ?_
          refine vskip ?_
          change VOk _ _ _ _ _
          refine vseq ?_
          refine vblock ?_
          apply vrp
          · apply VE.cons
            · exact ev_move rfl (gn rfl)
            simp only [nm, seval]
            apply VE.cons
            · exact ev_move rfl (gn rfl)
            simp only [nm, seval]
            apply VE.cons
            · exact ev_calld (D := datN (numT y)) [] rfl rfl (gn rfl) rfl (en_of Tryd.func24 (by kernel_rfl) rfl) (fun ρ S w' hb _ => Num_ok (y : Int) (by omega) w')
            simp only [nm, seval]
            apply VE.cons
            · exact ev_buildsl1 (n := 3) (l := [.fn (cellV 0) (.d 45), .fn (cellV 1) (.d 45), .fn (cellV 2) (.d 45)]) [45] rfl rfl (gn rfl) rfl (fun ρ S w' hR => by obtain ⟨c, h1, h2⟩ := datN_get (id := 45) hR (by simp) rfl; exact (fn3 h1 (DN_len h2)).1) rfl rfl bs29
            simp only [nm, seval]
            apply VE.cons
            · exact ev_appendD (id := 901) (ys := 46) (n := y) (k := 1) (k' := 1) (size := 3) (datNs (kidT (y + 1))) [901, 46, 45] rfl rfl (gn rfl) rfl rfl rfl rfl rfl (Nat.le_refl _) Tryd.underlying27 el29 (by decide) (by simp only [maxLen]; omega) (by omega) (by simp) (by simp) (fun ρ S w' hR => by obtain ⟨c, h1, h2⟩ := datN_get (id := 45) hR (by simp) rfl; exact (fn3 h1 (DN_len h2)).2 ▸ DN_one h2) (fun ρ S w' xs hb hR hxs => by obtain ⟨c, h1, h2⟩ := datN_get (id := 45) hR (by simp) rfl; rw [(fn3 h1 (DN_len h2)).2, kidT_succ]; exact DNs_snoc (DN_sub (fun k hk => ⟨45, by simp, rfl, hk⟩) h2) (DNs_sub (fun k hk => ⟨901, by simp, rfl, hk⟩) hxs))
            simp only [nm, seval]
            apply VE.cons
            · exact ev_assign rfl (gn rfl)
            simp only [nm, seval]
            exact VE.nil _
          · kernel_rfl
          change VOk _ _ _ _ _
          apply vrp
          · apply VE.cons
            · exact ev_move rfl (gn rfl)
            simp only [nm, seval]
            apply VE.cons
            · exact ev_add (c := ((y + 1 : Nat) : Int)) rfl (gn rfl) rfl rfl (by rw [i64w (by omega) (by omega)]; omega)
            simp only [nm, seval]
            apply VE.cons
            · exact ev_assign rfl (gn rfl)
            simp only [nm, seval]
            exact VE.nil _
          · kernel_rfl
          refine ⟨⟨y + 1, by have := of_decide_eq_true h_q2; omega⟩, by show n - (y + 1) < n - y; have := of_decide_eq_true h_q2; omega, ?_⟩
          exact (weaker_forget (fun i => i == 0 || i == 1 || i == 7 || i == 8 || i == 9 || i == 10) [46, 45]).trans2 (fun f => weaker_ren 47 901 (by decide) rfl)
      · refine (weaker_forget (fun i => i == 0 || i == 1 || i == 7 || i == 8 || i == 9 || i == 10) [900, 5]).trans2 (fun f => ?_)
        refine (weaker_name 901 3 29 (datNs []) (fun w => by trivial) (m' := [(35, .row B.length 1 5 (.exact (B.map b8)))]) rfl rfl (fun ρ hv => ?_) (fun ρ hv => ?_))
        · simp [forgetFr, SV.cs, SV.c, hv, nilV]
        · simp [memSim, memDel, Blk.sim]
    · refine vcond_t rfl ?_
      refine vskip ?_
      change VOk _ _ _ _ _
      refine vseq ?_
      refine vblock ?_
      apply vrp
      · apply VE.cons
        · exact ev_loada rfl (gn rfl) rfl rfl Tryd.underlying29 rfl Tryd.sizeOf29 rfl
        simp only [nm, seval]
        apply VE.cons
        · exact ev_buildsl1 (n := 3) (l := [.fn (cellV 0) (.d 900), .fn (cellV 1) (.d 900), .fn (cellV 2) (.d 900)]) [] rfl rfl (gn rfl) rfl (fun ρ S w' hR => agg_cells _) rfl rfl bs29
        simp only [nm, seval]
        apply VE.cons
        · exact ev_calldD (datN (nestT (i + 1))) [31, 900] rfl rfl (gn rfl) rfl (en_of Tryd.func17 (by kernel_rfl) rfl) (fun ρ S w' hb hR => of_one (i := 900) (q := 31) hR (by simp) (by simp) rfl rfl 48)
        simp only [nm, seval]
        apply VE.cons
        · first | exact ev_storeR (vl := [.fn (cellV 0) (.d 24), .fn (cellV 1) (.d 24), .fn (cellV 2) (.d 24)]) [5, 24] rfl (gn rfl) rfl rfl rfl Tryd.sizeOf29 rfl (fun ρ S w' _ hR => by obtain ⟨c, h1, h2⟩ := datN_get (id := 24) hR (by simp) rfl; have hf := fn3 h1 (DN_len h2); exact ⟨hf.1, hf.2 ▸ DN_one h2⟩) rfl (by simp) | exact ev_storeR (vl := [.fn (cellV 0) (.d 32), .fn (cellV 1) (.d 32), .fn (cellV 2) (.d 32)]) [5, 32] rfl (gn rfl) rfl rfl rfl Tryd.sizeOf29 rfl (fun ρ S w' _ hR => by obtain ⟨c, h1, h2⟩ := datN_get (id := 32) hR (by simp) rfl; have hf := fn3 h1 (DN_len h2); exact ⟨hf.1, hf.2 ▸ DN_one h2⟩) rfl (by simp) | exact ev_storeR (vl := [.fn (cellV 0) (.d 56), .fn (cellV 1) (.d 56), .fn (cellV 2) (.d 56)]) [13, 56] rfl (gn rfl) rfl rfl rfl Tryd.sizeOf29 rfl (fun ρ S w' _ hR => by obtain ⟨c, h1, h2⟩ := datN_get (id := 56) hR (by simp) rfl; have hf := fn3 h1 (DN_len h2); exact ⟨hf.1, hf.2 ▸ DN_one h2⟩) rfl (by simp)
        simp only [nm, seval]
        exact VE.nil _
      · kernel_rfl
      change VOk _ _ _ _ _
      apply vrp
      · apply VE.cons
        · exact ev_move rfl (gn rfl)
        simp only [nm, seval]
        apply VE.cons
        · exact ev_add (c := ((i + 1 + 1 : Nat) : Int)) rfl (gn rfl) rfl rfl (by rw [i64w (by omega) (by omega)]; omega)
        simp only [nm, seval]
        apply VE.cons
        · exact ev_assign rfl (gn rfl)
        simp only [nm, seval]
        exact VE.nil _
      · kernel_rfl
      refine ⟨⟨i + 1, by have := of_decide_eq_true h_q; omega⟩, by show j - (i + 1) < j - i; have := of_decide_eq_true h_q; omega, ?_⟩
      exact (weaker_forget (fun i => i == 0 || i == 1 || i == 5 || i == 6) [31, 900]).trans2 (fun f => weaker_ren 32 900 (by decide) rfl)
  · exact (weaker_forget (fun i => i == 0 || i == 1 || i == 5 || i == 6) []).trans2 (fun f => Weaker.trans2 (weaker_swap (by decide)) (fun _ => weaker_ren 24 900 (by decide) rfl))
theorem deep_law {dp wd : Int} (w : World) : Calls Tryd.prog 9 #[.int .i64 dp, .int .i64 wd] w fun e w' => e = .returned (.bool true) ∧ Bw w w' := by
  have hj := Nat.mod_lt (unsg dp) (show 0 < 12 by decide)
  have hn := Nat.mod_lt (unsg wd) (show 0 < 25 by decide)
  obtain ⟨h1, h2⟩ := nestT_ok (unsg dp % 12)
  refine deep_walk w rfl rfl (by omega) (by omega) rfl rfl rfl rfl h1 (by omega) (wideT_ok (by omega)) (wrT_lt h1) (wrT_len _) rfl rfl (deep_is _ hj).symm (wide_is _ hn).symm (fun h => ?_) (fun h => ?_)
  · obtain ⟨g1, g2, g3⟩ := wrT_zero (of_decide_eq_true h)
    rw [g3, rdT_right g1 g2]
  · have := of_decide_eq_true ((wide_is _ hn).symm.trans h)
    exact wide_len _ (by omega)
end Go.Proofs.YtmgmiiongleaeaaDoor
