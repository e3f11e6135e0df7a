import Derived.Test.YtmgmiiongleaeaaDoorDj
namespace Go.Proofs.YtmgmiiongleaeaaDoor
open Go.RowKit Go.Vx
open Go.Toll (Gw)
set_option maxHeartbeats 4000000
set_option maxRecDepth 100000
theorem strOf_b8 (l : List Nat) : strOf (l.map b8) = bstr l := by
  simp only [strOf, bstr, List.map_map]
  congr 2
theorem b8_isByte (bs : List Nat) : (bs.map b8).all isByte = true := by
  rw [List.all_map]; exact List.all_eq_true.2 fun _ _ => rfl
theorem bstr_append (a b : List Nat) : bstr a ++ bstr b = bstr (a ++ b) := by
  apply ByteArray.ext
  simp [bstr]
theorem ev_convb {P : Program} {w0 : World} {ops : Array Oper} {o : Oper} {s : VS} {st dt e : TypeId} {x : Operand} {n : Nat} {bs : List Nat} {y : SV} {rd : List Nat} (ho : o.op = .convert st dt x) (hgd : Want ops o s) (hx : svEval s x = y)
    (hs : P.underlying st = some (.slice e)) (he : P.underlying e = some (.int .u8)) (hd : P.underlying dt = some .string) (hr : Rdg w0 s.mem rd y n 1 (bs.map b8)) : Ev P ops w0 o s ⟨.v (.string (bstr bs)), [], [], [], rd⟩ := by
  have := ev_convbs (w0 := w0) ho hgd hx hs he hd hr (b8_isByte bs)
  rwa [strOf_b8] at this
theorem str_add (a b : List Nat) (h : a.length + b.length ≤ 9223372036854775807) (x y : Operand) (w : World) : (do eqGuard .add 9 x y (.string (bstr a)) (.string (bstr b)); binOp .add 9 (.string (bstr a)) (.string (bstr b)) : Sem Value).run Tryd.prog w = .ok (.string (bstr (a ++ b))) w := by
  rw [← bstr_append]
  go_simp
  rw [bstr_size, bstr_size]
  exact h
theorem strV_bstr {b : List Nat} (h : ∀ x ∈ b, x < 256) : strV (bstr b) = b.map b8 := by
  simp only [Go.Lib.strCells, bstr, List.map_map]
  apply List.map_congr_left
  intro x hx
  simp only [Function.comp, b8]
  rw [byte_nat (h x hx)]
theorem ev_convsb8 {w0 : World} {ops : Array Oper} {o : Oper} {s : VS} {st dt e : TypeId} {x : Operand} {id : Nat} {b : List Nat} (_hd : o.dst = some id) (ho : o.op = .convert st dt x) (hgd : Want ops o s) (hx : svEval s x = .v (.string (bstr b)))
    (hs : Tryd.prog.underlying st = some .string) (hd : Tryd.prog.underlying dt = some (.slice e)) (he : Tryd.prog.underlying e = some (.int .u8)) (hm : b.length ≤ maxLen) (h8 : ∀ x ∈ b, x < 256) : Ev Tryd.prog ops w0 o s ⟨.d id, [(id, .row b.length 1 e (.exact (b.map b8)))], [], [id], []⟩ := by
  have := ev_convsb (w0 := w0) _hd ho hgd hx hs hd he (by rw [bstr_size]; exact hm)
  rwa [bstr_size, strV_bstr h8] at this
theorem ev_appendstr8 {w0 : World} {ops : Array Oper} {o : Oper} {s : VS} {t u e : TypeId} {x y : Operand} {id id2 n : Nat} {xs : List Value} {b : List Nat} (_hd : o.dst = some id2) (ho : o.op = .call { callee := .builtin .append, args := #[x, y], argTypes := #[t, u] }) (hgd : Want ops o s)
    (hx : svEval s x = .d id) (hm : s.mem id = some (.row n 1 e (.exact xs))) (hy : svEval s y = .v (.string (bstr b)))
    (ht : Tryd.prog.underlying t = some (.slice e)) (hu : Tryd.prog.underlying u = some .string) (hI : ElInfo Tryd.prog e 1 1) (hl : xs.length = n) (h63 : n + b.length ≤ 140737488355328) (h8 : ∀ x ∈ b, x < 256) :
    Ev Tryd.prog ops w0 o s ⟨.d id2, [(id2, .row (n + b.length) 1 e (.exact (xs ++ b.map b8)))], [id], [id2], [id]⟩ := by
  have := ev_appendstr (w0 := w0) _hd ho hgd hx hm hy ht hu hI hl (by rw [bstr_size]; exact h63)
  rwa [bstr_size, strV_bstr h8] at this
/-- the bytes of a number, the great ones first, ahead of what is there. -/
def beR (m : Nat) (acc : List Nat) : List Nat := if h : m = 0 then acc else beR (m / 256) (n8 m :: acc)
termination_by m
decreasing_by omega
theorem beR_0 (acc : List Nat) : beR 0 acc = acc := by rw [beR]; rfl
theorem beR_s {m : Nat} (h : 0 < m) (acc : List Nat) : beR m acc = beR (hb m 8) (n8 m :: acc) := by rw [beR, dif_neg (by omega)]; rfl
def countR (n : Nat) : List Nat := bif decide (n < 128) then [n8 n] else n8 (128 + (beR n []).length) :: beR n []
theorem hb_hb (n : Nat) : hb (hb n 8) 8 = hb n 16 := by unfold hb; rw [Nat.div_div_eq_div_mul]
theorem countR_eq {n : Nat} (h : n < 16777216) : countR n = countD n := by
  unfold countR countD
  cases h1 : decide (n < 128) with
  | true => rfl
  | false =>
    have h1 := of_decide_eq_false h1
    simp only [cond_false]
    cases h2 : decide (n < 256) with
    | true =>
      have h2 := of_decide_eq_true h2
      have e : beR n [] = [n8 n] := by rw [beR_s (by omega), show hb n 8 = 0 from by unfold hb; omega, beR_0]
      rw [e]; rfl
    | false =>
      have h2 := of_decide_eq_false h2
      cases h3 : decide (n < 65536) with
      | true =>
        have h3 := of_decide_eq_true h3
        have e : beR n [] = [n8 (hb n 8), n8 n] := by rw [beR_s (by omega), beR_s (by unfold hb; omega), show hb (hb n 8) 8 = 0 from by unfold hb; omega, beR_0]
        rw [e]; rfl
      | false =>
        have h3 := of_decide_eq_false h3
        have e : beR n [] = [n8 (hb n 16), n8 (hb n 8), n8 n] := by rw [beR_s (by omega), beR_s (by unfold hb; omega), beR_s (by unfold hb; omega), show hb (hb (hb n 8) 8) 8 = 0 from by unfold hb; omega, beR_0, hb_hb]
        rw [e]; rfl
theorem beR_ge (m : Nat) (acc : List Nat) : acc.length ≤ (beR m acc).length := by
  induction m using Nat.strongRecOn generalizing acc with
  | _ m ih =>
    by_cases h : m = 0
    · subst h; rw [beR_0]; exact Nat.le_refl _
    · rw [beR_s (by omega)]
      have := ih (hb m 8) (by unfold hb; omega) (n8 m :: acc)
      simp only [List.length_cons] at this
      omega
theorem beR_len (m : Nat) (acc : List Nat) : (beR m acc).length ≤ acc.length + m := by
  induction m using Nat.strongRecOn generalizing acc with
  | _ m ih =>
    by_cases h : m = 0
    · subst h; rw [beR_0]; omega
    · rw [beR_s (by omega)]
      have := ih (hb m 8) (by unfold hb; omega) (n8 m :: acc)
      simp only [List.length_cons] at this
      have : hb m 8 < m := by unfold hb; omega
      omega
theorem rcount_ok (n : Nat) (hn : n < 16777216) (w : World) : Calls Tryd.prog 48 #[.int .i64 (n : Nat)] w fun e w' => e = .returned (.string (bstr (countR n))) ∧ Bw w w' := by
  unfold countR
  obtain ⟨q1, h_q1⟩ : ∃ p, decide (n < 128) = p := ⟨_, rfl⟩
  rw [h_q1]
  have h_q1' := (nat_lt n 128).trans h_q1
  go_enter Tryd.func48, Tryd.ntmps48
  refine ve_go ?_
  simp only [List.map_cons, List.map_nil]
  refine vseq ?_
  apply vrp
  · apply VE.cons
    · exact ev_assign rfl (gn rfl)
    simp only [nm, seval]
    exact VE.nil _
  · kernel_rfl
  change VOk _ _ _ _ _
  refine vseq ?_
  refine vseq ?_
  apply vrp
  · apply VE.cons
    · exact ev_move rfl (gn rfl)
    simp only [nm, seval]
    apply VE.cons
    · exact ev_lss rfl (gn rfl) rfl rfl h_q1'
    simp only [nm, seval]
    exact VE.nil _
  · kernel_rfl
  change VOk _ _ _ _ _
  cases q1
  · refine vcond_f rfl ?_
    refine vskip ?_
    change VOk _ _ _ _ _
    refine vseq ?_
    apply vrp
    · apply VE.cons
      · exact ev_assign rfl (gn rfl)
      simp only [nm, seval]
      exact VE.nil _
    · kernel_rfl
    change VOk _ _ _ _ _
    refine vseq ?_
    refine vblock ?_
    refine vloop_w (α := {x : Nat × List Nat // beR x.1 x.2 = beR n [] ∧ x.1 < 9223372036854775808}) (fun (x : {x : Nat × List Nat // beR x.1 x.2 = beR n [] ∧ x.1 < 9223372036854775808}) f => ⟨[.v (.int .i64 (x.1.1 : Nat)), .v (f 1), .v (f 2), .v (.string (bstr x.1.2)), .v (f 4), .v (f 5), .v (f 6), .v (f 7), .v (f 8), .v (f 9), .v (f 10), .v (f 11), .v (f 12), .v (f 13), .v (f 14), .v (f 15), .v (f 16), .v (f 17), .v (f 18), .v (f 19), .v (f 20), .v (f 21), .v (f 22), .v (f 23), .v (f 24), .v (f 25), .v (f 26), .v (f 27)], memOf []⟩) (fun x => x.1.1) ?_ (⟨(n, []), rfl, by show n < 9223372036854775808; omega⟩) ?_
    · rintro ⟨⟨m, acc⟩, hgo, hm⟩ f
      simp only at hgo hm
      have hal := beR_len n []
      have hag := beR_ge m acc
      rw [hgo] at hag
      simp only [List.length_nil] at hal
      obtain ⟨q, h_q⟩ : ∃ q, decide (m > 0) = q := ⟨_, rfl⟩
      have h_q' := (nat_gt m 0).trans h_q
      change VOk _ _ _ _ _
      refine vseq ?_
      refine vseq ?_
      apply vrp
      · apply VE.cons
        · exact ev_move rfl (gn rfl)
        simp only [nm, seval]
        apply VE.cons
        · exact ev_gtr rfl (gn rfl) rfl rfl h_q'
        simp only [nm, seval]
        exact VE.nil _
      · kernel_rfl
      change VOk _ _ _ _ _
      cases q
      · refine vcond_f rfl ?_
        have h0 : m = 0 := by have := of_decide_eq_false h_q; omega
        subst h0
        rw [beR_0] at hgo
        refine vexit ?_
        change VOk _ _ _ _ _
        refine vseq ?_
        apply vrp
        · apply VE.cons
          · exact ev_move rfl (gn rfl)
          simp only [nm, seval]
          apply VE.cons
          · exact ev_lenb (b := acc) rfl (gn rfl) rfl Tryd.underlying9
          simp only [nm, seval]
          apply VE.cons
          · exact ev_add (c := ((128 + acc.length : Nat) : Int)) rfl (gn rfl) rfl rfl (by rw [i64w (by omega) (by omega)]; omega)
          simp only [nm, seval]
          apply VE.cons
          · exact ev_conv rfl (gn rfl) rfl (fun w => cvu8 _ w)
          simp only [nm, seval]
          apply VE.cons
          · exact ev_buildslice rfl rfl (gn rfl) rfl (e := 5) (l := [b8 (n8 (128 + acc.length))]) rfl (by decide) (fun _ => by kernel_rfl)
          simp only [nm, seval]
          apply VE.cons
          · exact ev_convb (bs := [n8 (128 + acc.length)]) rfl (gn rfl) rfl Tryd.underlying26 Tryd.underlying5 Tryd.underlying9 (rdg_row rfl)
          simp only [nm, seval]
          apply VE.cons
          · exact ev_move rfl (gn rfl)
          simp only [nm, seval]
          apply VE.cons
          · exact ev_bin (c := .string (bstr ([n8 (128 + acc.length)] ++ acc))) rfl (gn rfl) rfl rfl (fun w => str_add _ _ (by simp; omega) _ _ w)
          simp only [nm, seval]
          apply VE.cons
          · exact ev_assign rfl (gn rfl)
          simp only [nm, seval]
          exact VE.nil _
        · kernel_rfl
        change VOk _ _ _ _ _
        refine vret ?_
        refine post_ret (res1 Tryd.results48 (rv_tmp rfl)) ?_
        intro ρ w' hr
        (first | exact ⟨rfl, hr.1⟩ | (refine ⟨?_, hr.1⟩; rw [← hgo]; rfl))
      · refine vcond_t rfl ?_
        refine vskip ?_
        change VOk _ _ _ _ _
        refine vblock ?_
        refine vseq ?_
        apply vrp
        · apply VE.cons
          · exact ev_move rfl (gn rfl)
          simp only [nm, seval]
          apply VE.cons
          · exact ev_conv rfl (gn rfl) rfl (fun w => cvu8 _ w)
          simp only [nm, seval]
          apply VE.cons
          · exact ev_buildslice rfl rfl (gn rfl) rfl (e := 5) (l := [b8 (n8 m)]) rfl (by decide) (fun _ => by kernel_rfl)
          simp only [nm, seval]
          apply VE.cons
          · exact ev_convb (bs := [n8 m]) rfl (gn rfl) rfl Tryd.underlying26 Tryd.underlying5 Tryd.underlying9 (rdg_row rfl)
          simp only [nm, seval]
          apply VE.cons
          · exact ev_move rfl (gn rfl)
          simp only [nm, seval]
          apply VE.cons
          · exact ev_bin (c := .string (bstr ([n8 m] ++ acc))) rfl (gn rfl) rfl rfl (fun w => str_add _ _ (by simp; omega) _ _ w)
          simp only [nm, seval]
          apply VE.cons
          · exact ev_assign rfl (gn rfl)
          simp only [nm, seval]
          exact VE.nil _
        · kernel_rfl
        change VOk _ _ _ _ _
        apply vrp
        · apply VE.cons
          · exact ev_move rfl (gn rfl)
          simp only [nm, seval]
          apply VE.cons
          · exact ev_bin rfl (gn rfl) rfl rfl (fun w => shr_8 _ hm _ _ w)
          simp only [nm, seval]
          apply VE.cons
          · exact ev_assign rfl (gn rfl)
          simp only [nm, seval]
          exact VE.nil _
        · kernel_rfl
        refine ⟨⟨(hb m 8, n8 m :: acc), by show beR (hb m 8) (n8 m :: acc) = beR n []; rw [← beR_s (of_decide_eq_true h_q)]; exact hgo, by show hb m 8 < 9223372036854775808; unfold hb; omega⟩, by show hb m 8 < m; have := of_decide_eq_true h_q; unfold hb; omega, ?_⟩
        exact weaker_forget (fun i => i == 0 || i == 3) [14]
    · exact weaker_forget (fun i => i == 0 || i == 3) []
  · refine vcond_t rfl ?_
    refine vseq ?_
    apply vrp
    · apply VE.cons
      · exact ev_move rfl (gn rfl)
      simp only [nm, seval]
      apply VE.cons
      · exact ev_conv rfl (gn rfl) rfl (fun w => cvu8 _ w)
      simp only [nm, seval]
      apply VE.cons
      · exact ev_buildslice rfl rfl (gn rfl) rfl (e := 5) (l := [b8 (n8 n)]) rfl (by decide) (fun _ => by kernel_rfl)
      simp only [nm, seval]
      apply VE.cons
      · exact ev_convb (bs := [n8 n]) rfl (gn rfl) rfl Tryd.underlying26 Tryd.underlying5 Tryd.underlying9 (rdg_row rfl)
      simp only [nm, seval]
      apply VE.cons
      · exact ev_assign rfl (gn rfl)
      simp only [nm, seval]
      exact VE.nil _
    · kernel_rfl
    change VOk _ _ _ _ _
    refine vret ?_
    refine post_ret (res1 Tryd.results48 (rv_tmp rfl)) ?_
    intro ρ w' hr
    (first | exact ⟨rfl, hr.1⟩ | (refine ⟨?_, hr.1⟩; rw [← hgo]; rfl))
mutual
def bytesT : Tr → List Nat
  | .mk t b ks => [tb t] ++ countD (bb b ks).length ++ bb b ks
def bb : List Nat → List Tr → List Nat
  | acc, [] => acc
  | acc, k :: ks => bb (acc ++ bytesT k) ks
end
mutual
theorem bytesT_len : ∀ t : Tr, (bytesT t).length ≤ wt t
  | .mk t b ks => by
    have h1 := bb_len ks b
    have h2 := countD_len (bb b ks).length
    simp only [bytesT, wt, List.length_append, List.length_singleton]
    omega
theorem bb_len : ∀ (ks : List Tr) (acc : List Nat), (bb acc ks).length ≤ acc.length + wts ks
  | [], acc => by simp [bb, wts]
  | k :: ks, acc => by
    have h1 := bytesT_len k
    have h2 := bb_len ks (acc ++ bytesT k)
    simp only [bb, wts]
    rw [List.length_append] at h2
    omega
end
theorem n8_lt (n : Nat) : n8 n < 256 := by unfold n8; omega
theorem tb_lt (t : Int) : tb t < 256 := by unfold tb; omega
theorem countD_lt (n : Nat) : ∀ x ∈ countD n, x < 256 := by
  unfold countD
  have h1 := n8_lt n
  have h2 := n8_lt (hb n 8)
  have h3 := n8_lt (hb n 16)
  cases decide (n < 128) <;> cases decide (n < 256) <;> cases decide (n < 65536) <;> simp <;> omega
mutual
theorem bytesT_lt : ∀ t : Tr, t.ok → ∀ x ∈ bytesT t, x < 256
  | .mk t b ks, h => fun x hx => by
    simp only [Tr.ok] at h
    simp only [bytesT, List.mem_append, List.mem_singleton] at hx
    rcases hx with (hx | hx) | hx
    · rw [hx]; exact tb_lt t
    · exact countD_lt _ x hx
    · exact bb_lt ks h.2.2.2 b h.1 x hx
theorem bb_lt : ∀ ks : List Tr, oks ks → ∀ acc : List Nat, (∀ x ∈ acc, x < 256) → ∀ x ∈ bb acc ks, x < 256
  | [], _ => fun acc h x hx => h x hx
  | k :: ks, h => fun acc ha x hx => by
    simp only [oks] at h
    simp only [bb] at hx
    exact bb_lt ks h.2 (acc ++ bytesT k) (fun y hy => (List.mem_append.1 hy).elim (ha y) (bytesT_lt k h.1 y)) x hx
end
theorem bb_ge : ∀ (ks : List Tr) (acc : List Nat), acc.length ≤ (bb acc ks).length
  | [], acc => Nat.le_refl _
  | k :: ks, acc => by
    have := bb_ge ks (acc ++ bytesT k)
    rw [List.length_append] at this
    simp only [bb]; omega
theorem wk_ge : ∀ (ks : List Tr) (acc : List Nat), acc.length ≤ (wk acc ks).length
  | [], acc => by simp [wk]
  | k :: ks, acc => by
    have := wk_ge ks (acc ++ writeT k)
    rw [List.length_append] at this
    cases h : decide (acc.length > 2048) with
    | true => rw [wk_t h]; exact Nat.le_refl _
    | false => rw [wk_f h]; omega
mutual
theorem wr_same : ∀ t : Tr, ((bytesT t).length ≤ 2048 → writeT t = bytesT t) ∧ (2048 < (bytesT t).length → 2048 < (writeT t).length)
  | .mk t b ks => by
    obtain ⟨h1, h2⟩ := wk_same ks b
    by_cases h : (bb b ks).length ≤ 2048
    · have e : writeT (.mk t b ks) = bytesT (.mk t b ks) := by simp only [writeT, bytesT, h1 h]
      exact ⟨fun _ => e, fun h => by rw [e]; exact h⟩
    · refine ⟨fun hh => ?_, fun _ => ?_⟩
      · simp only [bytesT, List.length_append] at hh; omega
      · have := h2 (by omega)
        simp only [writeT, List.length_append]; omega
theorem wk_same : ∀ (ks : List Tr) (acc : List Nat), ((bb acc ks).length ≤ 2048 → wk acc ks = bb acc ks) ∧ (2048 < (bb acc ks).length → 2048 < (wk acc ks).length)
  | [], acc => ⟨fun _ => by simp [wk, bb], fun h => by simpa [wk, bb] using h⟩
  | k :: ks, acc => by
    obtain ⟨h1, h2⟩ := wr_same k
    obtain ⟨h3, h4⟩ := wk_same ks (acc ++ bytesT k)
    have g1 := bb_ge ks (acc ++ bytesT k)
    rw [List.length_append] at g1
    simp only [bb]
    by_cases ha : decide (acc.length > 2048) = true
    · rw [wk_t ha]
      have := of_decide_eq_true ha
      exact ⟨fun h => by omega, fun _ => this⟩
    · have ha := by simpa using ha
      have ha' : decide (acc.length > 2048) = false := decide_eq_false (by omega)
      rw [wk_f ha']
      by_cases hk : (bytesT k).length ≤ 2048
      · rw [h1 hk]; exact ⟨h3, h4⟩
      · refine ⟨fun h => by omega, fun _ => ?_⟩
        have g2 := wk_ge ks (acc ++ writeT k)
        rw [List.length_append] at g2
        have := h2 (by omega)
        omega
end
def BytesOK (t : Tr) : Prop := ∀ (xs : List Value) (w : World) (S : Nat → Prop), RN w S t xs → wt t ≤ 1048576 → Calls Tryd.prog 33 #[.agg xs.toArray] w fun e w' => e = .returned (.string (bstr (bytesT t))) ∧ Bw w w'
theorem oks_get : ∀ {ks : List Tr}, oks ks → ∀ {i : Nat} {k : Tr}, ks[i]? = some k → k.ok
  | [], _, _, _, h => by cases h
  | k0 :: ks, h, i, k, hk => by
    simp only [oks] at h
    cases i with
    | zero => simp only [List.getElem?_cons_zero, Option.some.injEq] at hk; exact hk ▸ h.1
    | succ i => exact oks_get h.2 (i := i) (by simpa using hk)
theorem bytes_step {t : Int} {b : List Nat} {ks : List Tr} {kv : Value} {cs : List Value} {S : Nat → Prop} (w : World) (hih : ∀ k ∈ ks, BytesOK k) (hoks : oks ks) (h8 : ∀ x ∈ b, x < 256) (hv : SlAt w kv ks.length 3 cs S) (hn : RNs w S ks cs) (hks : ks.length ≤ 1048576) (hwt : b.length + wts ks ≤ 1048576) : Calls Tryd.prog 33 #[.agg #[.int .i64 t, .string (bstr b), kv]] w fun e w' => e = .returned (.string (bstr (bytesT (.mk t b ks)))) ∧ Bw w w' := by
  go_enter Tryd.func33, Tryd.ntmps33
  refine ve_go ?_
  simp only [List.map_cons, List.map_nil]
  refine vseq ?_
  apply vrp
  · apply VE.cons
    · exact ev_box rfl rfl (gn rfl) rfl
    simp only [nm, seval]
    apply VE.cons
    · exact ev_assign rfl (gn rfl)
    simp only [nm, seval]
    exact VE.nil _
  · kernel_rfl
  change VOk _ _ _ _ _
  refine vseq ?_
  apply vrp
  · apply VE.cons
    · first | exact ev_field rfl (gn rfl) rfl Tryd.underlying24 rfl Tryd.sizeOf9 | exact ev_fieldx rfl (gn rfl) rfl Tryd.underlying24 rfl Tryd.sizeOf9
    simp only [nm, seval]
    apply VE.cons
    · first | exact ev_load1 rfl (gn rfl) rfl rfl Tryd.underlying9 rfl rfl | exact ev_loadx1 rfl (gn rfl) rfl Tryd.underlying9 rfl (by assumption)
    simp only [nm, seval]
    apply VE.cons
    · exact ev_convsb8 rfl rfl (gn rfl) rfl Tryd.underlying9 Tryd.underlying26 Tryd.underlying5 (by simp only [maxLen]; omega) h8
    simp only [nm, seval]
    apply VE.cons
    · exact ev_assign rfl (gn rfl)
    simp only [nm, seval]
    exact VE.nil _
  · kernel_rfl
  change VOk _ _ _ _ _
  refine vseq ?_
  refine vseq ?_
  apply vrp
  · apply VE.cons
    · exact ev_assign rfl (gn rfl)
    simp only [nm, seval]
    exact VE.nil _
  · kernel_rfl
  change VOk _ _ _ _ _
  refine vblock ?_
  refine vloop_w (α := {x : Nat × List Nat // x.1 ≤ ks.length ∧ bb b ks = bb x.2 (ks.drop x.1) ∧ x.2.length + wts (ks.drop x.1) ≤ b.length + wts ks}) (fun (x : {x : Nat × List Nat // x.1 ≤ ks.length ∧ bb b ks = bb x.2 (ks.drop x.1) ∧ x.2.length + wts (ks.drop x.1) ≤ b.length + wts ks}) f => ⟨[.v (f 0), .p 1 0, .v (.string (ByteArray.mk #[])), .d 900, .v (.int .i64 (x.1.1 : Nat)), .v (f 5), .v (f 6), .v (f 7), .v (f 8), .v (f 9), .v (f 10), .v (f 11), .v (f 12), .v (f 13), .v (f 14), .v (f 15), .v (f 16), .v (f 17), .v (f 18), .v (f 19), .v (f 20), .v (f 21), .v (f 22), .v (f 23), .v (f 24), .v (f 25), .v (f 26), .v (f 27), .v (f 28), .v (f 29), .v (f 30), .v (f 31), .v (f 32), .v (f 33), .v (f 34)], memOf [(900, .row x.1.2.length 1 5 (.exact (x.1.2.map b8))), (1, .cells [.v (.int .i64 t), .v (.string (bstr b)), .v kv] 24)]⟩) (fun x => ks.length - x.1.1) ?_ (⟨(0, b), Nat.zero_le _, rfl, Nat.le_refl _⟩) ?_
  · rintro ⟨⟨i, acc⟩, hi, hgo, hsz⟩ f
    simp only at hi hgo hsz
    obtain ⟨q, h_q⟩ : ∃ q, decide ((i : Int) < (ks.length : Int)) = q := ⟨_, rfl⟩
    change VOk _ _ _ _ _
    refine vseq ?_
    refine vseq ?_
    apply vrp
    · apply VE.cons
      · exact ev_move rfl (gn rfl)
      simp only [nm, seval]
      apply VE.cons
      · first | exact ev_field rfl (gn rfl) rfl Tryd.underlying24 rfl Tryd.sizeOf22 | exact ev_fieldx rfl (gn rfl) rfl Tryd.underlying24 rfl Tryd.sizeOf22
      simp only [nm, seval]
      apply VE.cons
      · first | exact ev_load1 rfl (gn rfl) rfl rfl Tryd.underlying22 rfl rfl | exact ev_loadx1 rfl (gn rfl) rfl Tryd.underlying22 rfl (by assumption)
      simp only [nm, seval]
      apply VE.cons
      · exact ev_len rfl (gn rfl) rfl Tryd.underlying22 (rdg_arg hv)
      simp only [nm, seval]
      apply VE.cons
      · exact ev_lss rfl (gn rfl) rfl rfl h_q
      simp only [nm, seval]
      exact VE.nil _
    · kernel_rfl
    change VOk _ _ _ _ _
    cases q
    · refine vcond_f rfl ?_
      have hge : ks.length ≤ i := by have := of_decide_eq_false h_q; omega
      have hfin : bb b ks = acc := by rw [hgo, List.drop_eq_nil_of_le hge]; rfl
      have hcl := countD_len acc.length
      refine vexit ?_
      change VOk _ _ _ _ _
      refine vseq ?_
      apply vrd (by kernel_rfl)
      · apply VE.cons
        · first | exact ev_field rfl (gn rfl) rfl Tryd.underlying24 rfl Tryd.sizeOf3 | exact ev_fieldx rfl (gn rfl) rfl Tryd.underlying24 rfl Tryd.sizeOf3
        simp only [nm, seval]
        apply VE.cons
        · first | exact ev_load1 rfl (gn rfl) rfl rfl Tryd.underlying3 rfl rfl | exact ev_loadx1 rfl (gn rfl) rfl Tryd.underlying3 rfl (by assumption)
        simp only [nm, seval]
        apply VE.cons
        · exact ev_conv rfl (gn rfl) rfl (fun w => cvt8 _ w)
        simp only [nm, seval]
        apply VE.cons
        · exact ev_buildslice rfl rfl (gn rfl) rfl (e := 5) (l := [b8 (tb t)]) rfl (by decide) (fun _ => by kernel_rfl)
        simp only [nm, seval]
        apply VE.cons
        · exact ev_convb (bs := [tb t]) rfl (gn rfl) rfl Tryd.underlying26 Tryd.underlying5 Tryd.underlying9 (rdg_row rfl)
        simp only [nm, seval]
        apply VE.cons
        · exact ev_move rfl (gn rfl)
        simp only [nm, seval]
        apply VE.cons
        · exact ev_len rfl (gn rfl) rfl Tryd.underlying26 (rdg_row rfl)
        simp only [nm, seval]
        apply VE.cons
        · exact ev_callb (v := .string (bstr (countD acc.length))) rfl (gn rfl) rfl (en_of Tryd.func48 (by kernel_rfl) rfl) (fun w' hb => countR_eq (n := acc.length) (by omega) ▸ rcount_ok acc.length (by omega) w')
        simp only [nm, seval]
        apply VE.cons
        · exact ev_bin (c := .string (bstr ([tb t] ++ countD acc.length))) rfl (gn rfl) rfl rfl (fun w => str_add _ _ (by simp; omega) _ _ w)
        simp only [nm, seval]
        apply VE.cons
        · exact ev_move rfl (gn rfl)
        simp only [nm, seval]
        apply VE.cons
        · exact ev_convb (bs := acc) rfl (gn rfl) rfl Tryd.underlying26 Tryd.underlying5 Tryd.underlying9 (rdg_row rfl)
        simp only [nm, seval]
        apply VE.cons
        · exact ev_bin (c := .string (bstr (([tb t] ++ countD acc.length) ++ acc))) rfl (gn rfl) rfl rfl (fun w => str_add _ _ (by simp; omega) _ _ w)
        simp only [nm, seval]
        apply VE.cons
        · exact ev_assign rfl (gn rfl)
        simp only [nm, seval]
        exact VE.nil _
      · kernel_rfl
      change VOk _ _ _ _ _
      refine vret ?_
      refine post_ret (res1 Tryd.results33 (rv_tmp rfl)) ?_
      intro ρ w' hr
      refine ⟨?_, hr.1⟩
      rw [bytesT, hfin]
      rfl
    · refine vcond_t rfl ?_
      have hlt : i < ks.length := by have := of_decide_eq_true h_q; omega
      obtain ⟨kk, hk⟩ := get_some hlt
      have hwl := bytesT_len kk
      have hwk : wt kk + wts (ks.drop (i + 1)) = wts (ks.drop i) := by rw [drop_get hk, wts]
      obtain ⟨x, hx, hdn⟩ := RNs_get hn hk
      obtain ⟨x0, x1, x2, rfl⟩ := list3 (RN_len hdn)
      refine vskip ?_
      change VOk _ _ _ _ _
      refine vseq ?_
      refine vblock ?_
      apply vrp
      · apply VE.cons
        · exact ev_move rfl (gn rfl)
        simp only [nm, seval]
        apply VE.cons
        · first | exact ev_field rfl (gn rfl) rfl Tryd.underlying24 rfl Tryd.sizeOf22 | exact ev_fieldx rfl (gn rfl) rfl Tryd.underlying24 rfl Tryd.sizeOf22
        simp only [nm, seval]
        apply VE.cons
        · first | exact ev_load1 rfl (gn rfl) rfl rfl Tryd.underlying22 rfl rfl | exact ev_loadx1 rfl (gn rfl) rfl Tryd.underlying22 rfl (by assumption)
        simp only [nm, seval]
        apply VE.cons
        · exact ev_move rfl (gn rfl)
        simp only [nm, seval]
        apply VE.cons
        · exact ev_idx (k := i) rfl (gn rfl) rfl rfl Tryd.underlying22 Tryd.sizeOf24 (rdg_arg hv) (hlt) (by decide)
        simp only [nm, seval]
        apply VE.cons
        · exact ev_loadp rfl (gn rfl) rfl Tryd.underlying24 rfl Tryd.sizeOf24 (rdg_arg hv) (hx) rfl (by decide)
        simp only [nm, seval]
        apply VE.cons
        · exact ev_callb rfl (gn rfl) rfl (en_of Tryd.func33 (by kernel_rfl) rfl) (fun w' hb => hih kk (List.mem_of_getElem? hk) _ w' _ (RN_bw hb hdn) (by omega))
        simp only [nm, seval]
        apply VE.cons
        · exact ev_appendstr8 rfl rfl (gn rfl) rfl rfl rfl Tryd.underlying26 Tryd.underlying9 el5 (by simp) (by omega) (bytesT_lt kk (oks_get hoks hk))
        simp only [nm, seval]
        apply VE.cons
        · exact ev_assign rfl (gn rfl)
        simp only [nm, seval]
        exact VE.nil _
      · kernel_rfl
      change VOk _ _ _ _ _
      apply vrp
      · apply VE.cons
        · exact ev_move rfl (gn rfl)
        simp only [nm, seval]
        apply VE.cons
        · exact ev_add (c := ((i + 1 : Nat) : Int)) rfl (gn rfl) rfl rfl (by rw [i64w (by omega) (by omega)]; omega)
        simp only [nm, seval]
        apply VE.cons
        · exact ev_assign rfl (gn rfl)
        simp only [nm, seval]
        exact VE.nil _
      · kernel_rfl
      obtain ⟨acc', hacc⟩ : ∃ acc', acc ++ bytesT kk = acc' := ⟨_, rfl⟩
      have hl2 : acc.length + (bytesT kk).length = acc'.length := by rw [← hacc, List.length_append]
      have hm2 : acc.map b8 ++ (bytesT kk).map b8 = acc'.map b8 := by rw [← hacc, List.map_append]
      rw [hl2, hm2]
      refine ⟨⟨(i + 1, acc'), by show i + 1 ≤ ks.length; omega, by show bb b ks = bb acc' (ks.drop (i + 1)); rw [hgo, drop_get hk, bb, hacc], by show acc'.length + wts (ks.drop (i + 1)) ≤ b.length + wts ks; rw [drop_get hk, wts] at hsz; omega⟩, by show ks.length - (i + 1) < ks.length - i; omega, ?_⟩
      exact (weaker_forget (fun i => i == 1 || i == 2 || i == 3 || i == 4) []).trans2 (fun f => weaker_ren 22 900 (by decide) rfl)
  · exact (weaker_forget (fun i => i == 1 || i == 2 || i == 3 || i == 4) []).trans2 (fun f => weaker_ren 7 900 (by decide) rfl)
mutual
theorem bytes_all : ∀ t : Tr, t.ok → BytesOK t
  | .mk t b ks, h => fun xs w S hx hwt => by
    simp only [Tr.ok] at h
    simp only [RN] at hx
    obtain ⟨kv, cs, rfl, h3, h4⟩ := hx
    simp only [wt] at hwt
    exact bytes_step w (bytess_all ks h.2.2.2) h.2.2.2 h.1 h3 h4 h.2.2.1 (by omega)
theorem bytess_all : ∀ ks : List Tr, oks ks → ∀ k ∈ ks, BytesOK k
  | [], _ => fun k hk => by cases hk
  | k0 :: ks, h => fun k hk => by
    simp only [oks] at h
    rcases List.mem_cons.1 hk with e | hk
    · exact e ▸ bytes_all k0 h.1
    · exact bytess_all ks h.2 k hk
end
/-- what Write tells: bytes, and how it went. -/
def wrT (t : Tr) : List Nat × Int := bif rightT t 1 then (bif decide ((bytesT t).length > 2048) then ([], 4) else (bytesT t, 0)) else ([], 2)
theorem rWrite_ok {t : Tr} {x0 x1 x2 : Value} {S : Nat → Prop} (w : World) (hok : t.ok) (hx : RN w S t [x0, x1, x2]) (hwt : wt t ≤ 1048576) : Calls Tryd.prog 13 #[.agg #[x0, x1, x2]] w fun e w' => e = .returned (.tuple #[.string (bstr (wrT t).1), .int .i64 (wrT t).2]) ∧ Bw w w' := by
  unfold wrT
  obtain ⟨r0, hr0⟩ : ∃ r0, rightT t 1 = r0 := ⟨_, rfl⟩
  obtain ⟨q, hq⟩ : ∃ q, decide ((bytesT t).length > 2048) = q := ⟨_, rfl⟩
  rw [hr0, hq]
  have hq' := (nat_gt (bytesT t).length 2048).trans hq
  go_enter Tryd.func13, Tryd.ntmps13
  refine ve_go ?_
  simp only [List.map_cons, List.map_nil]
  refine vseq ?_
  apply vrp
  · apply VE.cons
    · exact ev_box rfl rfl (gn rfl) rfl
    simp only [nm, seval]
    apply VE.cons
    · exact ev_assign rfl (gn rfl)
    simp only [nm, seval]
    apply VE.cons
    · exact ev_assign rfl (gn rfl)
    simp only [nm, seval]
    exact VE.nil _
  · kernel_rfl
  change VOk _ _ _ _ _
  refine vseq ?_
  refine vseq ?_
  apply vrp
  · apply VE.cons
    · first | exact ev_load rfl (gn rfl) rfl rfl Tryd.underlying24 rfl Tryd.sizeOf24 rfl rfl | exact ev_loadx rfl (gn rfl) rfl Tryd.underlying24 rfl Tryd.sizeOf24 (by assumption) rfl | exact ev_loada rfl (gn rfl) rfl rfl Tryd.underlying24 rfl Tryd.sizeOf24 rfl
    simp only [nm, seval]
    apply VE.cons
    · exact ev_callb (v := .bool r0) rfl (gn rfl) rfl (en_of Tryd.func18 (by kernel_rfl) rfl) (fun w' hb => hr0 ▸ rright_all t hok 1 _ w' _ (by omega) (RN_bw hb hx))
    simp only [nm, seval]
    apply VE.cons
    · exact ev_not rfl (gn rfl) rfl
    simp only [nm, seval]
    exact VE.nil _
  · kernel_rfl
  change VOk _ _ _ _ _
  cases r0
  · refine vcond_t rfl ?_
    refine vseq ?_
    apply vrp
    · apply VE.cons
      · exact ev_assign rfl (gn rfl)
      simp only [nm, seval]
      apply VE.cons
      · exact ev_assign rfl (gn rfl)
      simp only [nm, seval]
      exact VE.nil _
    · kernel_rfl
    change VOk _ _ _ _ _
    refine vret ?_
    refine post_ret (res2 Tryd.results13 (rv_tmp rfl) (rv_tmp rfl)) ?_
    intro ρ w' hr
    exact ⟨rfl, hr.1⟩
  · refine vcond_f rfl ?_
    refine vskip ?_
    change VOk _ _ _ _ _
    refine vseq ?_
    apply vrp
    · apply VE.cons
      · first | exact ev_load rfl (gn rfl) rfl rfl Tryd.underlying24 rfl Tryd.sizeOf24 rfl rfl | exact ev_loadx rfl (gn rfl) rfl Tryd.underlying24 rfl Tryd.sizeOf24 (by assumption) rfl | exact ev_loada rfl (gn rfl) rfl rfl Tryd.underlying24 rfl Tryd.sizeOf24 rfl
      simp only [nm, seval]
      apply VE.cons
      · exact ev_callb rfl (gn rfl) rfl (en_of Tryd.func33 (by kernel_rfl) rfl) (fun w' hb => bytes_all t hok _ w' _ (RN_bw hb hx) hwt)
      simp only [nm, seval]
      apply VE.cons
      · exact ev_assign rfl (gn rfl)
      simp only [nm, seval]
      exact VE.nil _
    · kernel_rfl
    change VOk _ _ _ _ _
    refine vseq ?_
    refine vseq ?_
    apply vrp
    · apply VE.cons
      · exact ev_move rfl (gn rfl)
      simp only [nm, seval]
      apply VE.cons
      · exact ev_lenb (b := bytesT t) rfl (gn rfl) rfl Tryd.underlying9
      simp only [nm, seval]
      apply VE.cons
      · exact ev_gtr rfl (gn rfl) rfl rfl hq'
      simp only [nm, seval]
      exact VE.nil _
    · kernel_rfl
    change VOk _ _ _ _ _
    cases q
    · refine vcond_f rfl ?_
      refine vskip ?_
      change VOk _ _ _ _ _
      refine vseq ?_
      apply vrp
      · apply VE.cons
        · exact ev_move rfl (gn rfl)
        simp only [nm, seval]
        apply VE.cons
        · exact ev_assign rfl (gn rfl)
        simp only [nm, seval]
        apply VE.cons
        · exact ev_assign rfl (gn rfl)
        simp only [nm, seval]
        exact VE.nil _
      · kernel_rfl
      change VOk _ _ _ _ _
      refine vret ?_
      refine post_ret (res2 Tryd.results13 (rv_tmp rfl) (rv_tmp rfl)) ?_
      intro ρ w' hr
      exact ⟨rfl, hr.1⟩
    · refine vcond_t rfl ?_
      refine vseq ?_
      apply vrp
      · apply VE.cons
        · exact ev_assign rfl (gn rfl)
        simp only [nm, seval]
        apply VE.cons
        · exact ev_assign rfl (gn rfl)
        simp only [nm, seval]
        exact VE.nil _
      · kernel_rfl
      change VOk _ _ _ _ _
      refine vret ?_
      refine post_ret (res2 Tryd.results13 (rv_tmp rfl) (rv_tmp rfl)) ?_
      intro ρ w' hr
      exact ⟨rfl, hr.1⟩
end Go.Proofs.YtmgmiiongleaeaaDoor
