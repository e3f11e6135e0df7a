import Derived.Test.YtmgmiiongleaeaaDoorDi
namespace Go.Proofs.YtmgmiiongleaeaaDoor
open Go.RowKit Go.Vx
open Go.Toll (Gw)
set_option maxHeartbeats 4000000
set_option maxRecDepth 100000
mutual
/-- what write makes of a node: no more than are wanted, some way on. -/
def writeT : Tr → List Nat
  | .mk t b ks => [tb t] ++ countD (wk b ks).length ++ wk b ks
def wk : List Nat → List Tr → List Nat
  | acc, [] => acc
  | acc, k :: ks => bif decide (acc.length > 2048) then acc else wk (acc ++ writeT k) ks
end
mutual
def wt : Tr → Nat
  | .mk _ b ks => b.length + wts ks + 10
def wts : List Tr → Nat
  | [] => 0
  | k :: ks => wt k + wts ks
end
theorem countD_len (n : Nat) : (countD n).length ≤ 4 := by
  unfold countD
  cases decide (n < 128) <;> cases decide (n < 256) <;> cases decide (n < 65536) <;> simp
mutual
theorem writeT_len : ∀ t : Tr, (writeT t).length ≤ wt t
  | .mk t b ks => by
    have h1 := wk_len ks b
    have h2 := countD_len (wk b ks).length
    simp only [writeT, wt, List.length_append, List.length_singleton]
    omega
theorem wk_len : ∀ (ks : List Tr) (acc : List Nat), (wk acc ks).length ≤ acc.length + wts ks
  | [], acc => by simp [wk, wts]
  | k :: ks, acc => by
    have h1 := writeT_len k
    have h2 := wk_len ks (acc ++ writeT k)
    simp only [wk, wts]
    rw [List.length_append] at h2
    cases decide (acc.length > 2048) with
    | true => simp only [cond_true]; omega
    | false => simp only [cond_false]; omega
end
theorem wk_t {acc : List Nat} {k : Tr} {ks : List Tr} (h : decide (acc.length > 2048) = true) : wk acc (k :: ks) = acc := by simp only [wk, h, cond_true]
theorem wk_f {acc : List Nat} {k : Tr} {ks : List Tr} (h : decide (acc.length > 2048) = false) : wk acc (k :: ks) = wk (acc ++ writeT k) ks := by simp only [wk, h, cond_false]
theorem bs3 (v0 v1 v2 : Value) (w : World) (h0 : v0.cells = #[v0]) (h1 : v1.cells = #[v1]) (h2 : v2.cells = #[v2]) : (Instr.buildSlice 87 3 #[(0, v0), (1, v1), (2, v2)]).run Tryd.prog w = .ok (.slice (some ⟨w.heap.size, 0, none⟩) 3 3) (w.alloc (.cells #[v0, v1, v2] 26)) := by
  have hz : ∀ w, (zeroValue 26).run Tryd.prog w = .ok (.slice none 0 0) w := Tryd.zeroValue26
  have hs : ∀ w, (Go.sizeOf 26).run Tryd.prog w = .ok 1 w := Tryd.sizeOf26
  unfold Instr.buildSlice
  have hzc : Value.cells (.slice none 0 0) = #[.slice none 0 0] := rfl
  simp [run_underlying Tryd.underlying87, hs, hz, Instr.fill, h0, h1, h2, hzc, newRow, newObj]
  rw [show (Array.map (fun x => ([Value.slice none 0 0][x % 1]?).getD default) (Array.range 3)) = #[.slice none 0 0, .slice none 0 0, .slice none 0 0] from by kernel_rfl]
  rfl
def WriteOK (t : Tr) : Prop := ∀ (xs : List Value) (w : World) (S : Nat → Prop), DN w S t xs → wt t ≤ 1073741824 → Calls Tryd.prog 32 #[.agg xs.toArray] w fun e w' => ∃ v, e = .returned v ∧ RetRow w w' v ((writeT t).length) 1 5 ((writeT t).map b8) ∧ Bw w w'
theorem sl_shape {w : World} {v : Value} {n size : Nat} {l : List Value} {S : Nat → Prop} (h : SlAt w v n size l S) : ∃ a c, v = .slice a n c := by obtain ⟨a, c, h, _⟩ := h; exact ⟨a, c, h⟩
theorem write_step {t : Int} {b : List Nat} {ks : List Tr} {ba ka : Option Addr} {bc kc : Nat} {cs : List Value} {S : Nat → Prop} (w : World) (hih : ∀ k ∈ ks, WriteOK k) (hbv : SlAt w (.slice ba b.length bc) b.length 1 (b.map b8) S) (hv : SlAt w (.slice ka ks.length kc) ks.length 3 cs S) (hn : DNs w S ks cs) (hks : ks.length ≤ 1073741824) (hwt : b.length + wts ks ≤ 1073741824) {out : List Nat} (hout : [tb t] ++ countD (wk b ks).length ++ wk b ks = out) : Calls Tryd.prog 32 #[.agg #[.int .i64 t, .slice ba b.length bc, .slice ka ks.length kc]] w fun e w' => ∃ v, e = .returned v ∧ RetRow w w' v (out.length) 1 5 (out.map b8) ∧ Bw w w' := by
  go_enter Tryd.func32, Tryd.ntmps32
  refine ve_go ?_
  simp only [List.map_cons, List.map_nil]
  refine vseq ?_
  apply vrp
  · apply VE.cons
    · exact ev_box rfl rfl (gn rfl) rfl
    simp only [nm, seval]
    apply VE.cons
    · exact ev_assign rfl (gn rfl)
    simp only [nm, seval]
    exact VE.nil _
  · kernel_rfl
  change VOk _ _ _ _ _
  refine vseq ?_
  apply vrp
  · apply VE.cons
    · first | exact ev_field rfl (gn rfl) rfl Tryd.underlying29 rfl Tryd.sizeOf26 | exact ev_fieldx rfl (gn rfl) rfl Tryd.underlying29 rfl Tryd.sizeOf26
    simp only [nm, seval]
    apply VE.cons
    · first | exact ev_load1 rfl (gn rfl) rfl rfl Tryd.underlying26 rfl rfl | exact ev_loadx1 rfl (gn rfl) rfl Tryd.underlying26 rfl (by assumption)
    simp only [nm, seval]
    apply VE.cons
    · exact ev_callrow [] rfl rfl (gn rfl) rfl (en_of Tryd.func45 (by kernel_rfl) rfl) (n := b.length) (l := b.map b8) (by simp) (fun ρ S w' hb _ => clone_ok w' (sl_bw hbv hb) (by omega))
    simp only [nm, seval]
    apply VE.cons
    · exact ev_assign rfl (gn rfl)
    simp only [nm, seval]
    exact VE.nil _
  · kernel_rfl
  change VOk _ _ _ _ _
  refine vseq ?_
  refine vseq ?_
  apply vrp
  · apply VE.cons
    · first | exact ev_field rfl (gn rfl) rfl Tryd.underlying29 rfl Tryd.sizeOf27 | exact ev_fieldx rfl (gn rfl) rfl Tryd.underlying29 rfl Tryd.sizeOf27
    simp only [nm, seval]
    apply VE.cons
    · first | exact ev_load1 rfl (gn rfl) rfl rfl Tryd.underlying27 rfl rfl | exact ev_loadx1 rfl (gn rfl) rfl Tryd.underlying27 rfl (by assumption)
    simp only [nm, seval]
    apply VE.cons
    · exact ev_len rfl (gn rfl) rfl Tryd.underlying27 (rdg_arg hv)
    simp only [nm, seval]
    apply VE.cons
    · exact ev_move rfl (gn rfl)
    simp only [nm, seval]
    exact VE.nil _
  · kernel_rfl
  change VOk _ _ _ _ _
  refine vblock ?_
  refine vloop_w (α := {x : Nat × List Nat // x.1 ≤ ks.length ∧ wk b ks = wk x.2 (ks.drop x.1) ∧ x.2.length + wts (ks.drop x.1) ≤ b.length + wts ks}) (fun (x : {x : Nat × List Nat // x.1 ≤ ks.length ∧ wk b ks = wk x.2 (ks.drop x.1) ∧ x.2.length + wts (ks.drop x.1) ≤ b.length + wts ks}) f => ⟨[.v (f 0), .p 1 0, .v (.slice none 0 0), .d 900, .v (f 4), .v (f 5), .v (f 6), .v (f 7), .v (f 8), .v (f 9), .v (.slice ka ks.length kc), .v (.int .i64 (ks.length : Nat)), .v (.int .i64 (x.1.1 : Nat)), .v (f 13), .v (f 14), .v (f 15), .v (f 16), .v (f 17), .v (f 18), .v (f 19), .v (f 20), .v (f 21), .v (f 22), .v (f 23), .v (f 24), .v (f 25), .v (f 26), .v (f 27), .v (f 28), .v (f 29), .v (f 30), .v (f 31), .v (f 32), .v (f 33)], memOf [(900, .row x.1.2.length 1 5 (.exact (x.1.2.map b8))), (1, .cells [.v (.int .i64 t), .v (.slice ba b.length bc), .v (.slice ka ks.length kc)] 29)]⟩) (fun x => ks.length - x.1.1) ?_ (⟨(0, b), Nat.zero_le _, rfl, Nat.le_refl _⟩) ?_
  · rintro ⟨⟨i, acc⟩, hi, hgo, hsz⟩ f
    simp only at hi hgo hsz
    obtain ⟨q, h_q⟩ : ∃ q, decide ((i : Int) < (ks.length : Int)) = q := ⟨_, rfl⟩
    change VOk _ _ _ _ _
    refine vseq ?_
    apply vrp
    · apply VE.cons
      · exact ev_lss rfl (gn rfl) rfl rfl h_q
      simp only [nm, seval]
      exact VE.nil _
    · kernel_rfl
    change VOk _ _ _ _ _
    refine vseq ?_
    cases q
    · refine vcond_f rfl ?_
      have hge : ks.length ≤ i := by have := of_decide_eq_false h_q; omega
      have hfin : wk b ks = acc := by rw [hgo, List.drop_eq_nil_of_le hge]; rfl
      refine vexit ?_
      change VOk _ _ _ _ _
      refine vseq ?_
      apply vrd (by kernel_rfl)
      · apply VE.cons
        · first | exact ev_field rfl (gn rfl) rfl Tryd.underlying29 rfl Tryd.sizeOf3 | exact ev_fieldx rfl (gn rfl) rfl Tryd.underlying29 rfl Tryd.sizeOf3
        simp only [nm, seval]
        apply VE.cons
        · first | exact ev_load1 rfl (gn rfl) rfl rfl Tryd.underlying3 rfl rfl | exact ev_loadx1 rfl (gn rfl) rfl Tryd.underlying3 rfl (by assumption)
        simp only [nm, seval]
        apply VE.cons
        · exact ev_conv rfl (gn rfl) rfl (fun w => cvt8 _ w)
        simp only [nm, seval]
        apply VE.cons
        · exact ev_buildslice rfl rfl (gn rfl) rfl (e := 5) (l := [b8 (tb t)]) rfl (by decide) (fun _ => by kernel_rfl)
        simp only [nm, seval]
        apply VE.cons
        · exact ev_move rfl (gn rfl)
        simp only [nm, seval]
        apply VE.cons
        · exact ev_len rfl (gn rfl) rfl Tryd.underlying26 (rdg_row rfl)
        simp only [nm, seval]
        apply VE.cons
        · exact ev_callrow [] rfl rfl (gn rfl) rfl (en_of Tryd.func47 (by kernel_rfl) rfl) (n := (countD acc.length).length) (l := (countD acc.length).map b8) (by simp) (fun ρ S w' hb _ => count_ok acc.length (by omega) w')
        simp only [nm, seval]
        apply VE.cons
        · exact ev_move rfl (gn rfl)
        simp only [nm, seval]
        apply VE.cons
        · exact ev_buildsl3 [27, 30, 900] rfl rfl (gn rfl) rfl rfl rfl (rdg_mono (rdg_row rfl) rfl) (rdg_mono (rdg_row rfl) rfl) (rdg_mono (rdg_row rfl) rfl) rfl bs3
        simp only [nm, seval]
        apply VE.cons
        · exact ev_callrow [32, 27, 30, 900] rfl rfl (gn rfl) rfl (en_of Tryd.func46 (by kernel_rfl) rfl) (n := 1 + (countD acc.length).length + acc.length) (size := 1) (l := [b8 (tb t)] ++ (countD acc.length).map b8 ++ acc.map b8) (by simp; omega) (fun ρ S w' hb hR => by obtain ⟨_, s0⟩ := sl_row (id := 27) hR (by simp) rfl; obtain ⟨_, s1⟩ := sl_row (id := 30) hR (by simp) rfl; obtain ⟨_, s2⟩ := sl_row (id := 900) hR (by simp) rfl; exact concat3 w' (sl_cells (id := 32) hR (by simp) rfl) s0 s1 s2 rfl (b8_all _) (b8_all _) (by have := countD_len acc.length; omega))
        simp only [nm, seval]
        apply VE.cons
        · exact ev_assign rfl (gn rfl)
        simp only [nm, seval]
        exact VE.nil _
      · kernel_rfl
      change VOk _ _ _ _ _
      refine vret ?_
      refine post_ret (res1 Tryd.results32 (rv_tmp rfl)) ?_
      intro ρ w' hr
      rw [hfin] at hout
      have e1 : 1 + (countD acc.length).length + acc.length = out.length := by rw [← hout]; simp; omega
      have e2 : [b8 (tb t)] ++ (countD acc.length).map b8 ++ acc.map b8 = out.map b8 := by rw [← hout]; simp
      rw [← e1, ← e2]
      exact ⟨_, rfl, ret_row (id := 33) hr rfl, hr.1⟩
    · refine vcond_t rfl ?_
      have hlt : i < ks.length := by have := of_decide_eq_true h_q; omega
      obtain ⟨kk, hk⟩ := get_some hlt
      have hwl := writeT_len kk
      have hwk : wt kk + wts (ks.drop (i + 1)) = wts (ks.drop i) := by rw [drop_get hk, wts]
      obtain ⟨x, hx, hdn⟩ := DNs_get hn hk
      obtain ⟨t', b', ks', ek⟩ : ∃ t b ks, kk = Tr.mk t b ks := by cases kk with | mk t b ks => exact ⟨t, b, ks, rfl⟩
      have hdn' := hdn
      rw [ek] at hdn'
      simp only [DN] at hdn'
      obtain ⟨bv', kv', cs', ex, e1, e2, _⟩ := hdn'
      obtain ⟨a1, c1, ebv⟩ := sl_shape e1
      obtain ⟨a2, c2, ekv⟩ := sl_shape e2
      subst ebv ekv
      subst ex
      obtain ⟨q2, h_q2⟩ : ∃ q2, decide (acc.length > 2048) = q2 := ⟨_, rfl⟩
      have h_q2' := (nat_gt acc.length 2048).trans h_q2
      refine vskip ?_
      change VOk _ _ _ _ _
      refine vseq ?_
      refine vblock ?_
      refine vseq ?_
      apply vrp
      · apply VE.cons
        · exact ev_idx (k := i) rfl (gn rfl) rfl rfl Tryd.underlying27 Tryd.sizeOf29 (rdg_arg hv) (hlt) (by decide)
        simp only [nm, seval]
        apply VE.cons
        · exact ev_loadp rfl (gn rfl) rfl Tryd.underlying29 rfl Tryd.sizeOf29 (rdg_arg hv) (hx) rfl (by decide)
        simp only [nm, seval]
        apply VE.cons
        · exact ev_alloc rfl rfl (gn rfl) Tryd.zeroValue29
        simp only [nm, seval]
        apply VE.cons
        · exact ev_store rfl (gn rfl) rfl rfl rfl Tryd.sizeOf29 rfl (by simp) rfl
        simp only [nm, seval]
        exact VE.nil _
      · kernel_rfl
      change VOk _ _ _ _ _
      refine vseq ?_
      refine vseq ?_
      apply vrp
      · apply VE.cons
        · exact ev_move rfl (gn rfl)
        simp only [nm, seval]
        apply VE.cons
        · exact ev_len rfl (gn rfl) rfl Tryd.underlying26 (rdg_row rfl)
        simp only [nm, seval]
        apply VE.cons
        · exact ev_gtr rfl (gn rfl) rfl rfl h_q2'
        simp only [nm, seval]
        exact VE.nil _
      · kernel_rfl
      change VOk _ _ _ _ _
      cases q2
      · refine vcond_f rfl ?_
        refine vskip ?_
        change VOk _ _ _ _ _
        apply vrp
        · apply VE.cons
          · exact ev_move rfl (gn rfl)
          simp only [nm, seval]
          apply VE.cons
          · first | exact ev_load rfl (gn rfl) rfl rfl Tryd.underlying29 rfl Tryd.sizeOf29 rfl rfl | exact ev_loadx rfl (gn rfl) rfl Tryd.underlying29 rfl Tryd.sizeOf29 (by assumption) rfl | exact ev_loada rfl (gn rfl) rfl rfl Tryd.underlying29 rfl Tryd.sizeOf29 rfl
          simp only [nm, seval]
          apply VE.cons
          · exact ev_callrow [] rfl rfl (gn rfl) rfl (en_of Tryd.func32 (by kernel_rfl) rfl) (n := (writeT kk).length) (l := (writeT kk).map b8) (by simp) (fun ρ S w' hb _ => hih kk (List.mem_of_getElem? hk) _ w' _ (DN_bw hb hdn) (by omega))
          simp only [nm, seval]
          apply VE.cons
          · exact ev_append rfl rfl (gn rfl) rfl rfl rfl (rdg_row rfl) Tryd.underlying26 el5 (by decide) (by simp) (b8_all _) (by simp only [maxLen]; omega) (by omega) (by simp)
          simp only [nm, seval]
          apply VE.cons
          · exact ev_assign rfl (gn rfl)
          simp only [nm, seval]
          exact VE.nil _
        · kernel_rfl
        change VOk _ _ _ _ _
        apply vrp
        · apply VE.cons
          · exact ev_add (c := ((i + 1 : Nat) : Int)) rfl (gn rfl) rfl rfl (by rw [i64w (by omega) (by omega)]; omega)
          simp only [nm, seval]
          apply VE.cons
          · exact ev_move rfl (gn rfl)
          simp only [nm, seval]
          exact VE.nil _
        · kernel_rfl
        obtain ⟨acc', hacc⟩ : ∃ acc', acc ++ writeT kk = acc' := ⟨_, rfl⟩
        have hl2 : acc.length + (writeT kk).length = acc'.length := by rw [← hacc, List.length_append]
        have hm2 : acc.map b8 ++ (writeT kk).map b8 = acc'.map b8 := by rw [← hacc, List.map_append]
        rw [hl2, hm2]
        refine ⟨⟨(i + 1, acc'), by show i + 1 ≤ ks.length; omega, by show wk b ks = wk acc' (ks.drop (i + 1)); rw [hgo, drop_get hk, wk_f h_q2, hacc], by show acc'.length + wts (ks.drop (i + 1)) ≤ b.length + wts ks; rw [drop_get hk, wts] at hsz; omega⟩, by show ks.length - (i + 1) < ks.length - i; omega, ?_⟩
        exact (weaker_forget (fun i => i == 1 || i == 2 || i == 3 || i == 10 || i == 11 || i == 12) [5, 21]).trans2 (fun f => weaker_ren 22 900 (by decide) rfl)
      · refine vcond_t rfl ?_
        have hfin : wk b ks = acc := by rw [hgo, drop_get hk, wk_t h_q2]
        refine vexit ?_
        change VOk _ _ _ _ _
        refine vseq ?_
        apply vrd (by kernel_rfl)
        · apply VE.cons
          · first | exact ev_field rfl (gn rfl) rfl Tryd.underlying29 rfl Tryd.sizeOf3 | exact ev_fieldx rfl (gn rfl) rfl Tryd.underlying29 rfl Tryd.sizeOf3
          simp only [nm, seval]
          apply VE.cons
          · first | exact ev_load1 rfl (gn rfl) rfl rfl Tryd.underlying3 rfl rfl | exact ev_loadx1 rfl (gn rfl) rfl Tryd.underlying3 rfl (by assumption)
          simp only [nm, seval]
          apply VE.cons
          · exact ev_conv rfl (gn rfl) rfl (fun w => cvt8 _ w)
          simp only [nm, seval]
          apply VE.cons
          · exact ev_buildslice rfl rfl (gn rfl) rfl (e := 5) (l := [b8 (tb t)]) rfl (by decide) (fun _ => by kernel_rfl)
          simp only [nm, seval]
          apply VE.cons
          · exact ev_move rfl (gn rfl)
          simp only [nm, seval]
          apply VE.cons
          · exact ev_len rfl (gn rfl) rfl Tryd.underlying26 (rdg_row rfl)
          simp only [nm, seval]
          apply VE.cons
          · exact ev_callrow [] rfl rfl (gn rfl) rfl (en_of Tryd.func47 (by kernel_rfl) rfl) (n := (countD acc.length).length) (l := (countD acc.length).map b8) (by simp) (fun ρ S w' hb _ => count_ok acc.length (by omega) w')
          simp only [nm, seval]
          apply VE.cons
          · exact ev_move rfl (gn rfl)
          simp only [nm, seval]
          apply VE.cons
          · exact ev_buildsl3 [27, 30, 900] rfl rfl (gn rfl) rfl rfl rfl (rdg_mono (rdg_row rfl) rfl) (rdg_mono (rdg_row rfl) rfl) (rdg_mono (rdg_row rfl) rfl) rfl bs3
          simp only [nm, seval]
          apply VE.cons
          · exact ev_callrow [32, 27, 30, 900] rfl rfl (gn rfl) rfl (en_of Tryd.func46 (by kernel_rfl) rfl) (n := 1 + (countD acc.length).length + acc.length) (size := 1) (l := [b8 (tb t)] ++ (countD acc.length).map b8 ++ acc.map b8) (by simp; omega) (fun ρ S w' hb hR => by obtain ⟨_, s0⟩ := sl_row (id := 27) hR (by simp) rfl; obtain ⟨_, s1⟩ := sl_row (id := 30) hR (by simp) rfl; obtain ⟨_, s2⟩ := sl_row (id := 900) hR (by simp) rfl; exact concat3 w' (sl_cells (id := 32) hR (by simp) rfl) s0 s1 s2 rfl (b8_all _) (b8_all _) (by have := countD_len acc.length; omega))
          simp only [nm, seval]
          apply VE.cons
          · exact ev_assign rfl (gn rfl)
          simp only [nm, seval]
          exact VE.nil _
        · kernel_rfl
        change VOk _ _ _ _ _
        refine vret ?_
        refine post_ret (res1 Tryd.results32 (rv_tmp rfl)) ?_
        intro ρ w' hr
        rw [hfin] at hout
        have e1 : 1 + (countD acc.length).length + acc.length = out.length := by rw [← hout]; simp; omega
        have e2 : [b8 (tb t)] ++ (countD acc.length).map b8 ++ acc.map b8 = out.map b8 := by rw [← hout]; simp
        rw [← e1, ← e2]
        exact ⟨_, rfl, ret_row (id := 33) hr rfl, hr.1⟩
  · exact (weaker_forget (fun i => i == 1 || i == 2 || i == 3 || i == 10 || i == 11 || i == 12) []).trans2 (fun f => weaker_ren 8 900 (by decide) rfl)
mutual
theorem write_all : ∀ t : Tr, t.ok → WriteOK t
  | .mk t b ks, h => fun xs w S hx hwt => by
    simp only [Tr.ok] at h
    simp only [DN] at hx
    obtain ⟨bv, kv, cs, rfl, h2, h3, h4⟩ := hx
    obtain ⟨a1, c1, rfl⟩ := sl_shape h2
    obtain ⟨a2, c2, rfl⟩ := sl_shape h3
    simp only [wt] at hwt
    exact write_step w (writes_all ks h.2.2.2) h2 h3 h4 (by omega) (by omega) rfl
theorem writes_all : ∀ ks : List Tr, oks ks → ∀ k ∈ ks, WriteOK k
  | [], _ => fun k hk => by cases hk
  | k0 :: ks, h => fun k hk => by
    simp only [oks] at h
    rcases List.mem_cons.1 hk with e | hk
    · exact e ▸ write_all k0 h.1
    · exact writes_all ks h.2 k hk
end
theorem Write_f {t : Tr} {x0 x1 x2 : Value} {S : Nat → Prop} (w : World) (hok : t.ok) (hx : DN w S t [x0, x1, x2]) (_hwt : wt t ≤ 1073741824) (hr0 : rightT t 1 = false) : Calls Tryd.prog 12 #[.agg #[x0, x1, x2]] w fun e w' => ∃ v, e = .returned (.tuple #[v, .int .i64 2]) ∧ RetRow w w' v (0) 1 5 ([]) ∧ Bw w w' := by
  go_enter Tryd.func12, Tryd.ntmps12
  refine ve_go ?_
  simp only [List.map_cons, List.map_nil]
  refine vseq ?_
  apply vrp
  · apply VE.cons
    · exact ev_box rfl rfl (gn rfl) rfl
    simp only [nm, seval]
    apply VE.cons
    · exact ev_assign rfl (gn rfl)
    simp only [nm, seval]
    apply VE.cons
    · exact ev_assign rfl (gn rfl)
    simp only [nm, seval]
    exact VE.nil _
  · kernel_rfl
  change VOk _ _ _ _ _
  refine vseq ?_
  refine vseq ?_
  apply vrp
  · apply VE.cons
    · first | exact ev_load rfl (gn rfl) rfl rfl Tryd.underlying29 rfl Tryd.sizeOf29 rfl rfl | exact ev_loadx rfl (gn rfl) rfl Tryd.underlying29 rfl Tryd.sizeOf29 (by assumption) rfl | exact ev_loada rfl (gn rfl) rfl rfl Tryd.underlying29 rfl Tryd.sizeOf29 rfl
    simp only [nm, seval]
    apply VE.cons
    · exact ev_callb (v := .bool false) rfl (gn rfl) rfl (en_of Tryd.func31 (by kernel_rfl) rfl) (fun w' hb => hr0 ▸ right_all t hok 1 _ w' _ (by omega) (DN_bw hb hx))
    simp only [nm, seval]
    apply VE.cons
    · exact ev_not rfl (gn rfl) rfl
    simp only [nm, seval]
    exact VE.nil _
  · kernel_rfl
  change VOk _ _ _ _ _
  refine vcond_t rfl ?_
  refine vseq ?_
  apply vrp
  · apply VE.cons
    · exact ev_assign rfl (gn rfl)
    simp only [nm, seval]
    apply VE.cons
    · exact ev_assign rfl (gn rfl)
    simp only [nm, seval]
    exact VE.nil _
  · kernel_rfl
  change VOk _ _ _ _ _
  refine vret ?_
  refine post_ret (res2 Tryd.results12 (rv_tmp rfl) (rv_tmp rfl)) ?_
  intro ρ w' hr
  exact ⟨_, rfl, ret_nil _ _ _ _, hr.1⟩
theorem Write_b {t : Tr} {x0 x1 x2 : Value} {S : Nat → Prop} (w : World) (hok : t.ok) (hx : DN w S t [x0, x1, x2]) (hwt : wt t ≤ 1073741824) (hr0 : rightT t 1 = true) (hbig : (writeT t).length > 2048) : Calls Tryd.prog 12 #[.agg #[x0, x1, x2]] w fun e w' => ∃ v, e = .returned (.tuple #[v, .int .i64 4]) ∧ RetRow w w' v (0) 1 5 ([]) ∧ Bw w w' := by
  go_enter Tryd.func12, Tryd.ntmps12
  refine ve_go ?_
  simp only [List.map_cons, List.map_nil]
  refine vseq ?_
  apply vrp
  · apply VE.cons
    · exact ev_box rfl rfl (gn rfl) rfl
    simp only [nm, seval]
    apply VE.cons
    · exact ev_assign rfl (gn rfl)
    simp only [nm, seval]
    apply VE.cons
    · exact ev_assign rfl (gn rfl)
    simp only [nm, seval]
    exact VE.nil _
  · kernel_rfl
  change VOk _ _ _ _ _
  refine vseq ?_
  refine vseq ?_
  apply vrp
  · apply VE.cons
    · first | exact ev_load rfl (gn rfl) rfl rfl Tryd.underlying29 rfl Tryd.sizeOf29 rfl rfl | exact ev_loadx rfl (gn rfl) rfl Tryd.underlying29 rfl Tryd.sizeOf29 (by assumption) rfl | exact ev_loada rfl (gn rfl) rfl rfl Tryd.underlying29 rfl Tryd.sizeOf29 rfl
    simp only [nm, seval]
    apply VE.cons
    · exact ev_callb (v := .bool true) rfl (gn rfl) rfl (en_of Tryd.func31 (by kernel_rfl) rfl) (fun w' hb => hr0 ▸ right_all t hok 1 _ w' _ (by omega) (DN_bw hb hx))
    simp only [nm, seval]
    apply VE.cons
    · exact ev_not rfl (gn rfl) rfl
    simp only [nm, seval]
    exact VE.nil _
  · kernel_rfl
  change VOk _ _ _ _ _
  refine vcond_f rfl ?_
  refine vskip ?_
  change VOk _ _ _ _ _
  refine vseq ?_
  apply vrp
  · apply VE.cons
    · first | exact ev_load rfl (gn rfl) rfl rfl Tryd.underlying29 rfl Tryd.sizeOf29 rfl rfl | exact ev_loadx rfl (gn rfl) rfl Tryd.underlying29 rfl Tryd.sizeOf29 (by assumption) rfl | exact ev_loada rfl (gn rfl) rfl rfl Tryd.underlying29 rfl Tryd.sizeOf29 rfl
    simp only [nm, seval]
    apply VE.cons
    · exact ev_callrow [] rfl rfl (gn rfl) rfl (en_of Tryd.func32 (by kernel_rfl) rfl) (n := (writeT t).length) (l := (writeT t).map b8) (by simp) (fun ρ S w' hb _ => write_all t hok _ w' _ (DN_bw hb hx) hwt)
    simp only [nm, seval]
    apply VE.cons
    · exact ev_assign rfl (gn rfl)
    simp only [nm, seval]
    exact VE.nil _
  · kernel_rfl
  change VOk _ _ _ _ _
  refine vseq ?_
  refine vseq ?_
  apply vrp
  · apply VE.cons
    · exact ev_move rfl (gn rfl)
    simp only [nm, seval]
    apply VE.cons
    · exact ev_len rfl (gn rfl) rfl Tryd.underlying26 (rdg_row rfl)
    simp only [nm, seval]
    apply VE.cons
    · exact ev_gtr (p := true) rfl (gn rfl) rfl rfl (decide_eq_true (by omega))
    simp only [nm, seval]
    exact VE.nil _
  · kernel_rfl
  change VOk _ _ _ _ _
  refine vcond_t rfl ?_
  refine vseq ?_
  apply vrp
  · apply VE.cons
    · exact ev_assign rfl (gn rfl)
    simp only [nm, seval]
    apply VE.cons
    · exact ev_assign rfl (gn rfl)
    simp only [nm, seval]
    exact VE.nil _
  · kernel_rfl
  change VOk _ _ _ _ _
  refine vret ?_
  refine post_ret (res2 Tryd.results12 (rv_tmp rfl) (rv_tmp rfl)) ?_
  intro ρ w' hr
  exact ⟨_, rfl, ret_nil _ _ _ _, hr.1⟩
theorem Write_t {t : Tr} {x0 x1 x2 : Value} {S : Nat → Prop} (w : World) (hok : t.ok) (hx : DN w S t [x0, x1, x2]) (hwt : wt t ≤ 1073741824) (hr0 : rightT t 1 = true) (hbig : ¬ (writeT t).length > 2048) : Calls Tryd.prog 12 #[.agg #[x0, x1, x2]] w fun e w' => ∃ v, e = .returned (.tuple #[v, .int .i64 0]) ∧ RetRow w w' v ((writeT t).length) 1 5 ((writeT t).map b8) ∧ Bw w w' := by
  go_enter Tryd.func12, Tryd.ntmps12
  refine ve_go ?_
  simp only [List.map_cons, List.map_nil]
  refine vseq ?_
  apply vrp
  · apply VE.cons
    · exact ev_box rfl rfl (gn rfl) rfl
    simp only [nm, seval]
    apply VE.cons
    · exact ev_assign rfl (gn rfl)
    simp only [nm, seval]
    apply VE.cons
    · exact ev_assign rfl (gn rfl)
    simp only [nm, seval]
    exact VE.nil _
  · kernel_rfl
  change VOk _ _ _ _ _
  refine vseq ?_
  refine vseq ?_
  apply vrp
  · apply VE.cons
    · first | exact ev_load rfl (gn rfl) rfl rfl Tryd.underlying29 rfl Tryd.sizeOf29 rfl rfl | exact ev_loadx rfl (gn rfl) rfl Tryd.underlying29 rfl Tryd.sizeOf29 (by assumption) rfl | exact ev_loada rfl (gn rfl) rfl rfl Tryd.underlying29 rfl Tryd.sizeOf29 rfl
    simp only [nm, seval]
    apply VE.cons
    · exact ev_callb (v := .bool true) rfl (gn rfl) rfl (en_of Tryd.func31 (by kernel_rfl) rfl) (fun w' hb => hr0 ▸ right_all t hok 1 _ w' _ (by omega) (DN_bw hb hx))
    simp only [nm, seval]
    apply VE.cons
    · exact ev_not rfl (gn rfl) rfl
    simp only [nm, seval]
    exact VE.nil _
  · kernel_rfl
  change VOk _ _ _ _ _
  refine vcond_f rfl ?_
  refine vskip ?_
  change VOk _ _ _ _ _
  refine vseq ?_
  apply vrp
  · apply VE.cons
    · first | exact ev_load rfl (gn rfl) rfl rfl Tryd.underlying29 rfl Tryd.sizeOf29 rfl rfl | exact ev_loadx rfl (gn rfl) rfl Tryd.underlying29 rfl Tryd.sizeOf29 (by assumption) rfl | exact ev_loada rfl (gn rfl) rfl rfl Tryd.underlying29 rfl Tryd.sizeOf29 rfl
    simp only [nm, seval]
    apply VE.cons
    · exact ev_callrow [] rfl rfl (gn rfl) rfl (en_of Tryd.func32 (by kernel_rfl) rfl) (n := (writeT t).length) (l := (writeT t).map b8) (by simp) (fun ρ S w' hb _ => write_all t hok _ w' _ (DN_bw hb hx) hwt)
    simp only [nm, seval]
    apply VE.cons
    · exact ev_assign rfl (gn rfl)
    simp only [nm, seval]
    exact VE.nil _
  · kernel_rfl
  change VOk _ _ _ _ _
  refine vseq ?_
  refine vseq ?_
  apply vrp
  · apply VE.cons
    · exact ev_move rfl (gn rfl)
    simp only [nm, seval]
    apply VE.cons
    · exact ev_len rfl (gn rfl) rfl Tryd.underlying26 (rdg_row rfl)
    simp only [nm, seval]
    apply VE.cons
    · exact ev_gtr (p := false) rfl (gn rfl) rfl rfl (decide_eq_false (by omega))
    simp only [nm, seval]
    exact VE.nil _
  · kernel_rfl
  change VOk _ _ _ _ _
  refine vcond_f rfl ?_
  refine vskip ?_
  change VOk _ _ _ _ _
  refine vseq ?_
  apply vrp
  · apply VE.cons
    · exact ev_move rfl (gn rfl)
    simp only [nm, seval]
    apply VE.cons
    · exact ev_assign rfl (gn rfl)
    simp only [nm, seval]
    apply VE.cons
    · exact ev_assign rfl (gn rfl)
    simp only [nm, seval]
    exact VE.nil _
  · kernel_rfl
  change VOk _ _ _ _ _
  refine vret ?_
  refine post_ret (res2 Tryd.results12 (rv_tmp rfl) (rv_tmp rfl)) ?_
  intro ρ w' hr
  exact ⟨_, rfl, ret_row (id := 9) hr rfl, hr.1⟩
end Go.Proofs.YtmgmiiongleaeaaDoor
