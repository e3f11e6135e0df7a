import Derived.Test.YtmgmiiongleaeaaDoorDm
namespace Go.Proofs.YtmgmiiongleaeaaDoor
open Go.RowKit Go.Vx
open Go.Toll (Gw)
set_option maxHeartbeats 4000000
set_option maxRecDepth 100000
mutual
/-- a node of any size: its lengths are what a length can be. -/
def Tr.okL : Tr → Prop
  | .mk _ b ks => (∀ x ∈ b, x < 256) ∧ b.length ≤ maxLen ∧ ks.length ≤ maxLen ∧ oksL ks
def oksL : List Tr → Prop
  | [] => True
  | k :: ks => k.okL ∧ oksL ks
end
mutual
/-- a node that is tame: some of the kids, some of the bytes; how many nodes are left to be taken. -/
def tameT : Tr → Nat → Nat → Tr × Nat
  | .mk t b ks, d, l => (.mk t (b.take 2100) (tames ks 0 d (l - 1)).1, (tames ks 0 d (l - 1)).2)
def tames : List Tr → Nat → Nat → Nat → List Tr × Nat
  | [], _, _, l => ([], l)
  | k :: ks, i, d, l => bif decide (i < 25) && (decide (d > 1) && decide (l > 0)) then ((tameT k (d - 1) l).1 :: (tames ks (i + 1) d (tameT k (d - 1) l).2).1, (tames ks (i + 1) d (tameT k (d - 1) l).2).2) else ([], l)
end
theorem tames_f {k : Tr} {ks : List Tr} {i d l : Nat} (h : (decide (i < 25) && (decide (d > 1) && decide (l > 0))) = false) : tames (k :: ks) i d l = ([], l) := by simp only [tames, h, cond_false]
theorem tames_t {k : Tr} {ks : List Tr} {i d l : Nat} (h : (decide (i < 25) && (decide (d > 1) && decide (l > 0))) = true) : tames (k :: ks) i d l = ((tameT k (d - 1) l).1 :: (tames ks (i + 1) d (tameT k (d - 1) l).2).1, (tames ks (i + 1) d (tameT k (d - 1) l).2).2) := by simp only [tames, h, cond_true]
mutual
theorem tameT_wt : ∀ (t : Tr) (d l : Nat), 0 < l → wt (tameT t d l).1 + 2110 * (tameT t d l).2 ≤ 2110 * l ∧ (tameT t d l).2 < l
  | .mk t b ks, d, l, hl => by
    obtain ⟨h1, h2⟩ := tames_wt ks 0 d (l - 1)
    have h3 : (b.take 2100).length ≤ 2100 := by rw [List.length_take]; omega
    simp only [tameT, wt]
    omega
theorem tames_wt : ∀ (ks : List Tr) (i d l : Nat), wts (tames ks i d l).1 + 2110 * (tames ks i d l).2 ≤ 2110 * l ∧ (tames ks i d l).2 ≤ l
  | [], i, d, l => by simp [tames, wts]
  | k :: ks, i, d, l => by
    cases h : (decide (i < 25) && (decide (d > 1) && decide (l > 0))) with
    | false => rw [tames_f h]; simp [wts]
    | true =>
      rw [tames_t h]
      simp only [Bool.and_eq_true, decide_eq_true_eq] at h
      obtain ⟨h1, h2⟩ := tameT_wt k (d - 1) l h.2.2
      obtain ⟨h3, h4⟩ := tames_wt ks (i + 1) d (tameT k (d - 1) l).2
      simp only [wts]
      omega
end
mutual
theorem tameT_ok : ∀ (t : Tr) (d l : Nat), t.okL → (tameT t d l).1.ok
  | .mk t b ks, d, l, h => by
    simp only [Tr.okL] at h
    simp only [tameT, Tr.ok]
    obtain ⟨h1, h2⟩ := tames_ok ks 0 d (l - 1) h.2.2.2
    exact ⟨fun x hx => h.1 x (List.mem_of_mem_take hx), by rw [List.length_take]; omega, by omega, h1⟩
theorem tames_ok : ∀ (ks : List Tr) (i d l : Nat), oksL ks → oks (tames ks i d l).1 ∧ (tames ks i d l).1.length ≤ 25 - i
  | [], i, d, l, _ => by simp [tames, oks]
  | k :: ks, i, d, l, h => by
    simp only [oksL] at h
    cases hc : (decide (i < 25) && (decide (d > 1) && decide (l > 0))) with
    | false => rw [tames_f hc]; simp [oks]
    | true =>
      rw [tames_t hc]
      simp only [Bool.and_eq_true, decide_eq_true_eq] at hc
      have h1 := tameT_ok k (d - 1) l h.1
      obtain ⟨h2, h3⟩ := tames_ok ks (i + 1) d (tameT k (d - 1) l).2 h.2
      simp only [oks, List.length_cons]
      exact ⟨⟨h1, h2⟩, by omega⟩
end
theorem oksL_get : ∀ {ks : List Tr}, oksL ks → ∀ {i : Nat} {k : Tr}, ks[i]? = some k → k.okL
  | [], _, _, _, h => by cases h
  | k0 :: ks, h, i, k, hk => by
    simp only [oksL] at h
    cases i with
    | zero => simp only [List.getElem?_cons_zero, Option.some.injEq] at hk; exact hk ▸ h.1
    | succ i => exact oksL_get h.2 (i := i) (by simpa using hk)
theorem bstr_take (b : List Nat) (k : Nat) : (bstr b).extract 0 k = bstr (b.take k) := by
  apply ByteArray.ext
  simp only [bstr, ByteArray.data_extract]
  apply Array.ext'
  simp [Array.toList_extract, List.extract_eq_take_drop, List.map_take]
theorem ev_cutb {w0 : World} {ops : Array Oper} {o : Oper} {s : VS} {ty : TypeId} {x y : Operand} {b : List Nat} {k : Nat} (ho : o.op = .slice ty x none (some y) none) (hgd : Want ops o s) (hx : svEval s x = .v (.string (bstr b))) (hy : svEval s y = .v (.int .i64 (k : Nat))) (hu : Tryd.prog.underlying ty = some .string) (hk : k ≤ b.length) : Ev Tryd.prog ops w0 o s ⟨.v (.string (bstr (b.take k))), [], [], [], []⟩ := by
  have := ev_cutstr (w0 := w0) ho hgd hx hy hu (by rw [bstr_size]; exact hk)
  rwa [bstr_take] at this
def TameOK (t : Tr) : Prop := ∀ (d l : Nat) (xs : List Value) (w : World) (S : Nat → Prop), d ≤ 10 → 0 < l → l ≤ 60 → RN w S t xs → Calls Tryd.prog 30 #[.agg xs.toArray, .int .i64 (d : Nat), .int .i64 (l : Nat)] w fun e w' => ∃ v, e = .returned (.tuple #[v, .int .i64 ((tameT t d l).2 : Nat)]) ∧ RetD w w' v (datR (tameT t d l).1) ∧ Bw w w'
theorem tame_step {t : Int} {b : List Nat} {ks : List Tr} {kv : Value} {cs : List Value} {S : Nat → Prop} {d l : Nat} (w : World) (hih : ∀ k ∈ ks, TameOK k) (hv : SlAt w kv ks.length 3 cs S) (hn : RNs w S ks cs) (_hbl : b.length ≤ maxLen) (hd : d ≤ 10) (hl0 : 0 < l) (hl : l ≤ 60) : Calls Tryd.prog 30 #[.agg #[.int .i64 t, .string (bstr b), kv], .int .i64 (d : Nat), .int .i64 (l : Nat)] w fun e w' => ∃ v, e = .returned (.tuple #[v, .int .i64 ((tameT (.mk t b ks) d l).2 : Nat)]) ∧ RetD w w' v (datR (tameT (.mk t b ks) d l).1) ∧ Bw w w' := by
  have hcut : b.take (min b.length 2100) = b.take 2100 := by rw [List.take_eq_take_iff]; omega
  go_enter Tryd.func30, Tryd.ntmps30
  refine ve_go ?_
  simp only [List.map_cons, List.map_nil]
  refine vseq ?_
  apply vrp
  · apply VE.cons
    · exact ev_box rfl rfl (gn rfl) rfl
    simp only [nm, seval]
    apply VE.cons
    · exact ev_alloc rfl rfl (gn rfl) Tryd.zeroValue24
    simp only [nm, seval]
    apply VE.cons
    · exact ev_assign rfl (gn rfl)
    simp only [nm, seval]
    exact VE.nil _
  · kernel_rfl
  change VOk _ _ _ _ _
  refine vseq ?_
  apply vrp
  · apply VE.cons
    · exact ev_move rfl (gn rfl)
    simp only [nm, seval]
    apply VE.cons
    · exact ev_sub (c := ((l - 1 : Nat) : Int)) rfl (gn rfl) rfl rfl (by rw [i64w (by omega) (by omega)]; omega)
    simp only [nm, seval]
    apply VE.cons
    · exact ev_assign rfl (gn rfl)
    simp only [nm, seval]
    exact VE.nil _
  · kernel_rfl
  change VOk _ _ _ _ _
  refine vseq ?_
  apply vrd (by kernel_rfl)
  · apply VE.cons
    · first | exact ev_field rfl (gn rfl) rfl Tryd.underlying24 rfl Tryd.sizeOf3 | exact ev_fieldx rfl (gn rfl) rfl Tryd.underlying24 rfl Tryd.sizeOf3
    simp only [nm, seval]
    apply VE.cons
    · first | exact ev_load1 rfl (gn rfl) rfl rfl Tryd.underlying3 rfl rfl | exact ev_loadx1 rfl (gn rfl) rfl Tryd.underlying3 rfl (by assumption)
    simp only [nm, seval]
    apply VE.cons
    · first | exact ev_field rfl (gn rfl) rfl Tryd.underlying24 rfl Tryd.sizeOf9 | exact ev_fieldx rfl (gn rfl) rfl Tryd.underlying24 rfl Tryd.sizeOf9
    simp only [nm, seval]
    apply VE.cons
    · first | exact ev_load1 rfl (gn rfl) rfl rfl Tryd.underlying9 rfl rfl | exact ev_loadx1 rfl (gn rfl) rfl Tryd.underlying9 rfl (by assumption)
    simp only [nm, seval]
    apply VE.cons
    · first | exact ev_field rfl (gn rfl) rfl Tryd.underlying24 rfl Tryd.sizeOf9 | exact ev_fieldx rfl (gn rfl) rfl Tryd.underlying24 rfl Tryd.sizeOf9
    simp only [nm, seval]
    apply VE.cons
    · first | exact ev_load1 rfl (gn rfl) rfl rfl Tryd.underlying9 rfl rfl | exact ev_loadx1 rfl (gn rfl) rfl Tryd.underlying9 rfl (by assumption)
    simp only [nm, seval]
    apply VE.cons
    · exact ev_lenb (b := b) rfl (gn rfl) rfl Tryd.underlying9
    simp only [nm, seval]
    apply VE.cons
    · exact ev_min (c := min b.length 2100) (b := 2100) rfl (gn rfl) rfl rfl rfl
    simp only [nm, seval]
    apply VE.cons
    · exact hcut ▸ ev_cutb (b := b) (k := min b.length 2100) rfl (gn rfl) rfl rfl Tryd.underlying9 (Nat.min_le_left _ _)
    simp only [nm, seval]
    apply VE.cons
    · exact ev_build rfl (gn rfl) rfl (built24 t (bstr (b.take 2100)))
    simp only [nm, seval]
    apply VE.cons
    · exact ev_alloc rfl rfl (gn rfl) Tryd.zeroValue24
    simp only [nm, seval]
    apply VE.cons
    · first | exact ev_store rfl (gn rfl) rfl rfl rfl Tryd.sizeOf24 rfl (by simp) rfl | exact ev_storeR (vl := [.fn (cellV 0) (.d 52), .fn (cellV 1) (.d 52), .fn (cellV 2) (.d 52)]) [10, 52] rfl (gn rfl) rfl rfl rfl Tryd.sizeOf24 rfl (fun ρ S w' _ hR => by obtain ⟨c, h1, h2⟩ := datR_get (id := 52) hR (by simp) rfl; have hf := fn3 h1 (RN_len h2); exact ⟨hf.1, hf.2 ▸ RN_one h2⟩) rfl (by simp) | exact ev_storeR (vl := [.v (.int .i64 t), .v (.string (bstr (b.take 2100))), .d 900]) [6, 900] rfl (gn rfl) rfl rfl rfl Tryd.sizeOf24 rfl (fun ρ S w' _ hR => ⟨agg_cells _, by have hh2 := row_cells (id := 900) hR (by simp) rfl; simp only [SV.cs, SV.c, List.all_cons, List.all_nil, hh2.2]; rfl⟩) rfl (by simp)
    simp only [nm, seval]
    exact VE.nil _
  · kernel_rfl
  change VOk _ _ _ _ _
  refine vseq ?_
  refine vseq ?_
  apply vrp
  · apply VE.cons
    · exact ev_assign rfl (gn rfl)
    simp only [nm, seval]
    exact VE.nil _
  · kernel_rfl
  change VOk _ _ _ _ _
  refine vblock ?_
  refine vloop_w (α := {x : Nat × Nat × List Tr // x.1 ≤ ks.length ∧ x.1 ≤ 25 ∧ x.2.1 ≤ 60 ∧ x.2.2.length = x.1 ∧ (x.2.2 ++ (tames (ks.drop x.1) x.1 d x.2.1).1, (tames (ks.drop x.1) x.1 d x.2.1).2) = tames ks 0 d (l - 1)}) (fun (x : {x : Nat × Nat × List Tr // x.1 ≤ ks.length ∧ x.1 ≤ 25 ∧ x.2.1 ≤ 60 ∧ x.2.2.length = x.1 ∧ (x.2.2 ++ (tames (ks.drop x.1) x.1 d x.2.1).1, (tames (ks.drop x.1) x.1 d x.2.1).2) = tames ks 0 d (l - 1)}) f => ⟨[.v (f 0), .v (.int .i64 (d : Nat)), .v (.int .i64 (x.1.2.1 : Nat)), .p 3 0, .v (f 4), .v (f 5), .p 6 0, .v (.int .i64 0), .p 8 0, .v (.int .i64 (x.1.1 : Nat)), .v (f 10), .v (f 11), .v (f 12), .v (f 13), .v (f 14), .v (f 15), .v (f 16), .v (f 17), .v (f 18), .v (f 19), .v (f 20), .v (f 21), .v (f 22), .v (f 23), .v (f 24), .v (f 25), .v (f 26), .v (f 27), .v (f 28), .v (f 29), .v (f 30), .v (f 31), .v (f 32), .v (f 33), .v (f 34), .v (f 35), .v (f 36), .v (f 37), .v (f 38), .v (f 39), .v (f 40), .v (f 41), .v (f 42), .v (f 43), .v (f 44), .v (f 45), .v (f 46), .v (f 47), .v (f 48), .v (f 49), .v (f 50), .v (f 51), .v (f 52), .v (f 53), .v (f 54), .v (f 55), .v (f 56), .v (f 57), .v (f 58), .v (f 59), .v (f 60), .v (f 61), .v (f 62), .v (f 63)], memOf [(900, .row x.1.1 3 24 (datRs x.1.2.2)), (8, .cells [.v (.int .i64 t), .v (.string (bstr (b.take 2100))), .d 900] 24), (6, .cells [.v (.int .i64 0), .v (.string (ByteArray.mk #[])), .v (.slice none 0 0)] 24), (3, .cells [.v (.int .i64 t), .v (.string (bstr b)), .v kv] 24)]⟩) (fun x => ks.length - x.1.1) ?_ (⟨(0, l - 1, []), Nat.zero_le _, Nat.zero_le _, by show l - 1 ≤ 60; omega, rfl, rfl⟩) ?_
  · rintro ⟨⟨i, l', acc⟩, hi, hi25, hl', hacc, hgo⟩ f
    simp only at hi hi25 hl' hacc hgo
    obtain ⟨q, h_q⟩ : ∃ q, decide ((i : Int) < (ks.length : Int)) = q := ⟨_, rfl⟩
    obtain ⟨q2, h_q2⟩ : ∃ q, decide (i < 25) = q := ⟨_, rfl⟩
    obtain ⟨q3, h_q3⟩ : ∃ q, decide (d > 1) = q := ⟨_, rfl⟩
    obtain ⟨q4, h_q4⟩ : ∃ q, decide (l' > 0) = q := ⟨_, rfl⟩
    have h_q2' := (nat_lt i 25).trans h_q2
    have h_q3' := (nat_gt d 1).trans h_q3
    have h_q4' := (nat_gt l' 0).trans h_q4
    cases q <;> cases q2 <;> cases q3 <;> cases q4 <;>
    (
      change VOk _ _ _ _ _
      refine vseq ?_
      refine vseq ?_
      apply vrp
      · apply VE.cons
        · exact ev_move rfl (gn rfl)
        simp only [nm, seval]
        apply VE.cons
        · first | exact ev_field rfl (gn rfl) rfl Tryd.underlying24 rfl Tryd.sizeOf22 | exact ev_fieldx rfl (gn rfl) rfl Tryd.underlying24 rfl Tryd.sizeOf22
        simp only [nm, seval]
        apply VE.cons
        · first | exact ev_load1 rfl (gn rfl) rfl rfl Tryd.underlying22 rfl rfl | exact ev_loadx1 rfl (gn rfl) rfl Tryd.underlying22 rfl (by assumption)
        simp only [nm, seval]
        apply VE.cons
        · exact ev_len rfl (gn rfl) rfl Tryd.underlying22 (rdg_arg hv)
        simp only [nm, seval]
        apply VE.cons
        · exact ev_lss rfl (gn rfl) rfl rfl h_q
        simp only [nm, seval]
        apply VE.cons
        · exact ev_move rfl (gn rfl)
        simp only [nm, seval]
        apply VE.cons
        · first | exact Ev.skip (fun _ => rfl) | exact ev_move rfl (fun _ => rfl)
        simp only [nm, seval]
        apply VE.cons
        · first | exact Ev.skip (fun _ => rfl) | exact ev_lss rfl (fun _ => rfl) rfl rfl h_q2'
        simp only [nm, seval]
        apply VE.cons
        · first | exact ev_pick_t rfl (gn rfl) rfl rfl | exact ev_pick_f rfl (gn rfl) rfl rfl
        simp only [nm, seval]
        apply VE.cons
        · exact ev_move rfl (gn rfl)
        simp only [nm, seval]
        apply VE.cons
        · first | exact Ev.skip (fun _ => rfl) | exact ev_move rfl (fun _ => rfl)
        simp only [nm, seval]
        apply VE.cons
        · first | exact Ev.skip (fun _ => rfl) | exact ev_gtr rfl (fun _ => rfl) rfl rfl h_q3'
        simp only [nm, seval]
        apply VE.cons
        · first | exact ev_pick_t rfl (gn rfl) rfl rfl | exact ev_pick_f rfl (gn rfl) rfl rfl
        simp only [nm, seval]
        apply VE.cons
        · exact ev_move rfl (gn rfl)
        simp only [nm, seval]
        apply VE.cons
        · first | exact Ev.skip (fun _ => rfl) | exact ev_move rfl (fun _ => rfl)
        simp only [nm, seval]
        apply VE.cons
        · first | exact Ev.skip (fun _ => rfl) | exact ev_gtr rfl (fun _ => rfl) rfl rfl h_q4'
        simp only [nm, seval]
        apply VE.cons
        · first | exact ev_pick_t rfl (gn rfl) rfl rfl | exact ev_pick_f rfl (gn rfl) rfl rfl
        simp only [nm, seval]
        exact VE.nil _
      · kernel_rfl
      change VOk _ _ _ _ _
      first
      | (
          refine vcond_t rfl ?_
          have hlt : i < ks.length := by have := of_decide_eq_true h_q; omega
          have hi2 : i < 25 := of_decide_eq_true h_q2
          have hd2 : d > 1 := of_decide_eq_true h_q3
          have hl0 : l' > 0 := of_decide_eq_true h_q4
          obtain ⟨kk, hk⟩ := get_some hlt
          obtain ⟨x, hx, hdn⟩ := RNs_get hn hk
          obtain ⟨x0, x1, x2, rfl⟩ := list3 (RN_len hdn)
          have htw := (tameT_wt kk (d - 1) l' hl0).2
          refine vskip ?_
          change VOk _ _ _ _ _
          refine vseq ?_
          refine vblock ?_
          refine vseq ?_
          apply vrp
          · apply VE.cons
            · first | exact ev_field rfl (gn rfl) rfl Tryd.underlying24 rfl Tryd.sizeOf22 | exact ev_fieldx rfl (gn rfl) rfl Tryd.underlying24 rfl Tryd.sizeOf22
            simp only [nm, seval]
            apply VE.cons
            · first | exact ev_load1 rfl (gn rfl) rfl rfl Tryd.underlying22 rfl rfl | exact ev_loadx1 rfl (gn rfl) rfl Tryd.underlying22 rfl (by assumption)
            simp only [nm, seval]
            apply VE.cons
            · exact ev_move rfl (gn rfl)
            simp only [nm, seval]
            apply VE.cons
            · exact ev_idx (k := i) rfl (gn rfl) rfl rfl Tryd.underlying22 Tryd.sizeOf24 (rdg_arg hv) (hlt) (by decide)
            simp only [nm, seval]
            apply VE.cons
            · exact ev_loadp rfl (gn rfl) rfl Tryd.underlying24 rfl Tryd.sizeOf24 (rdg_arg hv) (hx) rfl (by decide)
            simp only [nm, seval]
            apply VE.cons
            · exact ev_move rfl (gn rfl)
            simp only [nm, seval]
            apply VE.cons
            · exact ev_sub (c := ((d - 1 : Nat) : Int)) rfl (gn rfl) rfl rfl (by rw [i64w (by omega) (by omega)]; omega)
            simp only [nm, seval]
            apply VE.cons
            · exact ev_move rfl (gn rfl)
            simp only [nm, seval]
            apply VE.cons
            · exact ev_calldt (D := datR (tameT kk (d - 1) l').1) (ys := [.int .i64 ((tameT kk (d - 1) l').2 : Nat)]) [] rfl rfl (gn rfl) rfl (en_of Tryd.func30 (by kernel_rfl) rfl) (fun ρ S w' hb _ => hih kk (List.mem_of_getElem? hk) (d - 1) l' _ w' _ (by omega) hl0 hl' (RN_bw hb hdn))
            simp only [nm, seval]
            apply VE.cons
            · exact ev_move rfl (gn rfl)
            simp only [nm, seval]
            apply VE.cons
            · first | exact ev_extract rfl (gn rfl) rfl rfl | exact ev_extractt rfl (gn rfl) rfl rfl
            simp only [nm, seval]
            apply VE.cons
            · first | exact ev_extract rfl (gn rfl) rfl rfl | exact ev_extractt rfl (gn rfl) rfl rfl
            simp only [nm, seval]
            apply VE.cons
            · exact ev_alloc rfl rfl (gn rfl) Tryd.zeroValue24
            simp only [nm, seval]
            apply VE.cons
            · first | exact ev_store rfl (gn rfl) rfl rfl rfl Tryd.sizeOf24 rfl (by simp) rfl | exact ev_storeR (vl := [.fn (cellV 0) (.d 52), .fn (cellV 1) (.d 52), .fn (cellV 2) (.d 52)]) [10, 52] rfl (gn rfl) rfl rfl rfl Tryd.sizeOf24 rfl (fun ρ S w' _ hR => by obtain ⟨c, h1, h2⟩ := datR_get (id := 52) hR (by simp) rfl; have hf := fn3 h1 (RN_len h2); exact ⟨hf.1, hf.2 ▸ RN_one h2⟩) rfl (by simp) | exact ev_storeR (vl := [.v (.int .i64 t), .v (.string (bstr (b.take 2100))), .d 900]) [6, 900] rfl (gn rfl) rfl rfl rfl Tryd.sizeOf24 rfl (fun ρ S w' _ hR => ⟨agg_cells _, by have hh2 := row_cells (id := 900) hR (by simp) rfl; simp only [SV.cs, SV.c, List.all_cons, List.all_nil, hh2.2]; rfl⟩) rfl (by simp)
            simp only [nm, seval]
            apply VE.cons
            · exact ev_assign rfl (gn rfl)
            simp only [nm, seval]
            exact VE.nil _
          · kernel_rfl
          change VOk _ _ _ _ _
          apply vrp
          · apply VE.cons
            · first | exact ev_field rfl (gn rfl) rfl Tryd.underlying24 rfl Tryd.sizeOf22 | exact ev_fieldx rfl (gn rfl) rfl Tryd.underlying24 rfl Tryd.sizeOf22
            simp only [nm, seval]
            apply VE.cons
            · first | exact ev_load1 rfl (gn rfl) rfl rfl Tryd.underlying22 rfl rfl | exact ev_loadx1 rfl (gn rfl) rfl Tryd.underlying22 rfl (by assumption)
            simp only [nm, seval]
            apply VE.cons
            · exact ev_loada rfl (gn rfl) rfl rfl Tryd.underlying24 rfl Tryd.sizeOf24 rfl
            simp only [nm, seval]
            apply VE.cons
            · exact ev_buildsl1 (n := 3) (l := [.fn (cellV 0) (.d 52), .fn (cellV 1) (.d 52), .fn (cellV 2) (.d 52)]) [] rfl rfl (gn rfl) rfl (fun ρ S w' hR => agg_cells _) rfl rfl bs24
            simp only [nm, seval]
            apply VE.cons
            · exact ev_appendD (id := 900) (ys := 58) (n := i) (k := 1) (k' := 1) (size := 3) (datRs (acc ++ [(tameT kk (d - 1) l').1])) [900, 58, 52] rfl rfl (gn rfl) rfl rfl rfl rfl rfl (Nat.le_refl _) Tryd.underlying22 el24 (by decide) (by simp only [maxLen]; omega) (by omega) (by simp) (by simp) (fun ρ S w' hR => by obtain ⟨c, h1, h2⟩ := datR_get (id := 52) hR (by simp) rfl; exact (fn3 h1 (RN_len h2)).2 ▸ RN_one h2) (fun ρ S w' xs hb hR hxs => by obtain ⟨c, h1, h2⟩ := datR_get (id := 52) hR (by simp) rfl; rw [(fn3 h1 (RN_len h2)).2]; exact RNs_snoc (RN_sub (fun k hk => ⟨52, by simp, rfl, hk⟩) h2) (RNs_sub (fun k hk => ⟨900, by simp, rfl, hk⟩) hxs))
            simp only [nm, seval]
            apply VE.cons
            · exact ev_move rfl (gn rfl)
            simp only [nm, seval]
            apply VE.cons
            · first | exact ev_field rfl (gn rfl) rfl Tryd.underlying24 rfl Tryd.sizeOf22 | exact ev_fieldx rfl (gn rfl) rfl Tryd.underlying24 rfl Tryd.sizeOf22
            simp only [nm, seval]
            apply VE.cons
            · exact ev_storeR (vl := [.d 59]) [8, 59] rfl (gn rfl) rfl rfl rfl Tryd.sizeOf22 rfl (fun ρ S w' _ hR => by have hh := row_cells (id := 59) hR (by simp) rfl; exact ⟨hh.1, by simp [SV.cs, SV.c, hh.2]⟩) rfl (by simp)
            simp only [nm, seval]
            apply VE.cons
            · exact ev_assign rfl (gn rfl)
            simp only [nm, seval]
            exact VE.nil _
          · kernel_rfl
          change VOk _ _ _ _ _
          apply vrp
          · apply VE.cons
            · exact ev_move rfl (gn rfl)
            simp only [nm, seval]
            apply VE.cons
            · exact ev_add (c := ((i + 1 : Nat) : Int)) rfl (gn rfl) rfl rfl (by rw [i64w (by omega) (by omega)]; omega)
            simp only [nm, seval]
            apply VE.cons
            · exact ev_assign rfl (gn rfl)
            simp only [nm, seval]
            exact VE.nil _
          · kernel_rfl
          refine ⟨⟨(i + 1, (tameT kk (d - 1) l').2, acc ++ [(tameT kk (d - 1) l').1]), by show i + 1 ≤ ks.length; omega, by show i + 1 ≤ 25; omega, by show (tameT kk (d - 1) l').2 ≤ 60; omega, by simp [hacc], ?_⟩, by show ks.length - (i + 1) < ks.length - i; omega, ?_⟩
          · show (acc ++ [(tameT kk (d - 1) l').1] ++ (tames (ks.drop (i + 1)) (i + 1) d (tameT kk (d - 1) l').2).1, (tames (ks.drop (i + 1)) (i + 1) d (tameT kk (d - 1) l').2).2) = tames ks 0 d (l - 1)
            rw [drop_get hk, tames_t (by rw [h_q2, h_q3, h_q4]; rfl)] at hgo
            rw [← hgo]
            simp only [List.append_assoc, List.singleton_append]
          exact (weaker_forget (fun i => i == 1 || i == 2 || i == 3 || i == 6 || i == 7 || i == 8 || i == 9) [58, 10, 52]).trans2 (fun f => weaker_ren 59 900 (by decide) rfl)
        )
      | (
          refine vcond_f rfl ?_
          have hfin : tames ks 0 d (l - 1) = (acc, l') := by first | (rw [← hgo, List.drop_eq_nil_of_le (by have := of_decide_eq_false h_q; omega)]; simp [tames]) | (obtain ⟨kk, hk⟩ := get_some (l := ks) (i := i) (by have := of_decide_eq_true h_q; omega); rw [← hgo, drop_get hk, tames_f (by rw [h_q2, h_q3, h_q4]; rfl)]; simp)
          refine vexit ?_
          change VOk _ _ _ _ _
          refine vseq ?_
          apply vrp
          · apply VE.cons
            · exact ev_loada rfl (gn rfl) rfl rfl Tryd.underlying24 rfl Tryd.sizeOf24 rfl
            simp only [nm, seval]
            apply VE.cons
            · exact ev_move rfl (gn rfl)
            simp only [nm, seval]
            apply VE.cons
            · first | exact ev_store rfl (gn rfl) rfl rfl rfl Tryd.sizeOf24 rfl (by simp) rfl | exact ev_storeR (vl := [.fn (cellV 0) (.d 52), .fn (cellV 1) (.d 52), .fn (cellV 2) (.d 52)]) [10, 52] rfl (gn rfl) rfl rfl rfl Tryd.sizeOf24 rfl (fun ρ S w' _ hR => by obtain ⟨c, h1, h2⟩ := datR_get (id := 52) hR (by simp) rfl; have hf := fn3 h1 (RN_len h2); exact ⟨hf.1, hf.2 ▸ RN_one h2⟩) rfl (by simp) | exact ev_storeR (vl := [.v (.int .i64 t), .v (.string (bstr (b.take 2100))), .d 900]) [6, 900] rfl (gn rfl) rfl rfl rfl Tryd.sizeOf24 rfl (fun ρ S w' _ hR => ⟨agg_cells _, by have hh2 := row_cells (id := 900) hR (by simp) rfl; simp only [SV.cs, SV.c, List.all_cons, List.all_nil, hh2.2]; rfl⟩) rfl (by simp)
            simp only [nm, seval]
            apply VE.cons
            · exact ev_assign rfl (gn rfl)
            simp only [nm, seval]
            exact VE.nil _
          · kernel_rfl
          change VOk _ _ _ _ _
          refine vret ?_
          refine post_ret (res2 Tryd.results30 (rv_cella rfl rfl Tryd.underlying24 rfl Tryd.sizeOf24 rfl) (rv_tmp rfl)) ?_
          intro ρ w' hr
          rw [tameT, hfin]
          refine ⟨.agg #[.int .i64 t, .string (bstr (b.take 2100)), (ρ 900).val], by simp [SV.c, SV.cs]; rfl, ?_, hr.1⟩
          have := rnode_of (t := t) (b := b.take 2100) (ks := acc) 900 hr (by simp [memOf, hacc])
          simpa [SV.c, SV.cs] using this
        )
    )
  · refine (weaker_forget (fun i => i == 1 || i == 2 || i == 3 || i == 6 || i == 7 || i == 8 || i == 9) []).trans2 (fun f => ?_)
    refine (weaker_name 900 3 24 (datRs []) (fun w => by trivial) (m' := [(8, .cells [.v (.int .i64 t), .v (.string (bstr (b.take 2100))), .d 900] 24), (6, .cells [.v (.int .i64 0), .v (.string (ByteArray.mk #[])), .v (.slice none 0 0)] 24), (3, .cells [.v (.int .i64 t), .v (.string (bstr b)), .v kv] 24)]) rfl rfl (fun ρ _ => rfl) (fun ρ hv => ?_))
    simp [memSim, memDel, Blk.sim, SV.cs, SV.c, hv, nilV]
mutual
theorem tame_all : ∀ t : Tr, t.okL → TameOK t
  | .mk t b ks, h => fun d l xs w S hd hl0 hl hx => by
    simp only [Tr.okL] at h
    simp only [RN] at hx
    obtain ⟨kv, cs, rfl, h3, h4⟩ := hx
    exact tame_step w (tames_all ks h.2.2.2) h3 h4 h.2.1 hd hl0 hl
theorem tames_all : ∀ ks : List Tr, oksL ks → ∀ k ∈ ks, TameOK k
  | [], _ => fun k hk => by cases hk
  | k0 :: ks, h => fun k hk => by
    simp only [oksL] at h
    rcases List.mem_cons.1 hk with e | hk
    · exact e ▸ tame_all k0 h.1
    · exact tames_all ks h.2 k hk
end
end Go.Proofs.YtmgmiiongleaeaaDoor
