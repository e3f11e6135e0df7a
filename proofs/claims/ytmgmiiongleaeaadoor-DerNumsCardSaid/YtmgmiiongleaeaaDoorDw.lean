import Derived.Test.YtmgmiiongleaeaaDoorDv
import Derived.ChangeKeysEq
namespace Go.Proofs.YtmgmiiongleaeaaDoor
open Go.RowKit Go.Vx
open Go.Toll (Gw)
set_option maxHeartbeats 4000000
set_option maxRecDepth 100000
theorem eq_items2 {P : Program} {e : TypeId} {k k' : IntKind} (he : P.underlying e = some (.int k')) (d : Nat) (zs ys : List Int) (w : World) : ∀ (is : List Nat), (∀ j ∈ is, j < zs.length ∧ j < ys.length) →
    (Op.eqItems (d + 1) e 1 (zs.map (Value.int k)).toArray (ys.map (Value.int k)).toArray is).run P w = .ok (is.all fun j => zs.getD j 0 == ys.getD j 0) w
  | [], _ => by simp [Op.eqItems]
  | j :: is, h => by
    obtain ⟨hz, hy⟩ := h j (by simp)
    have hp : (part e (zs.map (Value.int k)).toArray (j * 1)).run P w = .ok (.int k zs[j]) w := by
      simp [part, run_isAgg he, isAggD, hz]
    have hq : (part e (ys.map (Value.int k)).toArray (j * 1)).run P w = .ok (.int k ys[j]) w := by
      simp [part, run_isAgg he, isAggD, hy]
    have hi := run_equalIn_int w d e k k' zs[j] ys[j] he
    have ih := eq_items2 (k := k) he d zs ys w is fun i hi => h i (by simp [hi])
    simp only [Op.eqItems, Sem.run_bind, hp, hq, Result.andThen_ok, hi, List.all_cons, List.getD_eq_getElem?_getD, List.getElem?_eq_getElem hz, List.getElem?_eq_getElem hy, Option.getD_some]
    by_cases hc : zs[j] = ys[j]
    · simp only [hc, beq_self_eq_true, Bool.not_true, Bool.false_eq_true, if_false, Bool.true_and]
      simpa only [List.getD_eq_getElem?_getD] using ih
    · simp [hc]
theorem ne_self {bs : List Nat} (h : bs.length = 32) (p q : Operand) (w : World) : (do eqGuard .neq 44 p q (.agg (bs.map b8).toArray) (.agg (bs.map b8).toArray); binOp .neq 44 (.agg (bs.map b8).toArray) (.agg (bs.map b8).toArray) : Sem Value).run Tryd.prog w = .ok (.bool false) w := by
  have h1 : ∀ d, (Op.equalIn (d + 2) 44 (.agg (bs.map b8).toArray) (.agg (bs.map b8).toArray)).run Tryd.prog w = .ok true w := by
    intro d
    have e : bs.map b8 = (bs.map Int.ofNat).map (Value.int .u8) := by rw [List.map_map]; rfl
    have h0 := eq_items2 (k := .u8) Tryd.underlying5 d (bs.map Int.ofNat) (bs.map Int.ofNat) w (List.range 32) (by intro j hj; simp at *; omega)
    rw [run_equalIn_array w (d + 1) _ _ Tryd.underlying44 (i := Tryd.prog.types[5]) rfl, show Tryd.prog.cellsOf 5 = 1 by kernel_rfl, e]
    rw [h0]
    congr 1
    exact List.all_eq_true.2 fun _ _ => beq_self_eq_true _
  generalize bs.map b8 = L at h1
  go_simp
  try rw [h1]
  try simp [Result.andThen]
/-! ### what a number's bytes are -/
theorem trim_numB (l : List Nat) : trimL (numB l) = trimL l := by
  have h0 : trimL (trimL l) = trimL l := by
    induction l with
    | nil => rfl
    | cons b r ih =>
      by_cases hb : b = 0
      · have e : trimL (b :: r) = trimL r := by simp [trimL, hb]
        rw [e]; exact ih
      · have e : trimL (b :: r) = b :: r := by simp [trimL, hb]
        rw [e, e]
  have h1 : trimL (0 :: trimL l) = trimL (trimL l) := by simp [trimL]
  unfold numB
  cases decide ((trimL l).length = 0) || decide ((trimL l).headD 0 ≥ 128) <;> simp only [cond_true, cond_false]
  · exact h0
  · rw [h1, h0]
theorem trim_head {l : List Nat} (h : (trimL l).length ≠ 0) : (trimL l).headD 0 ≠ 0 := by
  unfold trimL at h ⊢
  induction l with
  | nil => exact absurd rfl h
  | cons b r ih =>
    by_cases hb : b = 0
    · subst hb; exact ih h
    · have : List.dropWhile (fun x => x == 0) (b :: r) = b :: r := by simp [hb]
      rw [this]; exact hb
theorem numB_whole {l : List Nat} : wholeT (numB l) = true ∧ (numB l).headD 0 < 128 := by
  unfold numB
  cases h1 : decide ((trimL l).length = 0) with
  | true =>
    have : trimL l = [] := List.eq_nil_of_length_eq_zero (of_decide_eq_true h1)
    rw [this]; exact ⟨rfl, by decide⟩
  | false =>
    have h0 := trim_head (of_decide_eq_false h1)
    have h1' := of_decide_eq_false h1
    obtain ⟨b, r, hl⟩ : ∃ b r, trimL l = b :: r := cons_of (by omega)
    cases h2 : decide ((trimL l).headD 0 ≥ 128) with
    | true =>
      simp only [Bool.or_true, cond_true]
      rw [hl] at h0 h2 ⊢
      have h2' : b ≥ 128 := of_decide_eq_true h2
      refine ⟨?_, by show 0 < 128; decide⟩
      simp only [wholeT]
      rw [decide_eq_false (p := b < 128) (by omega), decide_eq_false (p := (0 : Nat) = 255) (by decide)]; simp
    | false =>
      simp only [Bool.or_self, cond_false]
      rw [hl] at h0 h2 ⊢
      have h2' : ¬ b ≥ 128 := of_decide_eq_false h2
      have h0' : b ≠ 0 := h0
      refine ⟨?_, by show b < 128; omega⟩
      cases r with
      | nil => rfl
      | cons c r => simp only [wholeT]; rw [decide_eq_false (p := b = 0) h0', decide_eq_false (p := b = 255) (by omega)]; rfl
def tN (l : List Nat) : Tr := .mk 2 (numB l) []
theorem trimL_mem {l : List Nat} (h : ∀ x ∈ l, x < 256) : ∀ x ∈ numB l, x < 256 := by
  unfold numB
  cases decide ((trimL l).length = 0) || decide ((trimL l).headD 0 ≥ 128) <;> simp only [cond_true, cond_false]
  · exact trimL_lt h
  · intro x hx
    rcases List.mem_cons.1 hx with rfl | hx
    · decide
    · exact trimL_lt h x hx
theorem tN_ok {l : List Nat} (h : ∀ x ∈ l, x < 256) (hl : l.length ≤ 64) : (tN l).ok := by
  simp only [tN, Tr.ok, oks, List.length_nil]
  exact ⟨trimL_mem h, by have := numB_len l; omega, by omega, True.intro⟩
theorem valT_tN {l : List Nat} (n : Nat) (h : l.length = n) : valT (tN l) n = some l := by
  have hw := numB_whole (l := l)
  have hr : rightT (.mk 2 (numB l) []) 1 = true := by
    have : rightT (.mk 2 (numB l) []) 1 = (decide (([] : List Tr).length = 0) && wholeT (numB l)) := rfl
    rw [this, hw.1]; rfl
  have ht := trimL_len l
  unfold tN
  rw [valT_eq]
  have hb : rbadT (.mk 2 (numB l) []) = false := by
    simp only [rbadT, hr, Bool.not_true, Bool.false_or, Bool.or_eq_false_iff]
    exact ⟨by decide, decide_eq_false (by omega)⟩
  rw [hb, trim_numB, decide_eq_false (by omega)]
  simp only [cond_false, Option.some.injEq]
  have : ∀ l : List Nat, List.replicate (l.length - (trimL l).length) 0 ++ trimL l = l := by
    intro l
    induction l with
    | nil => rfl
    | cons b r ih =>
      by_cases hb : b = 0
      · have e : trimL (b :: r) = trimL r := by simp [trimL, hb]
        have hle := trimL_len r
        rw [e, List.length_cons, show r.length + 1 - (trimL r).length = (r.length - (trimL r).length) + 1 by omega, List.replicate_succ, List.cons_append, ih, hb]
      · have e : trimL (b :: r) = b :: r := by simp [trimL, hb]
        rw [e]; simp
  rw [← h]; exact this l
theorem numL_lt (m : Nat) : ∀ x ∈ numL m, x < 256 := by
  intro x hx
  simp only [numL, n8, List.mem_cons, List.not_mem_nil, or_false] at hx
  rcases hx with rfl | rfl | rfl | rfl | rfl | rfl | rfl | rfl <;> exact Nat.mod_lt _ (by decide)
theorem beN_numL {m : Nat} (h : m < 9223372036854775808) : beN (numL m) = m := by
  simp only [numL, n8, hb, beN, List.foldl_cons, List.foldl_nil]
  omega
theorem tnN_num {m : Nat} (h : m < 9223372036854775808) : tnN (tN (numL m)) = if m < 4611686018427387904 then ((m : Int), 0) else (0, 2) := by
  simp only [tnN, valT_tN 8 (show (numL m).length = 8 from rfl), beN_numL h]
  by_cases hs : m < 4611686018427387904
  · rw [decide_eq_true hs, if_pos hs]; rfl
  · rw [decide_eq_false hs, if_neg hs]; rfl
theorem tbN_big {bs : List Nat} (h : bs.length = 32) : tbN (tN bs) = (bs, 0) := by
  simp only [tbN, valT_tN 32 h]
/-! ### the document's Num -/
def rcut : List Nat → List Nat
  | a :: b :: r => bif decide (a = 0) && decide (b < 128) then rcut (b :: r) else a :: b :: r
  | l => l
theorem rcut_eq : ∀ l : List Nat, (bif decide ((rcut l).length = 0) || decide ((rcut l).headD 0 ≥ 128) then 0 :: rcut l else rcut l) = numB l
  | [] => rfl
  | [a] => by
    by_cases ha : a = 0
    · subst ha; rfl
    · have e : trimL [a] = [a] := by simp [trimL, ha]
      unfold numB
      rw [e]
      rfl
  | a :: b :: r => by
    cases h : decide (a = 0) && decide (b < 128) with
    | true =>
      have ha : a = 0 := by simp only [Bool.and_eq_true, decide_eq_true_eq] at h; exact h.1
      have e : rcut (a :: b :: r) = rcut (b :: r) := by simp only [rcut, h, cond_true]
      have e2 : numB (a :: b :: r) = numB (b :: r) := by
        have : trimL (a :: b :: r) = trimL (b :: r) := by subst ha; simp [trimL]
        unfold numB; rw [this]
      rw [e, e2]; exact rcut_eq (b :: r)
    | false =>
      have e : rcut (a :: b :: r) = a :: b :: r := by simp only [rcut, h, cond_false]
      rw [e]
      by_cases ha : a = 0
      · have hb : ¬ b < 128 := by intro hb; rw [decide_eq_true ha, decide_eq_true hb] at h; cases h
        have et : trimL (a :: b :: r) = b :: r := by subst ha; have : b ≠ 0 := by omega
                                                     simp [trimL, this]
        unfold numB
        rw [et]
        have c1 : decide ((a :: b :: r).length = 0) = false := decide_eq_false (by simp)
        have c2 : decide ((a :: b :: r).headD 0 ≥ 128) = false := decide_eq_false (by show ¬ a ≥ 128; omega)
        have c3 : decide ((b :: r).length = 0) = false := decide_eq_false (by simp)
        have c4 : decide ((b :: r).headD 0 ≥ 128) = true := decide_eq_true (by show b ≥ 128; omega)
        rw [c1, c2, c3, c4, ha]
        rfl
      · have et : trimL (a :: b :: r) = a :: b :: r := by simp [trimL, ha]
        unfold numB
        rw [et]
theorem rcut_t {a b : Nat} {r : List Nat} (h : (decide (a = 0) && decide (b < 128)) = true) : rcut (a :: b :: r) = rcut (b :: r) := by simp only [rcut, h, cond_true]
theorem rcut_f {a b : Nat} {r : List Nat} (h : (decide (a = 0) && decide (b < 128)) = false) : rcut (a :: b :: r) = a :: b :: r := by simp only [rcut, h, cond_false]
theorem rcut_s {l : List Nat} (h : decide (l.length > 1) = false) : rcut l = l := by
  have := of_decide_eq_false h
  match l, this with
  | [], _ => rfl
  | [a], _ => rfl
  | a :: b :: r, h => simp only [List.length_cons] at h; omega
theorem rnode_leaf {w0 w : World} (t : Int) (b : List Nat) : RetD w0 w (.agg #[.int .i64 t, .string (bstr b), .slice none 0 0]) (datR (.mk t b [])) := by
  refine ⟨fun _ => False, ⟨[.int .i64 t, .string (bstr b), .slice none 0 0], rfl, ?_⟩, fun k hk => hk.elim⟩
  simp only [RN, RNs]
  exact ⟨_, [], rfl, ⟨none, 0, rfl, Nat.le_refl _, rfl, .inl rfl⟩, rfl⟩
theorem two_of {l : List Nat} (h : decide (l.length > 1) = true) : ∃ a b r, l = a :: b :: r := by
  have := of_decide_eq_true h
  match l, this with
  | a :: b :: r, _ => exact ⟨a, b, r, rfl⟩
theorem Big_ok {bs : List Nat} (hb32 : bs.length = 32) (w : World) : Calls Tryd.prog 25 #[.agg (bs.map b8).toArray] w fun e w' => ∃ v, e = .returned v ∧ RetD w w' v (datN (tN bs)) ∧ Bw w w' := by
  go_enter Tryd.func25, Tryd.ntmps25
  refine ve_go ?_
  simp only [List.map_cons, List.map_nil]
  refine vseq ?_
  apply vrp
  · apply VE.cons
    · exact ev_boxr (l := bs.map b8) rfl rfl (gn rfl) rfl (by simp [Value.cells])
    simp only [nm, seval]
    apply VE.cons
    · exact ev_alloc rfl rfl (gn rfl) Tryd.zeroValue29
    simp only [nm, seval]
    exact VE.nil _
  · kernel_rfl
  change VOk _ _ _ _ _
  refine vseq ?_
  apply vrp
  · apply VE.cons
    · exact ev_slicea rfl (gn rfl) rfl Tryd.underlying44 Tryd.sizeOf5
    simp only [nm, seval]
    apply VE.cons
    · exact ev_calld (D := datN (tN bs)) [1] rfl rfl (gn rfl) rfl (en_of Tryd.func38 (by kernel_rfl) rfl) (fun ρ S w' hb hR => by obtain ⟨S0, s0⟩ := rdg_arr (id := 1) (off := 0) (len := 32) (cap := 32) (size := 1) (l := bs.map b8) rfl (List.take_of_length_le (by simp [hb32])) (by simp [hb32]) (Nat.le_refl _) ρ S w' hb hR; exact number_ok (bs := bs) (S := S0) w' (by rw [hb32]; exact s0) (by omega))
    simp only [nm, seval]
    apply VE.cons
    · exact ev_storeR (vl := [.fn (cellV 0) (.d 4), .fn (cellV 1) (.d 4), .fn (cellV 2) (.d 4)]) [2, 4] rfl (gn rfl) rfl rfl rfl Tryd.sizeOf29 rfl (fun ρ S w' _ hR => by obtain ⟨c, h1, h2⟩ := datN_get (id := 4) hR (by simp) rfl; have hf := fn3 h1 (DN_len h2); exact ⟨hf.1, hf.2 ▸ DN_one h2⟩) rfl (by simp)
    simp only [nm, seval]
    exact VE.nil _
  · kernel_rfl
  change VOk _ _ _ _ _
  refine vret ?_
  refine post_ret (res1 Tryd.results25 (rv_cella rfl rfl Tryd.underlying29 rfl Tryd.sizeOf29 rfl)) ?_
  intro ρ w' hr
  exact ⟨_, rfl, ret_datN 4 hr rfl, hr.1⟩
theorem rNum_ok {l : List Nat} (h8 : ∀ x ∈ l, x < 256) (hl : l.length ≤ 64) (w : World) : Calls Tryd.prog 27 #[.string (bstr l)] w fun e w' => ∃ v, e = .returned v ∧ RetD w w' v (datR (tN l)) ∧ Bw w w' := by
  go_enter Tryd.func27, Tryd.ntmps27
  refine ve_go ?_
  simp only [List.map_cons, List.map_nil]
  refine vseq ?_
  apply vrp
  · apply VE.cons
    · exact ev_alloc rfl rfl (gn rfl) Tryd.zeroValue24
    simp only [nm, seval]
    exact VE.nil _
  · kernel_rfl
  change VOk _ _ _ _ _
  refine vseq ?_
  refine vblock ?_
  refine vloop_w (α := {x : List Nat // rcut x = rcut l ∧ (∀ y ∈ x, y < 256) ∧ x.length ≤ l.length}) (fun (x : {x : List Nat // rcut x = rcut l ∧ (∀ y ∈ x, y < 256) ∧ x.length ≤ l.length}) f => ⟨[.v (.string (bstr x.1)), .v (f 1), .p 2 0, .v (f 3), .v (f 4), .v (f 5), .v (f 6), .v (f 7), .v (f 8), .v (f 9), .v (f 10), .v (f 11), .v (f 12), .v (f 13), .v (f 14), .v (f 15), .v (f 16), .v (f 17), .v (f 18), .v (f 19), .v (f 20), .v (f 21), .v (f 22), .v (f 23), .v (f 24), .v (f 25), .v (f 26), .v (f 27), .v (f 28)], memOf [(2, .cells [.v (.int .i64 0), .v (.string (ByteArray.mk #[])), .v (.slice none 0 0)] 24)]⟩) (fun x => x.1.length) ?_ (⟨l, rfl, h8, Nat.le_refl _⟩) ?_
  · rintro ⟨x, hx, hx8, hxl⟩ f
    obtain ⟨q, h_q⟩ : ∃ q, decide (x.length > 1) = q := ⟨_, rfl⟩
    have h_q' := (nat_gt x.length 1).trans h_q
    obtain ⟨q2, h_q2⟩ : ∃ q, decide (x.headD 0 = 0) = q := ⟨_, rfl⟩
    have h_q2' := (nat_eq (x.headD 0) 0).trans h_q2
    obtain ⟨q3, h_q3⟩ : ∃ q, decide (x.getD 1 0 < 128) = q := ⟨_, rfl⟩
    have h_q3' := (nat_lt (x.getD 1 0) 128).trans h_q3
    obtain ⟨q4, h_q4⟩ : ∃ q, decide (x.length = 0) = q := ⟨_, rfl⟩
    obtain ⟨q5, h_q5⟩ : ∃ q, decide (x.headD 0 ≥ 128) = q := ⟨_, rfl⟩
    have h_q5' := (nat_ge (x.headD 0) 128).trans h_q5
    have hg0 : 0 < x.length → x[0]? = some (x.headD 0) := get0
    have hg1 : q = true → x[1]? = some (x.getD 1 0) := fun g => by have := of_decide_eq_true (h_q.trans g); rw [List.getD_eq_getElem?_getD, List.getElem?_eq_getElem (by omega)]; rfl
    have hh8 : x.headD 0 < 256 := by cases x with | nil => decide | cons a r => exact hx8 a (by simp)
    have hg8 : q = true → x.getD 1 0 < 256 := fun g => hx8 _ (List.mem_of_getElem? (hg1 g))
    have hp : q = true → 0 < x.length := fun g => by have := of_decide_eq_true (h_q.trans g); omega
    have hp4 : q4 = false → 0 < x.length := fun g => by have := of_decide_eq_false (h_q4.trans g); omega
    cases q <;> cases q2 <;> cases q3 <;>
    (
      change VOk _ _ _ _ _
      refine vseq ?_
      refine vseq ?_
      apply vrp
      · apply VE.cons
        · exact ev_move rfl (gn rfl)
        simp only [nm, seval]
        apply VE.cons
        · exact ev_lenb rfl (gn rfl) rfl Tryd.underlying9
        simp only [nm, seval]
        apply VE.cons
        · exact ev_gtr rfl (gn rfl) rfl rfl h_q'
        simp only [nm, seval]
        apply VE.cons
        · exact ev_move rfl (gn rfl)
        simp only [nm, seval]
        apply VE.cons
        · first | exact Ev.skip (fun _ => rfl) | exact ev_move rfl (fun _ => rfl)
        simp only [nm, seval]
        apply VE.cons
        · first | exact Ev.skip (fun _ => rfl) | exact ev_idxb (k := 0) rfl (fun _ => rfl) rfl rfl Tryd.underlying9 (hg0 (hp rfl)) (hh8)
        simp only [nm, seval]
        apply VE.cons
        · first | exact Ev.skip (fun _ => rfl) | exact ev_eql rfl (fun _ => rfl) rfl rfl h_q2'
        simp only [nm, seval]
        apply VE.cons
        · first | exact ev_pick_t rfl (gn rfl) rfl rfl | exact ev_pick_f rfl (gn rfl) rfl rfl
        simp only [nm, seval]
        apply VE.cons
        · exact ev_move rfl (gn rfl)
        simp only [nm, seval]
        apply VE.cons
        · first | exact Ev.skip (fun _ => rfl) | exact ev_move rfl (fun _ => rfl)
        simp only [nm, seval]
        apply VE.cons
        · first | exact Ev.skip (fun _ => rfl) | exact ev_idxb (k := 1) rfl (fun _ => rfl) rfl rfl Tryd.underlying9 (hg1 rfl) (hg8 rfl)
        simp only [nm, seval]
        apply VE.cons
        · first | exact Ev.skip (fun _ => rfl) | exact ev_lss5 rfl (fun _ => rfl) rfl rfl h_q3'
        simp only [nm, seval]
        apply VE.cons
        · first | exact ev_pick_t rfl (gn rfl) rfl rfl | exact ev_pick_f rfl (gn rfl) rfl rfl
        simp only [nm, seval]
        exact VE.nil _
      · kernel_rfl
      change VOk _ _ _ _ _
      first
      | (
          refine vcond_t rfl ?_
          refine vskip ?_
          change VOk _ _ _ _ _
          refine vblock ?_
          apply vrp
          · apply VE.cons
            · exact ev_move rfl (gn rfl)
            simp only [nm, seval]
            apply VE.cons
            · exact ev_cutlo (k := 1) (b := x) (b' := x.drop 1) rfl (gn rfl) rfl rfl Tryd.underlying9 (hp rfl) rfl
            simp only [nm, seval]
            apply VE.cons
            · exact ev_assign rfl (gn rfl)
            simp only [nm, seval]
            exact VE.nil _
          · kernel_rfl
          obtain ⟨a, b, r, rfl⟩ := two_of h_q
          have hcd : (decide (a = 0) && decide (b < 128)) = true := by have e1 : decide (a = 0) = true := h_q2; have e2 : decide (b < 128) = true := h_q3; rw [e1, e2]; rfl
          refine ⟨⟨b :: r, by rw [← hx, rcut_t hcd], fun y hy => hx8 y (by simp [hy]), by simp only [List.length_cons] at hxl ⊢; omega⟩, by show (b :: r).length < (a :: b :: r).length; simp, ?_⟩
          exact weaker_forget (fun i => i == 0 || i == 2) []
        )
      | (
          refine vcond_f rfl ?_
          have hfin : rcut l = x := by rw [← hx]; first | exact rcut_s h_q | (obtain ⟨a, b, r, rfl⟩ := two_of h_q; have e1 : decide (a = 0) = _ := h_q2; have e2 : decide (b < 128) = _ := h_q3; exact rcut_f (by rw [e1, e2]; rfl))
          have hnum : numB l = bif q4 || q5 then 0 :: x else x := by rw [← rcut_eq, hfin, h_q4, h_q5]
          have he4 : decide (x = []) = q4 := by rw [← h_q4]; cases x <;> simp
          cases q4 <;> cases q5 <;>
          (
            refine vexit ?_
            change VOk _ _ _ _ _
            refine vseq ?_
            refine vseq ?_
            apply vrp
            · apply VE.cons
              · exact ev_move rfl (gn rfl)
              simp only [nm, seval]
              apply VE.cons
              · exact ev_bin rfl (gn rfl) rfl rfl (fun w => str_is (b := []) he4 hx8 (fun x hx => by cases hx) _ _ w)
              simp only [nm, seval]
              apply VE.cons
              · exact ev_move rfl (gn rfl)
              simp only [nm, seval]
              apply VE.cons
              · first | exact Ev.skip (fun _ => rfl) | exact ev_move rfl (fun _ => rfl)
              simp only [nm, seval]
              apply VE.cons
              · first | exact Ev.skip (fun _ => rfl) | exact ev_idxb (k := 0) rfl (fun _ => rfl) rfl rfl Tryd.underlying9 (hg0 (hp4 rfl)) (hh8)
              simp only [nm, seval]
              apply VE.cons
              · first | exact Ev.skip (fun _ => rfl) | exact ev_geq5 rfl (fun _ => rfl) rfl rfl h_q5'
              simp only [nm, seval]
              apply VE.cons
              · first | exact ev_pick_t rfl (gn rfl) rfl rfl | exact ev_pick_f rfl (gn rfl) rfl rfl
              simp only [nm, seval]
              exact VE.nil _
            · kernel_rfl
            change VOk _ _ _ _ _
            first
            | (
                refine vcond_t rfl ?_
                apply vrp
                · apply VE.cons
                  · exact ev_move rfl (gn rfl)
                  simp only [nm, seval]
                  apply VE.cons
                  · exact ev_bin (c := .string (bstr (0 :: x))) rfl (gn rfl) rfl rfl (fun w => str_add [0] x (by simp; omega) _ _ w)
                  simp only [nm, seval]
                  apply VE.cons
                  · exact ev_assign rfl (gn rfl)
                  simp only [nm, seval]
                  exact VE.nil _
                · kernel_rfl
                change VOk _ _ _ _ _
                refine vseq ?_
                apply vrp
                · apply VE.cons
                  · exact ev_move rfl (gn rfl)
                  simp only [nm, seval]
                  apply VE.cons
                  · first | exact ev_build (cells := #[.int .i64 2, .string (bstr (0 :: x)), .slice none 0 0]) rfl (gn rfl) rfl (built24 2 (bstr (0 :: x))) | exact ev_build (cells := #[.int .i64 2, .string (bstr x), .slice none 0 0]) rfl (gn rfl) rfl (built24 2 (bstr x))
                  simp only [nm, seval]
                  apply VE.cons
                  · exact ev_store rfl (gn rfl) rfl rfl rfl Tryd.sizeOf24 rfl (by simp) rfl
                  simp only [nm, seval]
                  exact VE.nil _
                · kernel_rfl
                change VOk _ _ _ _ _
                refine vret ?_
                refine post_ret (res1 Tryd.results27 (rv_cella rfl rfl Tryd.underlying24 rfl Tryd.sizeOf24 rfl)) ?_
                intro ρ w' hr
                unfold tN
                rw [hnum]
                refine ⟨_, rfl, ?_, hr.1⟩
                exact rnode_leaf 2 _
              )
            | (
                refine vcond_f rfl ?_
                refine vskip ?_
                change VOk _ _ _ _ _
                refine vseq ?_
                apply vrp
                · apply VE.cons
                  · exact ev_move rfl (gn rfl)
                  simp only [nm, seval]
                  apply VE.cons
                  · first | exact ev_build (cells := #[.int .i64 2, .string (bstr (0 :: x)), .slice none 0 0]) rfl (gn rfl) rfl (built24 2 (bstr (0 :: x))) | exact ev_build (cells := #[.int .i64 2, .string (bstr x), .slice none 0 0]) rfl (gn rfl) rfl (built24 2 (bstr x))
                  simp only [nm, seval]
                  apply VE.cons
                  · exact ev_store rfl (gn rfl) rfl rfl rfl Tryd.sizeOf24 rfl (by simp) rfl
                  simp only [nm, seval]
                  exact VE.nil _
                · kernel_rfl
                change VOk _ _ _ _ _
                refine vret ?_
                refine post_ret (res1 Tryd.results27 (rv_cella rfl rfl Tryd.underlying24 rfl Tryd.sizeOf24 rfl)) ?_
                intro ρ w' hr
                unfold tN
                rw [hnum]
                refine ⟨_, rfl, ?_, hr.1⟩
                exact rnode_leaf 2 _
              )
          )
        )
    )
  · exact weaker_forget (fun i => i == 0 || i == 2) []
theorem c_fromD {w : World} {base : Nat} {ρ : Nat → Nm} {S : Nat → Nat → Prop} {m : Mem} {rd : List Nat} (id : Nat) {t : Tr} (hok : t.ok) (hR : RelOn base ρ S w (restr rd m)) (hid : id ∈ rd) (hm : m id = some (.dat (datN t))) :
    Calls Tryd.prog 16 (SV.cs ρ [.d id]).toArray w fun e w' => ∃ v, e = .returned v ∧ RetD w w' v (datR t) ∧ Bw w w' := by
  obtain ⟨c, h1, h2⟩ := datN_get hR hid hm
  simp only [SV.cs, SV.c, h1]
  exact from_all t hok c w _ h2
theorem c_sameDD {w : World} {base : Nat} {ρ : Nat → Nm} {S : Nat → Nat → Prop} {m : Mem} {rd : List Nat} (id jd : Nat) {t t' : Tr} (hok : t.ok) (hok' : t'.ok) (hR : RelOn base ρ S w (restr rd m)) (hid : id ∈ rd) (hm : m id = some (.dat (datR t))) (hjd : jd ∈ rd) (hm' : m jd = some (.dat (datR t'))) :
    Calls Tryd.prog 15 (SV.cs ρ [.d id, .d jd]).toArray w fun e w' => e = .returned (.bool (sameT t t')) ∧ Bw w w' := by
  obtain ⟨c, h1, h2⟩ := datR_get hR hid hm
  obtain ⟨c', h1', h2'⟩ := datR_get hR hjd hm'
  simp only [SV.cs, SV.c, h1, h1']
  exact same_all t hok t' c c' w _ _ hok' h2 h2'
theorem word_node {w : World} (b : List Nat) : RN w (fun _ => False) (.mk 12 b []) [.int .i64 12, .string (bstr b), .slice none 0 0] := by
  simp only [RN, RNs]
  exact ⟨_, [], rfl, ⟨none, 0, rfl, Nat.le_refl _, rfl, .inl rfl⟩, rfl⟩
theorem word_ok {b : List Nat} (h8 : ∀ x ∈ b, x < 256) (hl : b.length ≤ 1048576) : (Tr.mk 12 b []).ok := by
  simp only [Tr.ok, oks, List.length_nil]
  exact ⟨h8, hl, by omega, True.intro⟩
theorem nums_l {n : Int} {bs b : List Nat} (hn : n ≤ 9223372036854775807) (hb32 : bs.length = 32) (hb8 : ∀ x ∈ bs, x < 256) (h8 : ∀ x ∈ b, x < 256) (hbl : b.length ≤ maxLen) (w : World) (hl : ¬ b.length ≤ 300) : Calls Tryd.prog 6 #[.int .i64 n, .agg (bs.map b8).toArray, .string (bstr b)] w fun e w' => e = .returned (.bool true) ∧ Bw w w' := by
  go_enter Tryd.func6, Tryd.ntmps6
  refine ve_go ?_
  simp only [List.map_cons, List.map_nil]
  refine vseq ?_
  apply vrp
  · apply VE.cons
    · exact ev_boxr (l := bs.map b8) rfl rfl (gn rfl) rfl (by simp [Value.cells])
    simp only [nm, seval]
    apply VE.cons
    · exact ev_assign rfl (gn rfl)
    simp only [nm, seval]
    exact VE.nil _
  · kernel_rfl
  change VOk _ _ _ _ _
  refine vseq ?_
  refine vseq ?_
  apply vrp
  · apply VE.cons
    · exact ev_move rfl (gn rfl)
    simp only [nm, seval]
    apply VE.cons
    · exact ev_lenb rfl (gn rfl) rfl Tryd.underlying9
    simp only [nm, seval]
    apply VE.cons
    · exact ev_gtr (p := true) rfl (gn rfl) rfl rfl (decide_eq_true (by omega))
    simp only [nm, seval]
    exact VE.nil _
  · kernel_rfl
  change VOk _ _ _ _ _
  refine vcond_t rfl ?_
  refine vseq ?_
  apply vrp
  · apply VE.cons
    · exact ev_callb rfl (gn rfl) rfl (en_of Tryd.func14 (by kernel_rfl) rfl) (fun w' hb => ders_ok w')
    simp only [nm, seval]
    apply VE.cons
    · exact ev_assign rfl (gn rfl)
    simp only [nm, seval]
    exact VE.nil _
  · kernel_rfl
  change VOk _ _ _ _ _
  refine vret ?_
  refine post_ret (res1 Tryd.results6 (rv_tmp rfl)) ?_
  intro ρ w' hr
  exact ⟨rfl, hr.1⟩
theorem nums_s {n : Int} {bs b : List Nat} (hn : n ≤ 9223372036854775807) (hb32 : bs.length = 32) (hb8 : ∀ x ∈ bs, x < 256) (h8 : ∀ x ∈ b, x < 256) (hbl : b.length ≤ maxLen) (w : World) (hl : b.length ≤ 300) (hs : n.toNat < 4611686018427387904) : Calls Tryd.prog 6 #[.int .i64 n, .agg (bs.map b8).toArray, .string (bstr b)] w fun e w' => e = .returned (.bool true) ∧ Bw w w' := by
  have hokN : (tN (numL n.toNat)).ok := tN_ok (numL_lt _) (by show 8 ≤ 64; decide)
  have hokB : (tN bs).ok := tN_ok hb8 (by omega)
  have hokW : (Tr.mk 12 b []).ok := word_ok h8 (by omega)
  obtain ⟨q2, h_q2⟩ : ∃ p, rightT (.mk 12 b []) 1 = p := ⟨_, rfl⟩
  obtain ⟨q3, h_q3⟩ : ∃ p, decide (b.length ≤ 64) = p := ⟨_, rfl⟩
  have h_q3' : decide ((b.length : Int) ≤ ((64 : Nat) : Int)) = q3 := by rw [← h_q3]; exact decide_eq_decide.2 (by omega)
  obtain ⟨W, hW⟩ : ∃ W, twN (.mk 12 b []) = W := ⟨_, rfl⟩
  have hW2 : W = bif (q2 && q3) then (b, 0) else ([], 2) := by rw [← hW, ← h_q2, ← h_q3]; rfl
  have hX := tnN_num (m := n.toNat) (by omega)
  rw [if_pos hs] at hX
  go_enter Tryd.func6, Tryd.ntmps6
  refine ve_go ?_
  simp only [List.map_cons, List.map_nil]
  refine vseq ?_
  apply vrp
  · apply VE.cons
    · exact ev_boxr (l := bs.map b8) rfl rfl (gn rfl) rfl (by simp [Value.cells])
    simp only [nm, seval]
    apply VE.cons
    · exact ev_assign rfl (gn rfl)
    simp only [nm, seval]
    exact VE.nil _
  · kernel_rfl
  change VOk _ _ _ _ _
  refine vseq ?_
  refine vseq ?_
  apply vrp
  · apply VE.cons
    · exact ev_move rfl (gn rfl)
    simp only [nm, seval]
    apply VE.cons
    · exact ev_lenb rfl (gn rfl) rfl Tryd.underlying9
    simp only [nm, seval]
    apply VE.cons
    · exact ev_gtr (p := false) rfl (gn rfl) rfl rfl (decide_eq_false (by omega))
    simp only [nm, seval]
    exact VE.nil _
  · kernel_rfl
  change VOk _ _ _ _ _
  refine vcond_f rfl ?_
  refine vskip ?_
  change VOk _ _ _ _ _
  refine vseq ?_
  apply vrp
  · apply VE.cons
    · exact ev_move rfl (gn rfl)
    simp only [nm, seval]
    apply VE.cons
    · exact ev_calld (D := datN (tN (numL n.toNat))) [] rfl rfl (gn rfl) rfl (en_of Tryd.func24 (by kernel_rfl) rfl) (fun ρ S w' hb _ => Num_ok n hn w')
    simp only [nm, seval]
    apply VE.cons
    · exact ev_callp (v := .tuple #[.int .i64 ((n.toNat : Nat) : Int), .int .i64 0]) [20] rfl (gn rfl) rfl (en_of Tryd.func19 (by kernel_rfl) rfl) (fun ρ S w' hb hR => by have := c_toNum 20 hokN hR (by simp) rfl; rw [hX] at this; exact this)
    simp only [nm, seval]
    apply VE.cons
    · exact ev_move rfl (gn rfl)
    simp only [nm, seval]
    apply VE.cons
    · first | exact ev_extract rfl (gn rfl) rfl rfl | exact ev_extractt rfl (gn rfl) rfl rfl
    simp only [nm, seval]
    apply VE.cons
    · first | exact ev_extract rfl (gn rfl) rfl rfl | exact ev_extractt rfl (gn rfl) rfl rfl
    simp only [nm, seval]
    apply VE.cons
    · exact ev_assign rfl (gn rfl)
    simp only [nm, seval]
    apply VE.cons
    · exact ev_assign rfl (gn rfl)
    simp only [nm, seval]
    exact VE.nil _
  · kernel_rfl
  change VOk _ _ _ _ _
  refine vseq ?_
  apply vrp
  · apply VE.cons
    · exact ev_loadr (vs := bs.map b8) rfl (gn rfl) rfl rfl Tryd.underlying44 rfl Tryd.sizeOf44 (List.take_of_length_le (by simp [hb32])) (by simp [hb32])
    simp only [nm, seval]
    apply VE.cons
    · exact ev_calld (D := datN (tN bs)) [] rfl rfl (gn rfl) rfl (en_of Tryd.func25 (by kernel_rfl) rfl) (fun ρ S w' hb _ => Big_ok hb32 w')
    simp only [nm, seval]
    apply VE.cons
    · exact ev_callp (v := .tuple #[.agg (bs.map b8).toArray, .int .i64 0]) [26] rfl (gn rfl) rfl (en_of Tryd.func20 (by kernel_rfl) rfl) (fun ρ S w' hb hR => by have := c_toBig 26 hokB hR (by simp) rfl; rw [tbN_big hb32] at this; exact this)
    simp only [nm, seval]
    apply VE.cons
    · exact ev_move rfl (gn rfl)
    simp only [nm, seval]
    apply VE.cons
    · first | exact ev_extract rfl (gn rfl) rfl rfl | exact ev_extractt rfl (gn rfl) rfl rfl
    simp only [nm, seval]
    apply VE.cons
    · first | exact ev_extract rfl (gn rfl) rfl rfl | exact ev_extractt rfl (gn rfl) rfl rfl
    simp only [nm, seval]
    apply VE.cons
    · exact ev_allocr (l := z32.map b8) rfl rfl (gn rfl) Tryd.zeroValue44 rfl
    simp only [nm, seval]
    apply VE.cons
    · exact ev_storer (l' := bs.map b8) rfl (gn rfl) rfl rfl rfl Tryd.sizeOf44 (by simp [Value.cells, hb32]) (by simp [z32_len]) (by show (bs.map b8).toArray.toList.all _ = true; exact b8_all _) (by simp [Value.cells, hb32, z32_len])
    simp only [nm, seval]
    apply VE.cons
    · exact ev_assign rfl (gn rfl)
    simp only [nm, seval]
    exact VE.nil _
  · kernel_rfl
  change VOk _ _ _ _ _
  refine vseq ?_
  apply vrp
  · apply VE.cons
    · exact ev_move rfl (gn rfl)
    simp only [nm, seval]
    apply VE.cons
    · exact ev_calld (D := datN (.mk 12 b [])) [] rfl rfl (gn rfl) rfl (en_of Tryd.func26 (by kernel_rfl) rfl) (fun ρ S w' hb _ => Word_ok h8 hbl w')
    simp only [nm, seval]
    apply VE.cons
    · exact ev_callp (v := .tuple #[.string (bstr W.1), .int .i64 W.2]) [32] rfl (gn rfl) rfl (en_of Tryd.func21 (by kernel_rfl) rfl) (fun ρ S w' hb hR => by have := c_toWord 32 hokW hR (by simp) rfl; rw [hW] at this; exact this)
    simp only [nm, seval]
    apply VE.cons
    · exact ev_move rfl (gn rfl)
    simp only [nm, seval]
    apply VE.cons
    · first | exact ev_extract rfl (gn rfl) rfl rfl | exact ev_extractt rfl (gn rfl) rfl rfl
    simp only [nm, seval]
    apply VE.cons
    · first | exact ev_extract rfl (gn rfl) rfl rfl | exact ev_extractt rfl (gn rfl) rfl rfl
    simp only [nm, seval]
    apply VE.cons
    · exact ev_assign rfl (gn rfl)
    simp only [nm, seval]
    apply VE.cons
    · exact ev_assign rfl (gn rfl)
    simp only [nm, seval]
    exact VE.nil _
  · kernel_rfl
  change VOk _ _ _ _ _
  refine vseq ?_
  apply vrp
  · apply VE.cons
    · exact ev_move rfl (gn rfl)
    simp only [nm, seval]
    apply VE.cons
    · exact ev_max (c := ((n.toNat : Nat) : Int)) rfl (gn rfl) rfl rfl (by omega)
    simp only [nm, seval]
    apply VE.cons
    · exact ev_assign rfl (gn rfl)
    simp only [nm, seval]
    exact VE.nil _
  · kernel_rfl
  change VOk _ _ _ _ _
  refine vseq ?_
  refine vseq ?_
  apply vrd (by kernel_rfl)
  · apply VE.cons
    · exact ev_callb rfl (gn rfl) rfl (en_of Tryd.func14 (by kernel_rfl) rfl) (fun w' hb => ders_ok w')
    simp only [nm, seval]
    apply VE.cons
    · exact ev_not rfl (gn rfl) rfl
    simp only [nm, seval]
    apply VE.cons
    · exact ev_move rfl (gn rfl)
    simp only [nm, seval]
    apply VE.cons
    · first | exact Ev.skip (fun _ => rfl) | exact ev_move rfl (fun _ => rfl)
    simp only [nm, seval]
    apply VE.cons
    · first | exact Ev.skip (fun _ => rfl) | exact ev_calld (D := datN (tN (numL n.toNat))) [] rfl rfl (fun _ => rfl) rfl (en_of Tryd.func24 (by kernel_rfl) rfl) (fun ρ S w' hb _ => Num_ok n hn w')
    simp only [nm, seval]
    apply VE.cons
    · first | exact Ev.skip (fun _ => rfl) | exact ev_calld (D := datR (tN (numL n.toNat))) [42] rfl rfl (fun _ => rfl) rfl (en_of Tryd.func16 (by kernel_rfl) rfl) (fun ρ S w' hb hR => c_fromD 42 hokN hR (by simp) rfl)
    simp only [nm, seval]
    apply VE.cons
    · first | exact Ev.skip (fun _ => rfl) | exact ev_move rfl (fun _ => rfl)
    simp only [nm, seval]
    apply VE.cons
    · first | exact Ev.skip (fun _ => rfl) | exact ev_callb rfl (fun _ => rfl) rfl (en_of Tryd.func23 (by kernel_rfl) rfl) (fun w' hb => Eight_ok n.toNat (by omega) w')
    simp only [nm, seval]
    apply VE.cons
    · first | exact Ev.skip (fun _ => rfl) | exact ev_calld (D := datR (tN (numL n.toNat))) [] rfl rfl (fun _ => rfl) rfl (en_of Tryd.func27 (by kernel_rfl) rfl) (fun ρ S w' hb _ => rNum_ok (l := numL n.toNat) (numL_lt _) (by show 8 ≤ 64; decide) w')
    simp only [nm, seval]
    apply VE.cons
    · first | exact Ev.skip (fun _ => rfl) | exact ev_callp (v := .bool true) [43, 46] rfl (fun _ => rfl) rfl (en_of Tryd.func15 (by kernel_rfl) rfl) (fun ρ S w' hb hR => by have := c_sameDD 43 46 hokN hokN hR (by simp) rfl (by simp) rfl; rw [sameT_refl] at this; exact this)
    simp only [nm, seval]
    apply VE.cons
    · first | exact Ev.skip (fun _ => rfl) | exact ev_not rfl (fun _ => rfl) rfl
    simp only [nm, seval]
    apply VE.cons
    · first | exact ev_pick_t rfl (gn rfl) rfl rfl | exact ev_pick_f rfl (gn rfl) rfl rfl
    simp only [nm, seval]
    apply VE.cons
    · exact ev_move rfl (gn rfl)
    simp only [nm, seval]
    apply VE.cons
    · first | exact Ev.skip (fun _ => rfl) | exact ev_loadr (vs := bs.map b8) rfl (fun _ => rfl) rfl rfl Tryd.underlying44 rfl Tryd.sizeOf44 (List.take_of_length_le (by simp [hb32])) (by simp [hb32])
    simp only [nm, seval]
    apply VE.cons
    · first | exact Ev.skip (fun _ => rfl) | exact ev_calld (D := datN (tN bs)) [] rfl rfl (fun _ => rfl) rfl (en_of Tryd.func25 (by kernel_rfl) rfl) (fun ρ S w' hb _ => Big_ok hb32 w')
    simp only [nm, seval]
    apply VE.cons
    · first | exact Ev.skip (fun _ => rfl) | exact ev_calld (D := datR (tN bs)) [52] rfl rfl (fun _ => rfl) rfl (en_of Tryd.func16 (by kernel_rfl) rfl) (fun ρ S w' hb hR => c_fromD 52 hokB hR (by simp) rfl)
    simp only [nm, seval]
    apply VE.cons
    · first | exact Ev.skip (fun _ => rfl) | exact ev_slicea rfl (fun _ => rfl) rfl Tryd.underlying44 Tryd.sizeOf5
    simp only [nm, seval]
    apply VE.cons
    · first | exact Ev.skip (fun _ => rfl) | exact ev_convb (bs := bs) rfl (fun _ => rfl) rfl Tryd.underlying26 Tryd.underlying5 Tryd.underlying9 (rdg_arr (len := 32) (cap := 32) rfl (List.take_of_length_le (by simp [hb32])) (by simp [hb32]) (Nat.le_refl _))
    simp only [nm, seval]
    apply VE.cons
    · first | exact Ev.skip (fun _ => rfl) | exact ev_calld (D := datR (tN (bs))) [] rfl rfl (fun _ => rfl) rfl (en_of Tryd.func27 (by kernel_rfl) rfl) (fun ρ S w' hb _ => rNum_ok (l := bs) hb8 (by omega) w')
    simp only [nm, seval]
    apply VE.cons
    · first | exact Ev.skip (fun _ => rfl) | exact ev_callp (v := .bool true) [53, 56] rfl (fun _ => rfl) rfl (en_of Tryd.func15 (by kernel_rfl) rfl) (fun ρ S w' hb hR => by have := c_sameDD 53 56 hokB hokB hR (by simp) rfl (by simp) rfl; rw [sameT_refl] at this; exact this)
    simp only [nm, seval]
    apply VE.cons
    · first | exact Ev.skip (fun _ => rfl) | exact ev_not rfl (fun _ => rfl) rfl
    simp only [nm, seval]
    apply VE.cons
    · first | exact ev_pick_t rfl (gn rfl) rfl rfl | exact ev_pick_f rfl (gn rfl) rfl rfl
    simp only [nm, seval]
    apply VE.cons
    · exact ev_move rfl (gn rfl)
    simp only [nm, seval]
    apply VE.cons
    · first | exact Ev.skip (fun _ => rfl) | exact ev_move rfl (fun _ => rfl)
    simp only [nm, seval]
    apply VE.cons
    · first | exact Ev.skip (fun _ => rfl) | exact ev_neq (p := false) rfl (fun _ => rfl) rfl rfl (by decide)
    simp only [nm, seval]
    apply VE.cons
    · first | exact ev_pick_t rfl (gn rfl) rfl rfl | exact ev_pick_f rfl (gn rfl) rfl rfl
    simp only [nm, seval]
    apply VE.cons
    · exact ev_move rfl (gn rfl)
    simp only [nm, seval]
    apply VE.cons
    · first | exact Ev.skip (fun _ => rfl) | exact ev_loadr (vs := bs.map b8) rfl (fun _ => rfl) rfl rfl Tryd.underlying44 rfl Tryd.sizeOf44 (List.take_of_length_le (by simp [hb32])) (by simp [hb32])
    simp only [nm, seval]
    apply VE.cons
    · first | exact Ev.skip (fun _ => rfl) | exact ev_loadr (vs := bs.map b8) rfl (fun _ => rfl) rfl rfl Tryd.underlying44 rfl Tryd.sizeOf44 (List.take_of_length_le (by simp [hb32])) (by simp [hb32])
    simp only [nm, seval]
    apply VE.cons
    · first | exact Ev.skip (fun _ => rfl) | exact ev_bin (c := .bool false) rfl (fun _ => rfl) rfl rfl (fun w => ne_self hb32 _ _ w)
    simp only [nm, seval]
    apply VE.cons
    · first | exact ev_pick_t rfl (gn rfl) rfl rfl | exact ev_pick_f rfl (gn rfl) rfl rfl
    simp only [nm, seval]
    exact VE.nil _
  · kernel_rfl
  change VOk _ _ _ _ _
  refine vcond_f rfl ?_
  refine vskip ?_
  change VOk _ _ _ _ _
  refine vseq ?_
  refine vseq ?_
  apply vrp
  · apply VE.cons
    · exact ev_move rfl (gn rfl)
    simp only [nm, seval]
    apply VE.cons
    · exact ev_lss (p := true) rfl (gn rfl) rfl rfl (decide_eq_true (by omega))
    simp only [nm, seval]
    apply VE.cons
    · exact ev_move rfl (gn rfl)
    simp only [nm, seval]
    apply VE.cons
    · first | exact Ev.skip (fun _ => rfl) | exact ev_move rfl (fun _ => rfl)
    simp only [nm, seval]
    apply VE.cons
    · first | exact Ev.skip (fun _ => rfl) | exact ev_neq (p := false) rfl (fun _ => rfl) rfl rfl (by decide)
    simp only [nm, seval]
    apply VE.cons
    · first | exact Ev.skip (fun _ => rfl) | exact ev_move rfl (fun _ => rfl)
    simp only [nm, seval]
    apply VE.cons
    · first | exact Ev.skip (fun _ => rfl) | exact ev_move rfl (fun _ => rfl)
    simp only [nm, seval]
    apply VE.cons
    · first | exact Ev.skip (fun _ => rfl) | exact ev_move rfl (fun _ => rfl)
    simp only [nm, seval]
    apply VE.cons
    · first | exact Ev.skip (fun _ => rfl) | exact ev_neq (p := false) rfl (fun _ => rfl) rfl rfl (decide_eq_false (fun h => h rfl))
    simp only [nm, seval]
    apply VE.cons
    · first | exact Ev.skip (fun _ => rfl) | exact ev_pick_t rfl (fun _ => rfl) rfl rfl | exact ev_pick_f rfl (fun _ => rfl) rfl rfl
    simp only [nm, seval]
    apply VE.cons
    · first | exact ev_pick_t rfl (gn rfl) rfl rfl | exact ev_pick_f rfl (gn rfl) rfl rfl
    simp only [nm, seval]
    apply VE.cons
    · exact ev_move rfl (gn rfl)
    simp only [nm, seval]
    apply VE.cons
    · first | exact Ev.skip (fun _ => rfl) | exact ev_move rfl (fun _ => rfl)
    simp only [nm, seval]
    apply VE.cons
    · first | exact Ev.skip (fun _ => rfl) | exact ev_geq (p := false) rfl (fun _ => rfl) rfl rfl (decide_eq_false (by omega))
    simp only [nm, seval]
    apply VE.cons
    · first | exact Ev.skip (fun _ => rfl) | exact ev_move rfl (fun _ => rfl)
    simp only [nm, seval]
    apply VE.cons
    · first | exact Ev.skip (fun _ => rfl) | exact ev_move rfl (fun _ => rfl)
    simp only [nm, seval]
    apply VE.cons
    · first | exact Ev.skip (fun _ => rfl) | exact ev_neq (p := false) rfl (fun _ => rfl) rfl rfl (by decide)
    simp only [nm, seval]
    apply VE.cons
    · first | exact Ev.skip (fun _ => rfl) | exact ev_pick_t rfl (fun _ => rfl) rfl rfl | exact ev_pick_f rfl (fun _ => rfl) rfl rfl
    simp only [nm, seval]
    apply VE.cons
    · first | exact ev_pick_t rfl (gn rfl) rfl rfl | exact ev_pick_f rfl (gn rfl) rfl rfl
    simp only [nm, seval]
    exact VE.nil _
  · kernel_rfl
  change VOk _ _ _ _ _
  refine vcond_f rfl ?_
  cases q2 <;> cases q3 <;> simp only [Bool.and_true, Bool.and_false, Bool.true_and, Bool.false_and, cond_true, cond_false] at hW2 <;> subst hW2 <;>
  (
    refine vskip ?_
    change VOk _ _ _ _ _
    refine vseq ?_
    refine vseq ?_
    apply vrp
    · apply VE.cons
      · exact ev_move rfl (gn rfl)
      simp only [nm, seval]
      apply VE.cons
      · exact ev_build (cells := #[.int .i64 12, .string (bstr b), .slice none 0 0]) rfl (gn rfl) rfl (built24 12 (bstr b))
      simp only [nm, seval]
      apply VE.cons
      · first | exact ev_callb (v := .bool true) rfl (gn rfl) rfl (en_of Tryd.func18 (by kernel_rfl) rfl) (fun w' hb => by have := rright_all _ hokW 1 _ w' _ (by decide) (word_node b); rw [h_q2] at this; exact this) | exact ev_callb (v := .bool false) rfl (gn rfl) rfl (en_of Tryd.func18 (by kernel_rfl) rfl) (fun w' hb => by have := rright_all _ hokW 1 _ w' _ (by decide) (word_node b); rw [h_q2] at this; exact this)
      simp only [nm, seval]
      apply VE.cons
      · exact ev_move rfl (gn rfl)
      simp only [nm, seval]
      apply VE.cons
      · first | exact Ev.skip (fun _ => rfl) | exact ev_move rfl (fun _ => rfl)
      simp only [nm, seval]
      apply VE.cons
      · first | exact Ev.skip (fun _ => rfl) | exact ev_lenb rfl (fun _ => rfl) rfl Tryd.underlying9
      simp only [nm, seval]
      apply VE.cons
      · first | exact Ev.skip (fun _ => rfl) | exact ev_leq rfl (fun _ => rfl) rfl rfl h_q3'
      simp only [nm, seval]
      apply VE.cons
      · first | exact ev_pick_t rfl (gn rfl) rfl rfl | exact ev_pick_f rfl (gn rfl) rfl rfl
      simp only [nm, seval]
      exact VE.nil _
    · kernel_rfl
    change VOk _ _ _ _ _
    first
    | (
        refine vcond_t rfl ?_
        refine vseq ?_
        apply vrp
        · apply VE.cons
          · exact ev_move rfl (gn rfl)
          simp only [nm, seval]
          apply VE.cons
          · exact ev_eql (p := true) rfl (gn rfl) rfl rfl (by decide)
          simp only [nm, seval]
          apply VE.cons
          · exact ev_move rfl (gn rfl)
          simp only [nm, seval]
          apply VE.cons
          · first | exact Ev.skip (fun _ => rfl) | exact ev_move rfl (fun _ => rfl)
          simp only [nm, seval]
          apply VE.cons
          · first | exact Ev.skip (fun _ => rfl) | exact ev_move rfl (fun _ => rfl)
          simp only [nm, seval]
          apply VE.cons
          · first | exact Ev.skip (fun _ => rfl) | exact ev_bin (c := .bool true) rfl (fun _ => rfl) rfl rfl (fun w => str_is (decide_eq_true rfl) h8 h8 _ _ w)
          simp only [nm, seval]
          apply VE.cons
          · first | exact ev_pick_t rfl (gn rfl) rfl rfl | exact ev_pick_f rfl (gn rfl) rfl rfl
          simp only [nm, seval]
          apply VE.cons
          · exact ev_assign rfl (gn rfl)
          simp only [nm, seval]
          exact VE.nil _
        · kernel_rfl
        change VOk _ _ _ _ _
        refine vret ?_
        refine post_ret (res1 Tryd.results6 (rv_tmp rfl)) ?_
        intro ρ w' hr
        exact ⟨rfl, hr.1⟩
      )
    | (
        refine vcond_f rfl ?_
        refine vskip ?_
        change VOk _ _ _ _ _
        refine vseq ?_
        apply vrp
        · apply VE.cons
          · exact ev_move rfl (gn rfl)
          simp only [nm, seval]
          apply VE.cons
          · exact ev_eql (p := true) rfl (gn rfl) rfl rfl (by decide)
          simp only [nm, seval]
          apply VE.cons
          · exact ev_move rfl (gn rfl)
          simp only [nm, seval]
          apply VE.cons
          · first | exact Ev.skip (fun _ => rfl) | exact ev_move rfl (fun _ => rfl)
          simp only [nm, seval]
          apply VE.cons
          · first | exact Ev.skip (fun _ => rfl) | exact ev_bin (c := .bool true) rfl (fun _ => rfl) rfl rfl (fun w => str_is (a := []) (b := []) (decide_eq_true rfl) (fun x hx => by cases hx) (fun x hx => by cases hx) _ _ w)
          simp only [nm, seval]
          apply VE.cons
          · first | exact ev_pick_t rfl (gn rfl) rfl rfl | exact ev_pick_f rfl (gn rfl) rfl rfl
          simp only [nm, seval]
          apply VE.cons
          · exact ev_assign rfl (gn rfl)
          simp only [nm, seval]
          exact VE.nil _
        · kernel_rfl
        change VOk _ _ _ _ _
        refine vret ?_
        refine post_ret (res1 Tryd.results6 (rv_tmp rfl)) ?_
        intro ρ w' hr
        exact ⟨rfl, hr.1⟩
      )
  )
theorem nums_b {n : Int} {bs b : List Nat} (hn : n ≤ 9223372036854775807) (hb32 : bs.length = 32) (hb8 : ∀ x ∈ bs, x < 256) (h8 : ∀ x ∈ b, x < 256) (hbl : b.length ≤ maxLen) (w : World) (hl : b.length ≤ 300) (hs : ¬ n.toNat < 4611686018427387904) : Calls Tryd.prog 6 #[.int .i64 n, .agg (bs.map b8).toArray, .string (bstr b)] w fun e w' => e = .returned (.bool true) ∧ Bw w w' := by
  have hokN : (tN (numL n.toNat)).ok := tN_ok (numL_lt _) (by show 8 ≤ 64; decide)
  have hokB : (tN bs).ok := tN_ok hb8 (by omega)
  have hokW : (Tr.mk 12 b []).ok := word_ok h8 (by omega)
  obtain ⟨q2, h_q2⟩ : ∃ p, rightT (.mk 12 b []) 1 = p := ⟨_, rfl⟩
  obtain ⟨q3, h_q3⟩ : ∃ p, decide (b.length ≤ 64) = p := ⟨_, rfl⟩
  have h_q3' : decide ((b.length : Int) ≤ ((64 : Nat) : Int)) = q3 := by rw [← h_q3]; exact decide_eq_decide.2 (by omega)
  obtain ⟨W, hW⟩ : ∃ W, twN (.mk 12 b []) = W := ⟨_, rfl⟩
  have hW2 : W = bif (q2 && q3) then (b, 0) else ([], 2) := by rw [← hW, ← h_q2, ← h_q3]; rfl
  have hX := tnN_num (m := n.toNat) (by omega)
  rw [if_neg hs] at hX
  go_enter Tryd.func6, Tryd.ntmps6
  refine ve_go ?_
  simp only [List.map_cons, List.map_nil]
  refine vseq ?_
  apply vrp
  · apply VE.cons
    · exact ev_boxr (l := bs.map b8) rfl rfl (gn rfl) rfl (by simp [Value.cells])
    simp only [nm, seval]
    apply VE.cons
    · exact ev_assign rfl (gn rfl)
    simp only [nm, seval]
    exact VE.nil _
  · kernel_rfl
  change VOk _ _ _ _ _
  refine vseq ?_
  refine vseq ?_
  apply vrp
  · apply VE.cons
    · exact ev_move rfl (gn rfl)
    simp only [nm, seval]
    apply VE.cons
    · exact ev_lenb rfl (gn rfl) rfl Tryd.underlying9
    simp only [nm, seval]
    apply VE.cons
    · exact ev_gtr (p := false) rfl (gn rfl) rfl rfl (decide_eq_false (by omega))
    simp only [nm, seval]
    exact VE.nil _
  · kernel_rfl
  change VOk _ _ _ _ _
  refine vcond_f rfl ?_
  refine vskip ?_
  change VOk _ _ _ _ _
  refine vseq ?_
  apply vrp
  · apply VE.cons
    · exact ev_move rfl (gn rfl)
    simp only [nm, seval]
    apply VE.cons
    · exact ev_calld (D := datN (tN (numL n.toNat))) [] rfl rfl (gn rfl) rfl (en_of Tryd.func24 (by kernel_rfl) rfl) (fun ρ S w' hb _ => Num_ok n hn w')
    simp only [nm, seval]
    apply VE.cons
    · exact ev_callp (v := .tuple #[.int .i64 0, .int .i64 2]) [20] rfl (gn rfl) rfl (en_of Tryd.func19 (by kernel_rfl) rfl) (fun ρ S w' hb hR => by have := c_toNum 20 hokN hR (by simp) rfl; rw [hX] at this; exact this)
    simp only [nm, seval]
    apply VE.cons
    · exact ev_move rfl (gn rfl)
    simp only [nm, seval]
    apply VE.cons
    · first | exact ev_extract rfl (gn rfl) rfl rfl | exact ev_extractt rfl (gn rfl) rfl rfl
    simp only [nm, seval]
    apply VE.cons
    · first | exact ev_extract rfl (gn rfl) rfl rfl | exact ev_extractt rfl (gn rfl) rfl rfl
    simp only [nm, seval]
    apply VE.cons
    · exact ev_assign rfl (gn rfl)
    simp only [nm, seval]
    apply VE.cons
    · exact ev_assign rfl (gn rfl)
    simp only [nm, seval]
    exact VE.nil _
  · kernel_rfl
  change VOk _ _ _ _ _
  refine vseq ?_
  apply vrp
  · apply VE.cons
    · exact ev_loadr (vs := bs.map b8) rfl (gn rfl) rfl rfl Tryd.underlying44 rfl Tryd.sizeOf44 (List.take_of_length_le (by simp [hb32])) (by simp [hb32])
    simp only [nm, seval]
    apply VE.cons
    · exact ev_calld (D := datN (tN bs)) [] rfl rfl (gn rfl) rfl (en_of Tryd.func25 (by kernel_rfl) rfl) (fun ρ S w' hb _ => Big_ok hb32 w')
    simp only [nm, seval]
    apply VE.cons
    · exact ev_callp (v := .tuple #[.agg (bs.map b8).toArray, .int .i64 0]) [26] rfl (gn rfl) rfl (en_of Tryd.func20 (by kernel_rfl) rfl) (fun ρ S w' hb hR => by have := c_toBig 26 hokB hR (by simp) rfl; rw [tbN_big hb32] at this; exact this)
    simp only [nm, seval]
    apply VE.cons
    · exact ev_move rfl (gn rfl)
    simp only [nm, seval]
    apply VE.cons
    · first | exact ev_extract rfl (gn rfl) rfl rfl | exact ev_extractt rfl (gn rfl) rfl rfl
    simp only [nm, seval]
    apply VE.cons
    · first | exact ev_extract rfl (gn rfl) rfl rfl | exact ev_extractt rfl (gn rfl) rfl rfl
    simp only [nm, seval]
    apply VE.cons
    · exact ev_allocr (l := z32.map b8) rfl rfl (gn rfl) Tryd.zeroValue44 rfl
    simp only [nm, seval]
    apply VE.cons
    · exact ev_storer (l' := bs.map b8) rfl (gn rfl) rfl rfl rfl Tryd.sizeOf44 (by simp [Value.cells, hb32]) (by simp [z32_len]) (by show (bs.map b8).toArray.toList.all _ = true; exact b8_all _) (by simp [Value.cells, hb32, z32_len])
    simp only [nm, seval]
    apply VE.cons
    · exact ev_assign rfl (gn rfl)
    simp only [nm, seval]
    exact VE.nil _
  · kernel_rfl
  change VOk _ _ _ _ _
  refine vseq ?_
  apply vrp
  · apply VE.cons
    · exact ev_move rfl (gn rfl)
    simp only [nm, seval]
    apply VE.cons
    · exact ev_calld (D := datN (.mk 12 b [])) [] rfl rfl (gn rfl) rfl (en_of Tryd.func26 (by kernel_rfl) rfl) (fun ρ S w' hb _ => Word_ok h8 hbl w')
    simp only [nm, seval]
    apply VE.cons
    · exact ev_callp (v := .tuple #[.string (bstr W.1), .int .i64 W.2]) [32] rfl (gn rfl) rfl (en_of Tryd.func21 (by kernel_rfl) rfl) (fun ρ S w' hb hR => by have := c_toWord 32 hokW hR (by simp) rfl; rw [hW] at this; exact this)
    simp only [nm, seval]
    apply VE.cons
    · exact ev_move rfl (gn rfl)
    simp only [nm, seval]
    apply VE.cons
    · first | exact ev_extract rfl (gn rfl) rfl rfl | exact ev_extractt rfl (gn rfl) rfl rfl
    simp only [nm, seval]
    apply VE.cons
    · first | exact ev_extract rfl (gn rfl) rfl rfl | exact ev_extractt rfl (gn rfl) rfl rfl
    simp only [nm, seval]
    apply VE.cons
    · exact ev_assign rfl (gn rfl)
    simp only [nm, seval]
    apply VE.cons
    · exact ev_assign rfl (gn rfl)
    simp only [nm, seval]
    exact VE.nil _
  · kernel_rfl
  change VOk _ _ _ _ _
  refine vseq ?_
  apply vrp
  · apply VE.cons
    · exact ev_move rfl (gn rfl)
    simp only [nm, seval]
    apply VE.cons
    · exact ev_max (c := ((n.toNat : Nat) : Int)) rfl (gn rfl) rfl rfl (by omega)
    simp only [nm, seval]
    apply VE.cons
    · exact ev_assign rfl (gn rfl)
    simp only [nm, seval]
    exact VE.nil _
  · kernel_rfl
  change VOk _ _ _ _ _
  refine vseq ?_
  refine vseq ?_
  apply vrd (by kernel_rfl)
  · apply VE.cons
    · exact ev_callb rfl (gn rfl) rfl (en_of Tryd.func14 (by kernel_rfl) rfl) (fun w' hb => ders_ok w')
    simp only [nm, seval]
    apply VE.cons
    · exact ev_not rfl (gn rfl) rfl
    simp only [nm, seval]
    apply VE.cons
    · exact ev_move rfl (gn rfl)
    simp only [nm, seval]
    apply VE.cons
    · first | exact Ev.skip (fun _ => rfl) | exact ev_move rfl (fun _ => rfl)
    simp only [nm, seval]
    apply VE.cons
    · first | exact Ev.skip (fun _ => rfl) | exact ev_calld (D := datN (tN (numL n.toNat))) [] rfl rfl (fun _ => rfl) rfl (en_of Tryd.func24 (by kernel_rfl) rfl) (fun ρ S w' hb _ => Num_ok n hn w')
    simp only [nm, seval]
    apply VE.cons
    · first | exact Ev.skip (fun _ => rfl) | exact ev_calld (D := datR (tN (numL n.toNat))) [42] rfl rfl (fun _ => rfl) rfl (en_of Tryd.func16 (by kernel_rfl) rfl) (fun ρ S w' hb hR => c_fromD 42 hokN hR (by simp) rfl)
    simp only [nm, seval]
    apply VE.cons
    · first | exact Ev.skip (fun _ => rfl) | exact ev_move rfl (fun _ => rfl)
    simp only [nm, seval]
    apply VE.cons
    · first | exact Ev.skip (fun _ => rfl) | exact ev_callb rfl (fun _ => rfl) rfl (en_of Tryd.func23 (by kernel_rfl) rfl) (fun w' hb => Eight_ok n.toNat (by omega) w')
    simp only [nm, seval]
    apply VE.cons
    · first | exact Ev.skip (fun _ => rfl) | exact ev_calld (D := datR (tN (numL n.toNat))) [] rfl rfl (fun _ => rfl) rfl (en_of Tryd.func27 (by kernel_rfl) rfl) (fun ρ S w' hb _ => rNum_ok (l := numL n.toNat) (numL_lt _) (by show 8 ≤ 64; decide) w')
    simp only [nm, seval]
    apply VE.cons
    · first | exact Ev.skip (fun _ => rfl) | exact ev_callp (v := .bool true) [43, 46] rfl (fun _ => rfl) rfl (en_of Tryd.func15 (by kernel_rfl) rfl) (fun ρ S w' hb hR => by have := c_sameDD 43 46 hokN hokN hR (by simp) rfl (by simp) rfl; rw [sameT_refl] at this; exact this)
    simp only [nm, seval]
    apply VE.cons
    · first | exact Ev.skip (fun _ => rfl) | exact ev_not rfl (fun _ => rfl) rfl
    simp only [nm, seval]
    apply VE.cons
    · first | exact ev_pick_t rfl (gn rfl) rfl rfl | exact ev_pick_f rfl (gn rfl) rfl rfl
    simp only [nm, seval]
    apply VE.cons
    · exact ev_move rfl (gn rfl)
    simp only [nm, seval]
    apply VE.cons
    · first | exact Ev.skip (fun _ => rfl) | exact ev_loadr (vs := bs.map b8) rfl (fun _ => rfl) rfl rfl Tryd.underlying44 rfl Tryd.sizeOf44 (List.take_of_length_le (by simp [hb32])) (by simp [hb32])
    simp only [nm, seval]
    apply VE.cons
    · first | exact Ev.skip (fun _ => rfl) | exact ev_calld (D := datN (tN bs)) [] rfl rfl (fun _ => rfl) rfl (en_of Tryd.func25 (by kernel_rfl) rfl) (fun ρ S w' hb _ => Big_ok hb32 w')
    simp only [nm, seval]
    apply VE.cons
    · first | exact Ev.skip (fun _ => rfl) | exact ev_calld (D := datR (tN bs)) [52] rfl rfl (fun _ => rfl) rfl (en_of Tryd.func16 (by kernel_rfl) rfl) (fun ρ S w' hb hR => c_fromD 52 hokB hR (by simp) rfl)
    simp only [nm, seval]
    apply VE.cons
    · first | exact Ev.skip (fun _ => rfl) | exact ev_slicea rfl (fun _ => rfl) rfl Tryd.underlying44 Tryd.sizeOf5
    simp only [nm, seval]
    apply VE.cons
    · first | exact Ev.skip (fun _ => rfl) | exact ev_convb (bs := bs) rfl (fun _ => rfl) rfl Tryd.underlying26 Tryd.underlying5 Tryd.underlying9 (rdg_arr (len := 32) (cap := 32) rfl (List.take_of_length_le (by simp [hb32])) (by simp [hb32]) (Nat.le_refl _))
    simp only [nm, seval]
    apply VE.cons
    · first | exact Ev.skip (fun _ => rfl) | exact ev_calld (D := datR (tN (bs))) [] rfl rfl (fun _ => rfl) rfl (en_of Tryd.func27 (by kernel_rfl) rfl) (fun ρ S w' hb _ => rNum_ok (l := bs) hb8 (by omega) w')
    simp only [nm, seval]
    apply VE.cons
    · first | exact Ev.skip (fun _ => rfl) | exact ev_callp (v := .bool true) [53, 56] rfl (fun _ => rfl) rfl (en_of Tryd.func15 (by kernel_rfl) rfl) (fun ρ S w' hb hR => by have := c_sameDD 53 56 hokB hokB hR (by simp) rfl (by simp) rfl; rw [sameT_refl] at this; exact this)
    simp only [nm, seval]
    apply VE.cons
    · first | exact Ev.skip (fun _ => rfl) | exact ev_not rfl (fun _ => rfl) rfl
    simp only [nm, seval]
    apply VE.cons
    · first | exact ev_pick_t rfl (gn rfl) rfl rfl | exact ev_pick_f rfl (gn rfl) rfl rfl
    simp only [nm, seval]
    apply VE.cons
    · exact ev_move rfl (gn rfl)
    simp only [nm, seval]
    apply VE.cons
    · first | exact Ev.skip (fun _ => rfl) | exact ev_move rfl (fun _ => rfl)
    simp only [nm, seval]
    apply VE.cons
    · first | exact Ev.skip (fun _ => rfl) | exact ev_neq (p := false) rfl (fun _ => rfl) rfl rfl (by decide)
    simp only [nm, seval]
    apply VE.cons
    · first | exact ev_pick_t rfl (gn rfl) rfl rfl | exact ev_pick_f rfl (gn rfl) rfl rfl
    simp only [nm, seval]
    apply VE.cons
    · exact ev_move rfl (gn rfl)
    simp only [nm, seval]
    apply VE.cons
    · first | exact Ev.skip (fun _ => rfl) | exact ev_loadr (vs := bs.map b8) rfl (fun _ => rfl) rfl rfl Tryd.underlying44 rfl Tryd.sizeOf44 (List.take_of_length_le (by simp [hb32])) (by simp [hb32])
    simp only [nm, seval]
    apply VE.cons
    · first | exact Ev.skip (fun _ => rfl) | exact ev_loadr (vs := bs.map b8) rfl (fun _ => rfl) rfl rfl Tryd.underlying44 rfl Tryd.sizeOf44 (List.take_of_length_le (by simp [hb32])) (by simp [hb32])
    simp only [nm, seval]
    apply VE.cons
    · first | exact Ev.skip (fun _ => rfl) | exact ev_bin (c := .bool false) rfl (fun _ => rfl) rfl rfl (fun w => ne_self hb32 _ _ w)
    simp only [nm, seval]
    apply VE.cons
    · first | exact ev_pick_t rfl (gn rfl) rfl rfl | exact ev_pick_f rfl (gn rfl) rfl rfl
    simp only [nm, seval]
    exact VE.nil _
  · kernel_rfl
  change VOk _ _ _ _ _
  refine vcond_f rfl ?_
  refine vskip ?_
  change VOk _ _ _ _ _
  refine vseq ?_
  refine vseq ?_
  apply vrp
  · apply VE.cons
    · exact ev_move rfl (gn rfl)
    simp only [nm, seval]
    apply VE.cons
    · exact ev_lss (p := false) rfl (gn rfl) rfl rfl (decide_eq_false (by omega))
    simp only [nm, seval]
    apply VE.cons
    · exact ev_move rfl (gn rfl)
    simp only [nm, seval]
    apply VE.cons
    · first | exact Ev.skip (fun _ => rfl) | exact ev_move rfl (fun _ => rfl)
    simp only [nm, seval]
    apply VE.cons
    · first | exact Ev.skip (fun _ => rfl) | exact ev_neq (p := true) rfl (fun _ => rfl) rfl rfl (by decide)
    simp only [nm, seval]
    apply VE.cons
    · first | exact Ev.skip (fun _ => rfl) | exact ev_move rfl (fun _ => rfl)
    simp only [nm, seval]
    apply VE.cons
    · first | exact Ev.skip (fun _ => rfl) | exact ev_move rfl (fun _ => rfl)
    simp only [nm, seval]
    apply VE.cons
    · first | exact Ev.skip (fun _ => rfl) | exact ev_move rfl (fun _ => rfl)
    simp only [nm, seval]
    apply VE.cons
    · first | exact Ev.skip (fun _ => rfl) | exact ev_neq (p := false) rfl (fun _ => rfl) rfl rfl (decide_eq_false (fun h => h rfl))
    simp only [nm, seval]
    apply VE.cons
    · first | exact Ev.skip (fun _ => rfl) | exact ev_pick_t rfl (fun _ => rfl) rfl rfl | exact ev_pick_f rfl (fun _ => rfl) rfl rfl
    simp only [nm, seval]
    apply VE.cons
    · first | exact ev_pick_t rfl (gn rfl) rfl rfl | exact ev_pick_f rfl (gn rfl) rfl rfl
    simp only [nm, seval]
    apply VE.cons
    · exact ev_move rfl (gn rfl)
    simp only [nm, seval]
    apply VE.cons
    · first | exact Ev.skip (fun _ => rfl) | exact ev_move rfl (fun _ => rfl)
    simp only [nm, seval]
    apply VE.cons
    · first | exact Ev.skip (fun _ => rfl) | exact ev_geq (p := true) rfl (fun _ => rfl) rfl rfl (decide_eq_true (by omega))
    simp only [nm, seval]
    apply VE.cons
    · first | exact Ev.skip (fun _ => rfl) | exact ev_move rfl (fun _ => rfl)
    simp only [nm, seval]
    apply VE.cons
    · first | exact Ev.skip (fun _ => rfl) | exact ev_move rfl (fun _ => rfl)
    simp only [nm, seval]
    apply VE.cons
    · first | exact Ev.skip (fun _ => rfl) | exact ev_neq (p := false) rfl (fun _ => rfl) rfl rfl (by decide)
    simp only [nm, seval]
    apply VE.cons
    · first | exact Ev.skip (fun _ => rfl) | exact ev_pick_t rfl (fun _ => rfl) rfl rfl | exact ev_pick_f rfl (fun _ => rfl) rfl rfl
    simp only [nm, seval]
    apply VE.cons
    · first | exact ev_pick_t rfl (gn rfl) rfl rfl | exact ev_pick_f rfl (gn rfl) rfl rfl
    simp only [nm, seval]
    exact VE.nil _
  · kernel_rfl
  change VOk _ _ _ _ _
  refine vcond_f rfl ?_
  cases q2 <;> cases q3 <;> simp only [Bool.and_true, Bool.and_false, Bool.true_and, Bool.false_and, cond_true, cond_false] at hW2 <;> subst hW2 <;>
  (
    refine vskip ?_
    change VOk _ _ _ _ _
    refine vseq ?_
    refine vseq ?_
    apply vrp
    · apply VE.cons
      · exact ev_move rfl (gn rfl)
      simp only [nm, seval]
      apply VE.cons
      · exact ev_build (cells := #[.int .i64 12, .string (bstr b), .slice none 0 0]) rfl (gn rfl) rfl (built24 12 (bstr b))
      simp only [nm, seval]
      apply VE.cons
      · first | exact ev_callb (v := .bool true) rfl (gn rfl) rfl (en_of Tryd.func18 (by kernel_rfl) rfl) (fun w' hb => by have := rright_all _ hokW 1 _ w' _ (by decide) (word_node b); rw [h_q2] at this; exact this) | exact ev_callb (v := .bool false) rfl (gn rfl) rfl (en_of Tryd.func18 (by kernel_rfl) rfl) (fun w' hb => by have := rright_all _ hokW 1 _ w' _ (by decide) (word_node b); rw [h_q2] at this; exact this)
      simp only [nm, seval]
      apply VE.cons
      · exact ev_move rfl (gn rfl)
      simp only [nm, seval]
      apply VE.cons
      · first | exact Ev.skip (fun _ => rfl) | exact ev_move rfl (fun _ => rfl)
      simp only [nm, seval]
      apply VE.cons
      · first | exact Ev.skip (fun _ => rfl) | exact ev_lenb rfl (fun _ => rfl) rfl Tryd.underlying9
      simp only [nm, seval]
      apply VE.cons
      · first | exact Ev.skip (fun _ => rfl) | exact ev_leq rfl (fun _ => rfl) rfl rfl h_q3'
      simp only [nm, seval]
      apply VE.cons
      · first | exact ev_pick_t rfl (gn rfl) rfl rfl | exact ev_pick_f rfl (gn rfl) rfl rfl
      simp only [nm, seval]
      exact VE.nil _
    · kernel_rfl
    change VOk _ _ _ _ _
    first
    | (
        refine vcond_t rfl ?_
        refine vseq ?_
        apply vrp
        · apply VE.cons
          · exact ev_move rfl (gn rfl)
          simp only [nm, seval]
          apply VE.cons
          · exact ev_eql (p := true) rfl (gn rfl) rfl rfl (by decide)
          simp only [nm, seval]
          apply VE.cons
          · exact ev_move rfl (gn rfl)
          simp only [nm, seval]
          apply VE.cons
          · first | exact Ev.skip (fun _ => rfl) | exact ev_move rfl (fun _ => rfl)
          simp only [nm, seval]
          apply VE.cons
          · first | exact Ev.skip (fun _ => rfl) | exact ev_move rfl (fun _ => rfl)
          simp only [nm, seval]
          apply VE.cons
          · first | exact Ev.skip (fun _ => rfl) | exact ev_bin (c := .bool true) rfl (fun _ => rfl) rfl rfl (fun w => str_is (decide_eq_true rfl) h8 h8 _ _ w)
          simp only [nm, seval]
          apply VE.cons
          · first | exact ev_pick_t rfl (gn rfl) rfl rfl | exact ev_pick_f rfl (gn rfl) rfl rfl
          simp only [nm, seval]
          apply VE.cons
          · exact ev_assign rfl (gn rfl)
          simp only [nm, seval]
          exact VE.nil _
        · kernel_rfl
        change VOk _ _ _ _ _
        refine vret ?_
        refine post_ret (res1 Tryd.results6 (rv_tmp rfl)) ?_
        intro ρ w' hr
        exact ⟨rfl, hr.1⟩
      )
    | (
        refine vcond_f rfl ?_
        refine vskip ?_
        change VOk _ _ _ _ _
        refine vseq ?_
        apply vrp
        · apply VE.cons
          · exact ev_move rfl (gn rfl)
          simp only [nm, seval]
          apply VE.cons
          · exact ev_eql (p := true) rfl (gn rfl) rfl rfl (by decide)
          simp only [nm, seval]
          apply VE.cons
          · exact ev_move rfl (gn rfl)
          simp only [nm, seval]
          apply VE.cons
          · first | exact Ev.skip (fun _ => rfl) | exact ev_move rfl (fun _ => rfl)
          simp only [nm, seval]
          apply VE.cons
          · first | exact Ev.skip (fun _ => rfl) | exact ev_bin (c := .bool true) rfl (fun _ => rfl) rfl rfl (fun w => str_is (a := []) (b := []) (decide_eq_true rfl) (fun x hx => by cases hx) (fun x hx => by cases hx) _ _ w)
          simp only [nm, seval]
          apply VE.cons
          · first | exact ev_pick_t rfl (gn rfl) rfl rfl | exact ev_pick_f rfl (gn rfl) rfl rfl
          simp only [nm, seval]
          apply VE.cons
          · exact ev_assign rfl (gn rfl)
          simp only [nm, seval]
          exact VE.nil _
        · kernel_rfl
        change VOk _ _ _ _ _
        refine vret ?_
        refine post_ret (res1 Tryd.results6 (rv_tmp rfl)) ?_
        intro ρ w' hr
        exact ⟨rfl, hr.1⟩
      )
  )
theorem nums_law {n : Int} {bs b : List Nat} (hn : n ≤ 9223372036854775807) (hb32 : bs.length = 32) (hb8 : ∀ x ∈ bs, x < 256) (h8 : ∀ x ∈ b, x < 256) (hbl : b.length ≤ maxLen) (w : World) : Calls Tryd.prog 6 #[.int .i64 n, .agg (bs.map b8).toArray, .string (bstr b)] w fun e w' => e = .returned (.bool true) ∧ Bw w w' := by
  by_cases hl : b.length ≤ 300
  · by_cases hs : n.toNat < 4611686018427387904
    · exact nums_s hn hb32 hb8 h8 hbl w hl hs
    · exact nums_b hn hb32 hb8 h8 hbl w hl hs
  · exact nums_l hn hb32 hb8 h8 hbl w hl
end Go.Proofs.YtmgmiiongleaeaaDoor
