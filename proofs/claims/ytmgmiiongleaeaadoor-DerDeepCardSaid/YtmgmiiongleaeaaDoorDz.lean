import Derived.Test.YtmgmiiongleaeaaDoorDy
namespace Go.Proofs.YtmgmiiongleaeaaDoor
open Go.RowKit Go.Vx
open Go.Toll (Gw)
set_option maxHeartbeats 4000000
set_option maxRecDepth 100000
theorem ev_lenrow {P : Program} {w0 : World} {ops : Array Oper} {o : Oper} {s : VS} {t : TypeId} {x : Operand} {e e' : TypeId} {id n size : Nat} {D : Dat} (ho : o.op = .call { callee := .builtin .len, args := #[x], argTypes := #[t] }) (hgd : Want ops o s) (hx : svEval s x = .d id) (hm : s.mem id = some (.row n size e' D))
    (hu : P.underlying t = some (.slice e)) : Ev P ops w0 o s ⟨.v (.int .i64 (n : Nat)), [], [], [], [id]⟩ := by
  refine Ev.run _ _ hgd fun ρ S w hb hR => ?_
  have e1 := svEval_c s ρ x
  rw [hx] at e1
  obtain ⟨xs, h1, h2, h3⟩ := relon_get hR hm (List.mem_singleton.2 rfl)
  obtain ⟨ao, cap, h4, _⟩ := row_sl h3 h1
  simp only [SV.c] at e1
  rw [h4] at e1
  simp [execOp, ho, resolve, invoke, builtin, e1, Builtin.len_, run_underlying hu, SV.c, goInt]
theorem built29_0 : Tryd.prog.built 29 [] = some #[.int .i64 0, .slice none 0 0, .slice none 0 0] := by kernel_rfl
theorem built29_t (t : Int) : Tryd.prog.built 29 [(0, .int .i64 t)] = some #[.int .i64 t, .slice none 0 0, .slice none 0 0] := by kernel_rfl
theorem node_none {w0 w : World} : RetD w0 w (.agg #[.int .i64 0, .slice none 0 0, .slice none 0 0]) (datN noT) := by
  refine ⟨fun _ => False, ⟨[.int .i64 0, .slice none 0 0, .slice none 0 0], rfl, ?_⟩, fun k hk => hk.elim⟩
  simp only [noT, DN, DNs]
  exact ⟨_, _, [], rfl, ⟨none, 0, rfl, Nat.le_refl _, rfl, .inl rfl⟩, ⟨none, 0, rfl, Nat.le_refl _, rfl, .inl rfl⟩, rfl⟩
theorem node_kids {w0 w : World} {s : VS} {ρ : Nat → Nm} (j : Nat) {t : Int} {ks : List Tr} {n : Nat} (hr : Rel w0 ρ s w) (hn : ks.length = n) (h2 : s.mem j = some (.row n 3 29 (datNs ks))) :
    RetD w0 w (.agg #[.int .i64 t, .slice none 0 0, (ρ j).val]) (datN (.mk t [] ks)) := by
  subst hn
  obtain ⟨hb, S, hR⟩ := hr
  obtain ⟨ys, f1, f2, f3⟩ := hR.good j _ h2
  refine ⟨fun k => w0.heap.size ≤ k ∧ k < w.heap.size, ⟨[.int .i64 t, .slice none 0 0, (ρ j).val], rfl, ?_⟩, fun k hk => hk⟩
  simp only [DN]
  have key : ∀ {m : Nm} {n size : Nat} {ty : TypeId} {l : List Value}, RowAt w w0.heap.size m n size ty l → l.length = n * size → SlAt w m.val n size l (fun k => w0.heap.size ≤ k ∧ k < w.heap.size) := by
    intro m n size ty l h hl
    have hs := row_sl h hl
    rcases h with ⟨g1, g2⟩ | ⟨off, cap, cur, fz, g1, g2, g3, _⟩
    · obtain ⟨ao, cap, a1, a2, a3, a4⟩ := hs
      refine ⟨ao, cap, a1, a2, a3, .inl ?_⟩
      subst g2
      exact List.eq_nil_of_length_eq_zero (by simpa using hl)
    · exact sl_sub hs fun k hk => by subst hk; exact ⟨g2, (Array.getElem?_eq_some_iff.1 g3).1⟩
  exact ⟨_, _, ys, rfl, ⟨none, 0, rfl, Nat.le_refl _, rfl, .inl rfl⟩, key f3 f1, DNs_sub (fun k hk => ⟨hR.fr j k (by rw [h2]; rfl) hk, hR.lt j k (by rw [h2]; rfl) hk⟩) f2⟩
/-- the bytes behind the first node, as a slice. -/
def rdV : Nat → Value → List Nat → Value
  | 0, _, _ => .slice none 0 0
  | f + 1, v, b => bif decide ((headN b).2.2 = 0) || decide ((headN b).2.1 + (headN b).2.2 > b.length) then .slice none 0 0 else
    bif !(madeT (headN b).1) then cutV ((headN b).2.2 + (headN b).2.1) b.length 1 v else
    match kidsF (readF f) (headN b).2.1 ((b.drop (headN b).2.2).take (headN b).2.1) [] with
    | none => .slice none 0 0
    | some _ => cutV ((headN b).2.2 + (headN b).2.1) b.length 1 v
theorem nil_sl {w : World} {S : Nat → Prop} : SlAt w (.slice none 0 0) 0 1 [] S := ⟨none, 0, rfl, Nat.le_refl _, rfl, .inl rfl⟩
theorem tail_sl {w : World} {v : Value} {b : List Nat} {S : Nat → Prop} {j : Nat} (hv : SlAt w v b.length 1 (b.map b8) S) (hj : j ≤ b.length) : SlAt w (cutV j b.length 1 v) (b.drop j).length 1 ((b.drop j).map b8) S := by
  have := sl_cut (lo := j) (hi := b.length) hv hj (Nat.le_refl _)
  rw [Nat.mul_one, Nat.mul_one, List.take_of_length_le (by simp), ← List.map_drop] at this
  rw [List.length_drop]; exact this
theorem part_sl {w : World} {v : Value} {b : List Nat} {S : Nat → Prop} {k n : Nat} (hv : SlAt w v b.length 1 (b.map b8) S) (h : n + k ≤ b.length) : SlAt w (cutV k (k + n) 1 v) ((b.drop k).take n).length 1 (((b.drop k).take n).map b8) S := by
  have := sl_cut (lo := k) (hi := k + n) hv (by omega) (by omega)
  rw [Nat.mul_one, Nat.mul_one, Nat.add_sub_cancel_left, ← List.map_drop, ← List.map_take] at this
  rw [(part_len h).1]; exact this
theorem rdV_sl {w : World} {S : Nat → Prop} : ∀ (f : Nat) {v : Value} {b : List Nat}, SlAt w v b.length 1 (b.map b8) S → SlAt w (rdV f v b) (readF f b).2.1.length 1 ((readF f b).2.1.map b8) S
  | 0, v, b, _ => nil_sl
  | f + 1, v, b, hv => by
    simp only [rdV, readF]
    obtain ⟨⟨tg, n, k⟩, hh⟩ : ∃ z, headN b = z := ⟨_, rfl⟩
    rw [hh]
    simp only
    cases hc : (decide (k = 0) || decide (n + k > b.length)) with
    | true => exact nil_sl
    | false =>
      simp only [Bool.or_eq_false_iff, decide_eq_false_iff_not] at hc
      simp only [cond_false]
      cases madeT tg with
      | false => simp only [Bool.not_false, cond_true]; exact tail_sl hv (by omega)
      | true =>
        simp only [Bool.not_true, cond_false]
        cases kidsF (readF f) n ((b.drop k).take n) [] with
        | none => exact nil_sl
        | some ks => exact tail_sl hv (by omega)
theorem kidsF_nil (rd : List Nat → Tr × List Nat × Bool) (n : Nat) (acc : List Tr) : kidsF rd n [] acc = some acc := by cases n <;> simp [kidsF]
theorem kidsF_step {rd : List Nat → Tr × List Nat × Bool} {l : List Nat} (hl : 0 < l.length) (n : Nat) (acc : List Tr) : kidsF rd (n + 1) l acc = bif !(rd l).2.2 || decide (acc.length = 20) then none else kidsF rd n (rd l).2.1 (acc ++ [(rd l).1]) := by
  cases l with
  | nil => simp at hl
  | cons x r => simp only [kidsF]
def ReadOK (f : Nat) : Prop := ∀ (v : Value) (b : List Nat) (S : Nat → Prop) (d : Nat) (w : World), d + f = 9 → SlAt w v b.length 1 (b.map b8) S → (∀ x ∈ b, x < 256) → b.length ≤ 1048576 →
    Calls Tryd.prog 39 #[v, .int .i64 (d : Nat)] w fun e w' => ∃ v', e = .returned (.tuple #[v', rdV f v b, .bool (readF f b).2.2]) ∧ RetD w w' v' (datN (readF f b).1) ∧ Bw w w'
theorem read_fa {v : Value} {b : List Nat} {S : Nat → Prop} {d tg n k : Nat} (w : World) (hv : SlAt w v b.length 1 (b.map b8) S) (h8 : ∀ x ∈ b, x < 256) (hbl : b.length ≤ 1048576) (hh : headN b = (tg, n, k)) (hb6 : n < 65536 ∧ k ≤ 4 ∧ tg < 256 ∧ d ≤ 9) (hk : k = 0) : Calls Tryd.prog 39 #[v, .int .i64 (d : Nat)] w fun e w' => ∃ v', e = .returned (.tuple #[v', .slice none 0 0, .bool false]) ∧ RetD w w' v' (datN (noT)) ∧ Bw w w' := by
  go_enter Tryd.func39, Tryd.ntmps39
  refine ve_go ?_
  simp only [List.map_cons, List.map_nil]
  refine vseq ?_
  apply vrp
  · apply VE.cons
    · exact ev_alloc rfl rfl (gn rfl) Tryd.zeroValue29
    simp only [nm, seval]
    apply VE.cons
    · exact ev_assign rfl (gn rfl)
    simp only [nm, seval]
    apply VE.cons
    · exact ev_assign rfl (gn rfl)
    simp only [nm, seval]
    exact VE.nil _
  · kernel_rfl
  change VOk _ _ _ _ _
  refine vseq ?_
  apply vrp
  · apply VE.cons
    · exact ev_move rfl (gn rfl)
    simp only [nm, seval]
    apply VE.cons
    · exact ev_callb (v := .tuple #[.int .i64 (tg : Nat), .int .i64 (n : Nat), .int .i64 (k : Nat)]) rfl (gn rfl) rfl (en_of Tryd.func50 (by kernel_rfl) rfl) (fun w' hb => by have := head_ok w' (sl_bw hv hb) h8 hbl; rw [hh] at this; exact this)
    simp only [nm, seval]
    apply VE.cons
    · exact ev_move rfl (gn rfl)
    simp only [nm, seval]
    apply VE.cons
    · first | exact ev_extract rfl (gn rfl) rfl rfl | exact ev_extractt rfl (gn rfl) rfl rfl
    simp only [nm, seval]
    apply VE.cons
    · first | exact ev_extract rfl (gn rfl) rfl rfl | exact ev_extractt rfl (gn rfl) rfl rfl
    simp only [nm, seval]
    apply VE.cons
    · first | exact ev_extract rfl (gn rfl) rfl rfl | exact ev_extractt rfl (gn rfl) rfl rfl
    simp only [nm, seval]
    apply VE.cons
    · exact ev_assign rfl (gn rfl)
    simp only [nm, seval]
    apply VE.cons
    · exact ev_assign rfl (gn rfl)
    simp only [nm, seval]
    apply VE.cons
    · exact ev_assign rfl (gn rfl)
    simp only [nm, seval]
    exact VE.nil _
  · kernel_rfl
  change VOk _ _ _ _ _
  refine vseq ?_
  refine vseq ?_
  apply vrp
  · apply VE.cons
    · exact ev_move rfl (gn rfl)
    simp only [nm, seval]
    apply VE.cons
    · exact ev_eql (p := true) rfl (gn rfl) rfl rfl (decide_eq_true (by omega))
    simp only [nm, seval]
    apply VE.cons
    · exact ev_move rfl (gn rfl)
    simp only [nm, seval]
    apply VE.cons
    · first | exact Ev.skip (fun _ => rfl) | exact ev_move rfl (fun _ => rfl)
    simp only [nm, seval]
    apply VE.cons
    · first | exact Ev.skip (fun _ => rfl) | exact ev_move rfl (fun _ => rfl)
    simp only [nm, seval]
    apply VE.cons
    · first | exact Ev.skip (fun _ => rfl) | exact ev_len rfl (fun _ => rfl) rfl Tryd.underlying26 (rdg_arg hv)
    simp only [nm, seval]
    apply VE.cons
    · first | exact Ev.skip (fun _ => rfl) | exact ev_move rfl (fun _ => rfl)
    simp only [nm, seval]
    apply VE.cons
    · first | exact Ev.skip (fun _ => rfl) | exact ev_sub (c := ((b.length : Int) - (k : Int))) rfl (fun _ => rfl) rfl rfl (by rw [i64w (by omega) (by omega)])
    simp only [nm, seval]
    apply VE.cons
    · first | exact Ev.skip (fun _ => rfl) | refine ev_pure' (fun _ => rfl) (fun ρ w => by simp only [VS.act, SV.c, List.map_cons, List.map_nil]; go_simp; exact rfl) (fun _ _ => rfl)
    simp only [nm, seval]
    apply VE.cons
    · first | exact ev_pick_t rfl (gn rfl) rfl rfl | exact ev_pick_f rfl (gn rfl) rfl rfl
    simp only [nm, seval]
    apply VE.cons
    · exact ev_move rfl (gn rfl)
    simp only [nm, seval]
    apply VE.cons
    · first | exact Ev.skip (fun _ => rfl) | exact ev_move rfl (fun _ => rfl)
    simp only [nm, seval]
    apply VE.cons
    · first | exact Ev.skip (fun _ => rfl) | refine ev_pure' (fun _ => rfl) (fun ρ w => by simp only [VS.act, SV.c, List.map_cons, List.map_nil]; go_simp; exact rfl) (fun _ _ => rfl)
    simp only [nm, seval]
    apply VE.cons
    · first | exact ev_pick_t rfl (gn rfl) rfl rfl | exact ev_pick_f rfl (gn rfl) rfl rfl
    simp only [nm, seval]
    exact VE.nil _
  · kernel_rfl
  change VOk _ _ _ _ _
  refine vcond_t rfl ?_
  refine vseq ?_
  apply vrp
  · apply VE.cons
    · exact ev_build (cells := #[.int .i64 0, .slice none 0 0, .slice none 0 0]) rfl (gn rfl) rfl built29_0
    simp only [nm, seval]
    apply VE.cons
    · exact ev_store rfl (gn rfl) rfl rfl rfl Tryd.sizeOf29 rfl (by simp) rfl
    simp only [nm, seval]
    apply VE.cons
    · exact ev_assign rfl (gn rfl)
    simp only [nm, seval]
    apply VE.cons
    · exact ev_assign rfl (gn rfl)
    simp only [nm, seval]
    exact VE.nil _
  · kernel_rfl
  change VOk _ _ _ _ _
  refine vret ?_
  refine post_ret (res3 Tryd.results39 (rv_cella rfl rfl Tryd.underlying29 rfl Tryd.sizeOf29 rfl) (rv_tmp rfl) (rv_tmp rfl)) ?_
  intro ρ w' hr
  refine ⟨_, rfl, ?_, hr.1⟩
  exact node_none
theorem read_fb {v : Value} {b : List Nat} {S : Nat → Prop} {d tg n k : Nat} (w : World) (hv : SlAt w v b.length 1 (b.map b8) S) (h8 : ∀ x ∈ b, x < 256) (hbl : b.length ≤ 1048576) (hh : headN b = (tg, n, k)) (hb6 : n < 65536 ∧ k ≤ 4 ∧ tg < 256 ∧ d ≤ 9) (hk : k ≠ 0) (hn : n + k > b.length) : Calls Tryd.prog 39 #[v, .int .i64 (d : Nat)] w fun e w' => ∃ v', e = .returned (.tuple #[v', .slice none 0 0, .bool false]) ∧ RetD w w' v' (datN (noT)) ∧ Bw w w' := by
  go_enter Tryd.func39, Tryd.ntmps39
  refine ve_go ?_
  simp only [List.map_cons, List.map_nil]
  refine vseq ?_
  apply vrp
  · apply VE.cons
    · exact ev_alloc rfl rfl (gn rfl) Tryd.zeroValue29
    simp only [nm, seval]
    apply VE.cons
    · exact ev_assign rfl (gn rfl)
    simp only [nm, seval]
    apply VE.cons
    · exact ev_assign rfl (gn rfl)
    simp only [nm, seval]
    exact VE.nil _
  · kernel_rfl
  change VOk _ _ _ _ _
  refine vseq ?_
  apply vrp
  · apply VE.cons
    · exact ev_move rfl (gn rfl)
    simp only [nm, seval]
    apply VE.cons
    · exact ev_callb (v := .tuple #[.int .i64 (tg : Nat), .int .i64 (n : Nat), .int .i64 (k : Nat)]) rfl (gn rfl) rfl (en_of Tryd.func50 (by kernel_rfl) rfl) (fun w' hb => by have := head_ok w' (sl_bw hv hb) h8 hbl; rw [hh] at this; exact this)
    simp only [nm, seval]
    apply VE.cons
    · exact ev_move rfl (gn rfl)
    simp only [nm, seval]
    apply VE.cons
    · first | exact ev_extract rfl (gn rfl) rfl rfl | exact ev_extractt rfl (gn rfl) rfl rfl
    simp only [nm, seval]
    apply VE.cons
    · first | exact ev_extract rfl (gn rfl) rfl rfl | exact ev_extractt rfl (gn rfl) rfl rfl
    simp only [nm, seval]
    apply VE.cons
    · first | exact ev_extract rfl (gn rfl) rfl rfl | exact ev_extractt rfl (gn rfl) rfl rfl
    simp only [nm, seval]
    apply VE.cons
    · exact ev_assign rfl (gn rfl)
    simp only [nm, seval]
    apply VE.cons
    · exact ev_assign rfl (gn rfl)
    simp only [nm, seval]
    apply VE.cons
    · exact ev_assign rfl (gn rfl)
    simp only [nm, seval]
    exact VE.nil _
  · kernel_rfl
  change VOk _ _ _ _ _
  refine vseq ?_
  refine vseq ?_
  apply vrp
  · apply VE.cons
    · exact ev_move rfl (gn rfl)
    simp only [nm, seval]
    apply VE.cons
    · exact ev_eql (p := false) rfl (gn rfl) rfl rfl (decide_eq_false (by omega))
    simp only [nm, seval]
    apply VE.cons
    · exact ev_move rfl (gn rfl)
    simp only [nm, seval]
    apply VE.cons
    · first | exact Ev.skip (fun _ => rfl) | exact ev_move rfl (fun _ => rfl)
    simp only [nm, seval]
    apply VE.cons
    · first | exact Ev.skip (fun _ => rfl) | exact ev_move rfl (fun _ => rfl)
    simp only [nm, seval]
    apply VE.cons
    · first | exact Ev.skip (fun _ => rfl) | exact ev_len rfl (fun _ => rfl) rfl Tryd.underlying26 (rdg_arg hv)
    simp only [nm, seval]
    apply VE.cons
    · first | exact Ev.skip (fun _ => rfl) | exact ev_move rfl (fun _ => rfl)
    simp only [nm, seval]
    apply VE.cons
    · first | exact Ev.skip (fun _ => rfl) | exact ev_sub (c := ((b.length : Int) - (k : Int))) rfl (fun _ => rfl) rfl rfl (by rw [i64w (by omega) (by omega)])
    simp only [nm, seval]
    apply VE.cons
    · first | exact Ev.skip (fun _ => rfl) | exact ev_gtr (p := true) rfl (fun _ => rfl) rfl rfl (decide_eq_true (by omega))
    simp only [nm, seval]
    apply VE.cons
    · first | exact ev_pick_t rfl (gn rfl) rfl rfl | exact ev_pick_f rfl (gn rfl) rfl rfl
    simp only [nm, seval]
    apply VE.cons
    · exact ev_move rfl (gn rfl)
    simp only [nm, seval]
    apply VE.cons
    · first | exact Ev.skip (fun _ => rfl) | exact ev_move rfl (fun _ => rfl)
    simp only [nm, seval]
    apply VE.cons
    · first | exact Ev.skip (fun _ => rfl) | refine ev_pure' (fun _ => rfl) (fun ρ w => by simp only [VS.act, SV.c, List.map_cons, List.map_nil]; go_simp; exact rfl) (fun _ _ => rfl)
    simp only [nm, seval]
    apply VE.cons
    · first | exact ev_pick_t rfl (gn rfl) rfl rfl | exact ev_pick_f rfl (gn rfl) rfl rfl
    simp only [nm, seval]
    exact VE.nil _
  · kernel_rfl
  change VOk _ _ _ _ _
  refine vcond_t rfl ?_
  refine vseq ?_
  apply vrp
  · apply VE.cons
    · exact ev_build (cells := #[.int .i64 0, .slice none 0 0, .slice none 0 0]) rfl (gn rfl) rfl built29_0
    simp only [nm, seval]
    apply VE.cons
    · exact ev_store rfl (gn rfl) rfl rfl rfl Tryd.sizeOf29 rfl (by simp) rfl
    simp only [nm, seval]
    apply VE.cons
    · exact ev_assign rfl (gn rfl)
    simp only [nm, seval]
    apply VE.cons
    · exact ev_assign rfl (gn rfl)
    simp only [nm, seval]
    exact VE.nil _
  · kernel_rfl
  change VOk _ _ _ _ _
  refine vret ?_
  refine post_ret (res3 Tryd.results39 (rv_cella rfl rfl Tryd.underlying29 rfl Tryd.sizeOf29 rfl) (rv_tmp rfl) (rv_tmp rfl)) ?_
  intro ρ w' hr
  refine ⟨_, rfl, ?_, hr.1⟩
  exact node_none
theorem read_fc {v : Value} {b : List Nat} {S : Nat → Prop} {d tg n k : Nat} (w : World) (hv : SlAt w v b.length 1 (b.map b8) S) (h8 : ∀ x ∈ b, x < 256) (hbl : b.length ≤ 1048576) (hh : headN b = (tg, n, k)) (hb6 : n < 65536 ∧ k ≤ 4 ∧ tg < 256 ∧ d ≤ 9) (hk : k ≠ 0) (hn : n + k ≤ b.length) (hd : 8 < d) : Calls Tryd.prog 39 #[v, .int .i64 (d : Nat)] w fun e w' => ∃ v', e = .returned (.tuple #[v', .slice none 0 0, .bool false]) ∧ RetD w w' v' (datN (noT)) ∧ Bw w w' := by
  go_enter Tryd.func39, Tryd.ntmps39
  refine ve_go ?_
  simp only [List.map_cons, List.map_nil]
  refine vseq ?_
  apply vrp
  · apply VE.cons
    · exact ev_alloc rfl rfl (gn rfl) Tryd.zeroValue29
    simp only [nm, seval]
    apply VE.cons
    · exact ev_assign rfl (gn rfl)
    simp only [nm, seval]
    apply VE.cons
    · exact ev_assign rfl (gn rfl)
    simp only [nm, seval]
    exact VE.nil _
  · kernel_rfl
  change VOk _ _ _ _ _
  refine vseq ?_
  apply vrp
  · apply VE.cons
    · exact ev_move rfl (gn rfl)
    simp only [nm, seval]
    apply VE.cons
    · exact ev_callb (v := .tuple #[.int .i64 (tg : Nat), .int .i64 (n : Nat), .int .i64 (k : Nat)]) rfl (gn rfl) rfl (en_of Tryd.func50 (by kernel_rfl) rfl) (fun w' hb => by have := head_ok w' (sl_bw hv hb) h8 hbl; rw [hh] at this; exact this)
    simp only [nm, seval]
    apply VE.cons
    · exact ev_move rfl (gn rfl)
    simp only [nm, seval]
    apply VE.cons
    · first | exact ev_extract rfl (gn rfl) rfl rfl | exact ev_extractt rfl (gn rfl) rfl rfl
    simp only [nm, seval]
    apply VE.cons
    · first | exact ev_extract rfl (gn rfl) rfl rfl | exact ev_extractt rfl (gn rfl) rfl rfl
    simp only [nm, seval]
    apply VE.cons
    · first | exact ev_extract rfl (gn rfl) rfl rfl | exact ev_extractt rfl (gn rfl) rfl rfl
    simp only [nm, seval]
    apply VE.cons
    · exact ev_assign rfl (gn rfl)
    simp only [nm, seval]
    apply VE.cons
    · exact ev_assign rfl (gn rfl)
    simp only [nm, seval]
    apply VE.cons
    · exact ev_assign rfl (gn rfl)
    simp only [nm, seval]
    exact VE.nil _
  · kernel_rfl
  change VOk _ _ _ _ _
  refine vseq ?_
  refine vseq ?_
  apply vrp
  · apply VE.cons
    · exact ev_move rfl (gn rfl)
    simp only [nm, seval]
    apply VE.cons
    · exact ev_eql (p := false) rfl (gn rfl) rfl rfl (decide_eq_false (by omega))
    simp only [nm, seval]
    apply VE.cons
    · exact ev_move rfl (gn rfl)
    simp only [nm, seval]
    apply VE.cons
    · first | exact Ev.skip (fun _ => rfl) | exact ev_move rfl (fun _ => rfl)
    simp only [nm, seval]
    apply VE.cons
    · first | exact Ev.skip (fun _ => rfl) | exact ev_move rfl (fun _ => rfl)
    simp only [nm, seval]
    apply VE.cons
    · first | exact Ev.skip (fun _ => rfl) | exact ev_len rfl (fun _ => rfl) rfl Tryd.underlying26 (rdg_arg hv)
    simp only [nm, seval]
    apply VE.cons
    · first | exact Ev.skip (fun _ => rfl) | exact ev_move rfl (fun _ => rfl)
    simp only [nm, seval]
    apply VE.cons
    · first | exact Ev.skip (fun _ => rfl) | exact ev_sub (c := ((b.length : Int) - (k : Int))) rfl (fun _ => rfl) rfl rfl (by rw [i64w (by omega) (by omega)])
    simp only [nm, seval]
    apply VE.cons
    · first | exact Ev.skip (fun _ => rfl) | exact ev_gtr (p := false) rfl (fun _ => rfl) rfl rfl (decide_eq_false (by omega))
    simp only [nm, seval]
    apply VE.cons
    · first | exact ev_pick_t rfl (gn rfl) rfl rfl | exact ev_pick_f rfl (gn rfl) rfl rfl
    simp only [nm, seval]
    apply VE.cons
    · exact ev_move rfl (gn rfl)
    simp only [nm, seval]
    apply VE.cons
    · first | exact Ev.skip (fun _ => rfl) | exact ev_move rfl (fun _ => rfl)
    simp only [nm, seval]
    apply VE.cons
    · first | exact Ev.skip (fun _ => rfl) | exact ev_gtr (p := true) rfl (fun _ => rfl) rfl rfl (decide_eq_true (by omega))
    simp only [nm, seval]
    apply VE.cons
    · first | exact ev_pick_t rfl (gn rfl) rfl rfl | exact ev_pick_f rfl (gn rfl) rfl rfl
    simp only [nm, seval]
    exact VE.nil _
  · kernel_rfl
  change VOk _ _ _ _ _
  refine vcond_t rfl ?_
  refine vseq ?_
  apply vrp
  · apply VE.cons
    · exact ev_build (cells := #[.int .i64 0, .slice none 0 0, .slice none 0 0]) rfl (gn rfl) rfl built29_0
    simp only [nm, seval]
    apply VE.cons
    · exact ev_store rfl (gn rfl) rfl rfl rfl Tryd.sizeOf29 rfl (by simp) rfl
    simp only [nm, seval]
    apply VE.cons
    · exact ev_assign rfl (gn rfl)
    simp only [nm, seval]
    apply VE.cons
    · exact ev_assign rfl (gn rfl)
    simp only [nm, seval]
    exact VE.nil _
  · kernel_rfl
  change VOk _ _ _ _ _
  refine vret ?_
  refine post_ret (res3 Tryd.results39 (rv_cella rfl rfl Tryd.underlying29 rfl Tryd.sizeOf29 rfl) (rv_tmp rfl) (rv_tmp rfl)) ?_
  intro ρ w' hr
  refine ⟨_, rfl, ?_, hr.1⟩
  exact node_none
theorem read_leaf {v : Value} {b : List Nat} {S : Nat → Prop} {d tg n k : Nat} (w : World) (hv : SlAt w v b.length 1 (b.map b8) S) (h8 : ∀ x ∈ b, x < 256) (hbl : b.length ≤ 1048576) (hh : headN b = (tg, n, k)) (hb6 : n < 65536 ∧ k ≤ 4 ∧ tg < 256 ∧ d ≤ 9) (hk : k ≠ 0) (hn : n + k ≤ b.length) (hd : d ≤ 8) (hm : madeT tg = false) : Calls Tryd.prog 39 #[v, .int .i64 (d : Nat)] w fun e w' => ∃ v', e = .returned (.tuple #[v', cutV (k + n) b.length 1 v, .bool (bodyT tg ((b.drop k).take n))]) ∧ RetD w w' v' (datN (.mk tg ((b.drop k).take n) [])) ∧ Bw w w' := by
  have hin := part_sl hv hn
  have hil := (part_len hn).1
  obtain ⟨L, hL⟩ : ∃ L, (b.drop k).take n = L := ⟨_, rfl⟩
  rw [hL] at hin hil
  have hL8 : ∀ x ∈ L, x < 256 := fun x hx => h8 x (List.mem_of_mem_drop (List.mem_of_mem_take (hL ▸ hx)))
  rw [hL]
  go_enter Tryd.func39, Tryd.ntmps39
  refine ve_go ?_
  simp only [List.map_cons, List.map_nil]
  refine vseq ?_
  apply vrp
  · apply VE.cons
    · exact ev_alloc rfl rfl (gn rfl) Tryd.zeroValue29
    simp only [nm, seval]
    apply VE.cons
    · exact ev_assign rfl (gn rfl)
    simp only [nm, seval]
    apply VE.cons
    · exact ev_assign rfl (gn rfl)
    simp only [nm, seval]
    exact VE.nil _
  · kernel_rfl
  change VOk _ _ _ _ _
  refine vseq ?_
  apply vrp
  · apply VE.cons
    · exact ev_move rfl (gn rfl)
    simp only [nm, seval]
    apply VE.cons
    · exact ev_callb (v := .tuple #[.int .i64 (tg : Nat), .int .i64 (n : Nat), .int .i64 (k : Nat)]) rfl (gn rfl) rfl (en_of Tryd.func50 (by kernel_rfl) rfl) (fun w' hb => by have := head_ok w' (sl_bw hv hb) h8 hbl; rw [hh] at this; exact this)
    simp only [nm, seval]
    apply VE.cons
    · exact ev_move rfl (gn rfl)
    simp only [nm, seval]
    apply VE.cons
    · first | exact ev_extract rfl (gn rfl) rfl rfl | exact ev_extractt rfl (gn rfl) rfl rfl
    simp only [nm, seval]
    apply VE.cons
    · first | exact ev_extract rfl (gn rfl) rfl rfl | exact ev_extractt rfl (gn rfl) rfl rfl
    simp only [nm, seval]
    apply VE.cons
    · first | exact ev_extract rfl (gn rfl) rfl rfl | exact ev_extractt rfl (gn rfl) rfl rfl
    simp only [nm, seval]
    apply VE.cons
    · exact ev_assign rfl (gn rfl)
    simp only [nm, seval]
    apply VE.cons
    · exact ev_assign rfl (gn rfl)
    simp only [nm, seval]
    apply VE.cons
    · exact ev_assign rfl (gn rfl)
    simp only [nm, seval]
    exact VE.nil _
  · kernel_rfl
  change VOk _ _ _ _ _
  refine vseq ?_
  refine vseq ?_
  apply vrp
  · apply VE.cons
    · exact ev_move rfl (gn rfl)
    simp only [nm, seval]
    apply VE.cons
    · exact ev_eql (p := false) rfl (gn rfl) rfl rfl (decide_eq_false (by omega))
    simp only [nm, seval]
    apply VE.cons
    · exact ev_move rfl (gn rfl)
    simp only [nm, seval]
    apply VE.cons
    · first | exact Ev.skip (fun _ => rfl) | exact ev_move rfl (fun _ => rfl)
    simp only [nm, seval]
    apply VE.cons
    · first | exact Ev.skip (fun _ => rfl) | exact ev_move rfl (fun _ => rfl)
    simp only [nm, seval]
    apply VE.cons
    · first | exact Ev.skip (fun _ => rfl) | exact ev_len rfl (fun _ => rfl) rfl Tryd.underlying26 (rdg_arg hv)
    simp only [nm, seval]
    apply VE.cons
    · first | exact Ev.skip (fun _ => rfl) | exact ev_move rfl (fun _ => rfl)
    simp only [nm, seval]
    apply VE.cons
    · first | exact Ev.skip (fun _ => rfl) | exact ev_sub (c := ((b.length : Int) - (k : Int))) rfl (fun _ => rfl) rfl rfl (by rw [i64w (by omega) (by omega)])
    simp only [nm, seval]
    apply VE.cons
    · first | exact Ev.skip (fun _ => rfl) | exact ev_gtr (p := false) rfl (fun _ => rfl) rfl rfl (decide_eq_false (by omega))
    simp only [nm, seval]
    apply VE.cons
    · first | exact ev_pick_t rfl (gn rfl) rfl rfl | exact ev_pick_f rfl (gn rfl) rfl rfl
    simp only [nm, seval]
    apply VE.cons
    · exact ev_move rfl (gn rfl)
    simp only [nm, seval]
    apply VE.cons
    · first | exact Ev.skip (fun _ => rfl) | exact ev_move rfl (fun _ => rfl)
    simp only [nm, seval]
    apply VE.cons
    · first | exact Ev.skip (fun _ => rfl) | exact ev_gtr (p := false) rfl (fun _ => rfl) rfl rfl (decide_eq_false (by omega))
    simp only [nm, seval]
    apply VE.cons
    · first | exact ev_pick_t rfl (gn rfl) rfl rfl | exact ev_pick_f rfl (gn rfl) rfl rfl
    simp only [nm, seval]
    exact VE.nil _
  · kernel_rfl
  change VOk _ _ _ _ _
  refine vcond_f rfl ?_
  refine vskip ?_
  change VOk _ _ _ _ _
  refine vseq ?_
  apply vrd (by kernel_rfl)
  · apply VE.cons
    · exact ev_move rfl (gn rfl)
    simp only [nm, seval]
    apply VE.cons
    · exact ev_move rfl (gn rfl)
    simp only [nm, seval]
    apply VE.cons
    · exact ev_move rfl (gn rfl)
    simp only [nm, seval]
    apply VE.cons
    · exact ev_move rfl (gn rfl)
    simp only [nm, seval]
    apply VE.cons
    · exact ev_add (c := ((k + n : Nat) : Int)) rfl (gn rfl) rfl rfl (by rw [i64w (by omega) (by omega)]; omega)
    simp only [nm, seval]
    apply VE.cons
    · exact ev_cutx (a := k) (b := k + n) (v' := cutV (k) (k + n) 1 v) rfl (gn rfl) rfl Tryd.underlying26 Tryd.sizeOf5 (rdg_arg hv) rfl rfl (by omega) (by omega) rfl
    simp only [nm, seval]
    apply VE.cons
    · exact ev_move rfl (gn rfl)
    simp only [nm, seval]
    apply VE.cons
    · exact ev_move rfl (gn rfl)
    simp only [nm, seval]
    apply VE.cons
    · exact ev_move rfl (gn rfl)
    simp only [nm, seval]
    apply VE.cons
    · exact ev_add (c := ((k + n : Nat) : Int)) rfl (gn rfl) rfl rfl (by rw [i64w (by omega) (by omega)]; omega)
    simp only [nm, seval]
    apply VE.cons
    · exact ev_cutx (a := k + n) (b := b.length) (v' := cutV (k + n) (b.length) 1 v) rfl (gn rfl) rfl Tryd.underlying26 Tryd.sizeOf5 (rdg_arg hv) rfl rfl (by omega) (by omega) rfl
    simp only [nm, seval]
    apply VE.cons
    · exact ev_assign rfl (gn rfl)
    simp only [nm, seval]
    apply VE.cons
    · exact ev_assign rfl (gn rfl)
    simp only [nm, seval]
    exact VE.nil _
  · kernel_rfl
  change VOk _ _ _ _ _
  refine vseq ?_
  apply vrp
  · apply VE.cons
    · exact ev_move rfl (gn rfl)
    simp only [nm, seval]
    apply VE.cons
    · exact ev_build (cells := #[.int .i64 (tg : Nat), .slice none 0 0, .slice none 0 0]) rfl (gn rfl) rfl (built29_t _)
    simp only [nm, seval]
    apply VE.cons
    · exact ev_alloc rfl rfl (gn rfl) Tryd.zeroValue29
    simp only [nm, seval]
    apply VE.cons
    · first | exact ev_store rfl (gn rfl) rfl rfl rfl Tryd.sizeOf29 rfl (by simp) rfl | exact ev_storeR (vl := [.v (.int .i64 (tg : Nat)), .d 53, .v (.slice none 0 0)]) [4, 53] rfl (gn rfl) rfl rfl rfl Tryd.sizeOf29 rfl (fun ρ S w' _ hR => ⟨agg_cells _, by have hh := row_cells (id := 53) hR (by simp) rfl; simp only [SV.cs, SV.c, List.all_cons, List.all_nil, hh.2]; rfl⟩) rfl (by simp)
    simp only [nm, seval]
    exact VE.nil _
  · kernel_rfl
  change VOk _ _ _ _ _
  refine vseq ?_
  refine vseq ?_
  apply vrp
  · apply VE.cons
    · exact ev_move rfl (gn rfl)
    simp only [nm, seval]
    apply VE.cons
    · exact ev_callb (v := .bool false) rfl (gn rfl) rfl (en_of Tryd.func41 (by kernel_rfl) rfl) (fun w' hb => by have := made_ok (tg : Int) w'; rw [hm] at this; exact this)
    simp only [nm, seval]
    apply VE.cons
    · exact ev_not rfl (gn rfl) rfl
    simp only [nm, seval]
    exact VE.nil _
  · kernel_rfl
  change VOk _ _ _ _ _
  refine vcond_t rfl ?_
  refine vseq ?_
  apply vrp
  · apply VE.cons
    · exact ev_move rfl (gn rfl)
    simp only [nm, seval]
    apply VE.cons
    · exact ev_callrow [] rfl rfl (gn rfl) rfl (en_of Tryd.func45 (by kernel_rfl) rfl) (n := L.length) (size := 1) (l := L.map b8) (by simp) (fun ρ S w' hb hR => clone_ok w' (sl_bw hin hb) (by omega))
    simp only [nm, seval]
    apply VE.cons
    · first | exact ev_field rfl (gn rfl) rfl Tryd.underlying29 rfl Tryd.sizeOf26 | exact ev_fieldx rfl (gn rfl) rfl Tryd.underlying29 rfl Tryd.sizeOf26
    simp only [nm, seval]
    apply VE.cons
    · exact ev_storeR (vl := [.d 53]) [12, 53] rfl (gn rfl) rfl rfl rfl Tryd.sizeOf26 rfl (fun ρ S w' _ hR => by have hh := row_cells (id := 53) hR (by simp) rfl; exact ⟨hh.1, by simp [SV.cs, SV.c, hh.2]⟩) rfl (by simp)
    simp only [nm, seval]
    exact VE.nil _
  · kernel_rfl
  change VOk _ _ _ _ _
  refine vseq ?_
  apply vrd (by kernel_rfl)
  · apply VE.cons
    · exact ev_loada rfl (gn rfl) rfl rfl Tryd.underlying29 rfl Tryd.sizeOf29 rfl
    simp only [nm, seval]
    apply VE.cons
    · exact ev_move rfl (gn rfl)
    simp only [nm, seval]
    apply VE.cons
    · exact ev_move rfl (gn rfl)
    simp only [nm, seval]
    apply VE.cons
    · exact ev_move rfl (gn rfl)
    simp only [nm, seval]
    apply VE.cons
    · exact ev_callb (v := .bool (bodyT tg L)) rfl (gn rfl) rfl (en_of Tryd.func42 (by kernel_rfl) rfl) (fun w' hb => body_ok (bs := L) (tg : Int) w' (sl_bw hin hb) (by omega) hL8)
    simp only [nm, seval]
    apply VE.cons
    · first | exact ev_store rfl (gn rfl) rfl rfl rfl Tryd.sizeOf29 rfl (by simp) rfl | exact ev_storeR (vl := [.v (.int .i64 (tg : Nat)), .d 53, .v (.slice none 0 0)]) [4, 53] rfl (gn rfl) rfl rfl rfl Tryd.sizeOf29 rfl (fun ρ S w' _ hR => ⟨agg_cells _, by have hh := row_cells (id := 53) hR (by simp) rfl; simp only [SV.cs, SV.c, List.all_cons, List.all_nil, hh.2]; rfl⟩) rfl (by simp)
    simp only [nm, seval]
    apply VE.cons
    · exact ev_assign rfl (gn rfl)
    simp only [nm, seval]
    apply VE.cons
    · exact ev_assign rfl (gn rfl)
    simp only [nm, seval]
    exact VE.nil _
  · kernel_rfl
  change VOk _ _ _ _ _
  refine vret ?_
  refine post_ret (res3 Tryd.results39 (rv_cella rfl rfl Tryd.underlying29 rfl Tryd.sizeOf29 rfl) (rv_tmp rfl) (rv_tmp rfl)) ?_
  intro ρ w' hr
  refine ⟨_, rfl, ?_, hr.1⟩
  have := node_leaf (t := (tg : Int)) (b := L) 53 hr rfl
  simpa [SV.c, SV.cs] using this
theorem read_node {v : Value} {b : List Nat} {S : Nat → Prop} {d f' tg n k : Nat} {K : Option (List Tr)} (w : World) (hv : SlAt w v b.length 1 (b.map b8) S) (h8 : ∀ x ∈ b, x < 256) (hbl : b.length ≤ 1048576) (hh : headN b = (tg, n, k)) (hb6 : n < 65536 ∧ k ≤ 4 ∧ tg < 256 ∧ d ≤ 9) (hk : k ≠ 0) (hn : n + k ≤ b.length) (hd : d ≤ 8) (hm : madeT tg = true) (hih : ReadOK f') (hdf : d + 1 + f' = 9) (hK0 : kidsF (readF f') n ((b.drop k).take n) [] = K) : Calls Tryd.prog 39 #[v, .int .i64 (d : Nat)] w fun e w' => ∃ v', e = .returned (.tuple #[v', (match K with | none => .slice none 0 0 | some _ => cutV (k + n) b.length 1 v), .bool K.isSome]) ∧ RetD w w' v' (datN (match K with | none => noT | some ks => .mk tg [] ks)) ∧ Bw w w' := by
  have hin := part_sl hv hn
  have hil := (part_len hn).1
  obtain ⟨L, hL⟩ : ∃ L, (b.drop k).take n = L := ⟨_, rfl⟩
  rw [hL] at hin hil
  have hL8 : ∀ x ∈ L, x < 256 := fun x hx => h8 x (List.mem_of_mem_drop (List.mem_of_mem_take (hL ▸ hx)))
  rw [hL] at hK0
  have hK := hK0
  clear hK0
  go_enter Tryd.func39, Tryd.ntmps39
  refine ve_go ?_
  simp only [List.map_cons, List.map_nil]
  refine vseq ?_
  apply vrp
  · apply VE.cons
    · exact ev_alloc rfl rfl (gn rfl) Tryd.zeroValue29
    simp only [nm, seval]
    apply VE.cons
    · exact ev_assign rfl (gn rfl)
    simp only [nm, seval]
    apply VE.cons
    · exact ev_assign rfl (gn rfl)
    simp only [nm, seval]
    exact VE.nil _
  · kernel_rfl
  change VOk _ _ _ _ _
  refine vseq ?_
  apply vrp
  · apply VE.cons
    · exact ev_move rfl (gn rfl)
    simp only [nm, seval]
    apply VE.cons
    · exact ev_callb (v := .tuple #[.int .i64 (tg : Nat), .int .i64 (n : Nat), .int .i64 (k : Nat)]) rfl (gn rfl) rfl (en_of Tryd.func50 (by kernel_rfl) rfl) (fun w' hb => by have := head_ok w' (sl_bw hv hb) h8 hbl; rw [hh] at this; exact this)
    simp only [nm, seval]
    apply VE.cons
    · exact ev_move rfl (gn rfl)
    simp only [nm, seval]
    apply VE.cons
    · first | exact ev_extract rfl (gn rfl) rfl rfl | exact ev_extractt rfl (gn rfl) rfl rfl
    simp only [nm, seval]
    apply VE.cons
    · first | exact ev_extract rfl (gn rfl) rfl rfl | exact ev_extractt rfl (gn rfl) rfl rfl
    simp only [nm, seval]
    apply VE.cons
    · first | exact ev_extract rfl (gn rfl) rfl rfl | exact ev_extractt rfl (gn rfl) rfl rfl
    simp only [nm, seval]
    apply VE.cons
    · exact ev_assign rfl (gn rfl)
    simp only [nm, seval]
    apply VE.cons
    · exact ev_assign rfl (gn rfl)
    simp only [nm, seval]
    apply VE.cons
    · exact ev_assign rfl (gn rfl)
    simp only [nm, seval]
    exact VE.nil _
  · kernel_rfl
  change VOk _ _ _ _ _
  refine vseq ?_
  refine vseq ?_
  apply vrp
  · apply VE.cons
    · exact ev_move rfl (gn rfl)
    simp only [nm, seval]
    apply VE.cons
    · exact ev_eql (p := false) rfl (gn rfl) rfl rfl (decide_eq_false (by omega))
    simp only [nm, seval]
    apply VE.cons
    · exact ev_move rfl (gn rfl)
    simp only [nm, seval]
    apply VE.cons
    · first | exact Ev.skip (fun _ => rfl) | exact ev_move rfl (fun _ => rfl)
    simp only [nm, seval]
    apply VE.cons
    · first | exact Ev.skip (fun _ => rfl) | exact ev_move rfl (fun _ => rfl)
    simp only [nm, seval]
    apply VE.cons
    · first | exact Ev.skip (fun _ => rfl) | exact ev_len rfl (fun _ => rfl) rfl Tryd.underlying26 (rdg_arg hv)
    simp only [nm, seval]
    apply VE.cons
    · first | exact Ev.skip (fun _ => rfl) | exact ev_move rfl (fun _ => rfl)
    simp only [nm, seval]
    apply VE.cons
    · first | exact Ev.skip (fun _ => rfl) | exact ev_sub (c := ((b.length : Int) - (k : Int))) rfl (fun _ => rfl) rfl rfl (by rw [i64w (by omega) (by omega)])
    simp only [nm, seval]
    apply VE.cons
    · first | exact Ev.skip (fun _ => rfl) | exact ev_gtr (p := false) rfl (fun _ => rfl) rfl rfl (decide_eq_false (by omega))
    simp only [nm, seval]
    apply VE.cons
    · first | exact ev_pick_t rfl (gn rfl) rfl rfl | exact ev_pick_f rfl (gn rfl) rfl rfl
    simp only [nm, seval]
    apply VE.cons
    · exact ev_move rfl (gn rfl)
    simp only [nm, seval]
    apply VE.cons
    · first | exact Ev.skip (fun _ => rfl) | exact ev_move rfl (fun _ => rfl)
    simp only [nm, seval]
    apply VE.cons
    · first | exact Ev.skip (fun _ => rfl) | exact ev_gtr (p := false) rfl (fun _ => rfl) rfl rfl (decide_eq_false (by omega))
    simp only [nm, seval]
    apply VE.cons
    · first | exact ev_pick_t rfl (gn rfl) rfl rfl | exact ev_pick_f rfl (gn rfl) rfl rfl
    simp only [nm, seval]
    exact VE.nil _
  · kernel_rfl
  change VOk _ _ _ _ _
  refine vcond_f rfl ?_
  refine vskip ?_
  change VOk _ _ _ _ _
  refine vseq ?_
  apply vrd (by kernel_rfl)
  · apply VE.cons
    · exact ev_move rfl (gn rfl)
    simp only [nm, seval]
    apply VE.cons
    · exact ev_move rfl (gn rfl)
    simp only [nm, seval]
    apply VE.cons
    · exact ev_move rfl (gn rfl)
    simp only [nm, seval]
    apply VE.cons
    · exact ev_move rfl (gn rfl)
    simp only [nm, seval]
    apply VE.cons
    · exact ev_add (c := ((k + n : Nat) : Int)) rfl (gn rfl) rfl rfl (by rw [i64w (by omega) (by omega)]; omega)
    simp only [nm, seval]
    apply VE.cons
    · exact ev_cutx (a := k) (b := k + n) (v' := cutV (k) (k + n) 1 v) rfl (gn rfl) rfl Tryd.underlying26 Tryd.sizeOf5 (rdg_arg hv) rfl rfl (by omega) (by omega) rfl
    simp only [nm, seval]
    apply VE.cons
    · exact ev_move rfl (gn rfl)
    simp only [nm, seval]
    apply VE.cons
    · exact ev_move rfl (gn rfl)
    simp only [nm, seval]
    apply VE.cons
    · exact ev_move rfl (gn rfl)
    simp only [nm, seval]
    apply VE.cons
    · exact ev_add (c := ((k + n : Nat) : Int)) rfl (gn rfl) rfl rfl (by rw [i64w (by omega) (by omega)]; omega)
    simp only [nm, seval]
    apply VE.cons
    · exact ev_cutx (a := k + n) (b := b.length) (v' := cutV (k + n) (b.length) 1 v) rfl (gn rfl) rfl Tryd.underlying26 Tryd.sizeOf5 (rdg_arg hv) rfl rfl (by omega) (by omega) rfl
    simp only [nm, seval]
    apply VE.cons
    · exact ev_assign rfl (gn rfl)
    simp only [nm, seval]
    apply VE.cons
    · exact ev_assign rfl (gn rfl)
    simp only [nm, seval]
    exact VE.nil _
  · kernel_rfl
  change VOk _ _ _ _ _
  refine vseq ?_
  apply vrp
  · apply VE.cons
    · exact ev_move rfl (gn rfl)
    simp only [nm, seval]
    apply VE.cons
    · exact ev_build (cells := #[.int .i64 (tg : Nat), .slice none 0 0, .slice none 0 0]) rfl (gn rfl) rfl (built29_t _)
    simp only [nm, seval]
    apply VE.cons
    · exact ev_alloc rfl rfl (gn rfl) Tryd.zeroValue29
    simp only [nm, seval]
    apply VE.cons
    · first | exact ev_store rfl (gn rfl) rfl rfl rfl Tryd.sizeOf29 rfl (by simp) rfl | exact ev_storeR (vl := [.fn (cellV 0) (.d 67), .fn (cellV 1) (.d 67), .fn (cellV 2) (.d 67)]) [13, 67] rfl (gn rfl) rfl rfl rfl Tryd.sizeOf29 rfl (fun ρ S w' _ hR => by obtain ⟨c, h1, h2⟩ := datN_get (id := 67) hR (by simp) rfl; have hf := fn3 h1 (DN_len h2); exact ⟨hf.1, hf.2 ▸ DN_one h2⟩) rfl (by simp) | exact ev_storeR (vl := [.v (.int .i64 (tg : Nat)), .v (.slice none 0 0), .d 900]) [4, 900] rfl (gn rfl) rfl rfl rfl Tryd.sizeOf29 rfl (fun ρ S w' _ hR => ⟨agg_cells _, by have hh := row_cells (id := 900) hR (by simp) rfl; simp only [SV.cs, SV.c, List.all_cons, List.all_nil, hh.2]; rfl⟩) rfl (by simp)
    simp only [nm, seval]
    exact VE.nil _
  · kernel_rfl
  change VOk _ _ _ _ _
  refine vseq ?_
  refine vseq ?_
  apply vrp
  · apply VE.cons
    · exact ev_move rfl (gn rfl)
    simp only [nm, seval]
    apply VE.cons
    · exact ev_callb (v := .bool true) rfl (gn rfl) rfl (en_of Tryd.func41 (by kernel_rfl) rfl) (fun w' hb => by have := made_ok (tg : Int) w'; rw [hm] at this; exact this)
    simp only [nm, seval]
    apply VE.cons
    · exact ev_not rfl (gn rfl) rfl
    simp only [nm, seval]
    exact VE.nil _
  · kernel_rfl
  change VOk _ _ _ _ _
  refine vcond_f rfl ?_
  refine vskip ?_
  change VOk _ _ _ _ _
  refine vseq ?_
  refine vblock ?_
  refine vloop_w (α := {x : Nat × (Nat × List Nat) × Value × List Tr // x.2.2.2.length = x.1 ∧ x.1 ≤ 20 ∧ x.2.1.2.length ≤ x.2.1.1 ∧ x.2.1.2.length ≤ 1048576 ∧ (∀ y ∈ x.2.1.2, y < 256) ∧ SlAt w x.2.2.1 x.2.1.2.length 1 (x.2.1.2.map b8) S ∧ kidsF (readF f') x.2.1.1 x.2.1.2 x.2.2.2 = K}) (fun (x : {x : Nat × (Nat × List Nat) × Value × List Tr // x.2.2.2.length = x.1 ∧ x.1 ≤ 20 ∧ x.2.1.2.length ≤ x.2.1.1 ∧ x.2.1.2.length ≤ 1048576 ∧ (∀ y ∈ x.2.1.2, y < 256) ∧ SlAt w x.2.2.1 x.2.1.2.length 1 (x.2.1.2.map b8) S ∧ kidsF (readF f') x.2.1.1 x.2.1.2 x.2.2.2 = K}) f => ⟨[.v (f 0), .v (.int .i64 (d : Nat)), .v (f 2), .v (f 3), .p 4 0, .v (f 5), .v (f 6), .v (.int .i64 (tg : Nat)), .v (f 8), .v (f 9), .v x.1.2.2.1, .v (cutV (k + n) b.length 1 v), .p 12 0, .v (f 13), .v (f 14), .v (f 15), .v (f 16), .v (f 17), .v (f 18), .v (f 19), .v (f 20), .v (f 21), .v (f 22), .v (f 23), .v (f 24), .v (f 25), .v (f 26), .v (f 27), .v (f 28), .v (f 29), .v (f 30), .v (f 31), .v (f 32), .v (f 33), .v (f 34), .v (f 35), .v (f 36), .v (f 37), .v (f 38), .v (f 39), .v (f 40), .v (f 41), .v (f 42), .v (f 43), .v (f 44), .v (f 45), .v (f 46), .v (f 47), .v (f 48), .v (f 49), .v (f 50), .v (f 51), .v (f 52), .v (f 53), .v (f 54), .v (f 55), .v (f 56), .v (f 57), .v (f 58), .v (f 59), .v (f 60), .v (f 61), .v (f 62), .v (f 63), .v (f 64), .v (f 65), .v (f 66), .v (f 67), .v (f 68), .v (f 69), .v (f 70), .v (f 71), .v (f 72), .v (f 73), .v (f 74), .v (f 75), .v (f 76), .v (f 77), .v (f 78), .v (f 79), .v (f 80), .v (f 81), .v (f 82), .v (f 83), .v (f 84), .v (f 85), .v (f 86), .v (f 87)], memOf [(900, .row x.1.1 3 29 (datNs x.1.2.2.2)), (12, .cells [.v (.int .i64 (tg : Nat)), .v (.slice none 0 0), .d 900] 29), (4, .cells [.v (.int .i64 0), .v (.slice none 0 0), .v (.slice none 0 0)] 29)]⟩) (fun x => x.1.2.1.1) ?_ (⟨(0, (n, L), cutV k (k + n) 1 v, []), rfl, Nat.zero_le _, by show L.length ≤ n; omega, by show L.length ≤ 1048576; omega, hL8, hin, hK⟩) ?_
  · rintro ⟨⟨i, ⟨m, l⟩, v', acc⟩, hacc, hi, hlm, hl6, hl8, hv', hgo⟩ f
    simp only at hacc hi hlm hl6 hl8 hv' hgo
    obtain ⟨q, h_q⟩ : ∃ q, decide (l.length > 0) = q := ⟨_, rfl⟩
    have h_q' := (nat_gt l.length 0).trans h_q
    change VOk _ _ _ _ _
    refine vseq ?_
    refine vseq ?_
    apply vrp
    · apply VE.cons
      · exact ev_move rfl (gn rfl)
      simp only [nm, seval]
      apply VE.cons
      · exact ev_len rfl (gn rfl) rfl Tryd.underlying26 (rdg_arg hv')
      simp only [nm, seval]
      apply VE.cons
      · exact ev_gtr rfl (gn rfl) rfl rfl h_q'
      simp only [nm, seval]
      exact VE.nil _
    · kernel_rfl
    change VOk _ _ _ _ _
    cases q
    · refine vcond_f rfl ?_
      have hK1 : K = some acc := by rw [← hgo, List.eq_nil_of_length_eq_zero (by have := of_decide_eq_false h_q; omega : l.length = 0), kidsF_nil]
      refine vexit ?_
      change VOk _ _ _ _ _
      refine vseq ?_
      apply vrp
      · apply VE.cons
        · exact ev_loada rfl (gn rfl) rfl rfl Tryd.underlying29 rfl Tryd.sizeOf29 rfl
        simp only [nm, seval]
        apply VE.cons
        · exact ev_move rfl (gn rfl)
        simp only [nm, seval]
        apply VE.cons
        · first | exact ev_store rfl (gn rfl) rfl rfl rfl Tryd.sizeOf29 rfl (by simp) rfl | exact ev_storeR (vl := [.fn (cellV 0) (.d 67), .fn (cellV 1) (.d 67), .fn (cellV 2) (.d 67)]) [13, 67] rfl (gn rfl) rfl rfl rfl Tryd.sizeOf29 rfl (fun ρ S w' _ hR => by obtain ⟨c, h1, h2⟩ := datN_get (id := 67) hR (by simp) rfl; have hf := fn3 h1 (DN_len h2); exact ⟨hf.1, hf.2 ▸ DN_one h2⟩) rfl (by simp) | exact ev_storeR (vl := [.v (.int .i64 (tg : Nat)), .v (.slice none 0 0), .d 900]) [4, 900] rfl (gn rfl) rfl rfl rfl Tryd.sizeOf29 rfl (fun ρ S w' _ hR => ⟨agg_cells _, by have hh := row_cells (id := 900) hR (by simp) rfl; simp only [SV.cs, SV.c, List.all_cons, List.all_nil, hh.2]; rfl⟩) rfl (by simp)
        simp only [nm, seval]
        apply VE.cons
        · exact ev_assign rfl (gn rfl)
        simp only [nm, seval]
        apply VE.cons
        · exact ev_assign rfl (gn rfl)
        simp only [nm, seval]
        exact VE.nil _
      · kernel_rfl
      change VOk _ _ _ _ _
      refine vret ?_
      refine post_ret (res3 Tryd.results39 (rv_cella rfl rfl Tryd.underlying29 rfl Tryd.sizeOf29 rfl) (rv_tmp rfl) (rv_tmp rfl)) ?_
      intro ρ w' hr
      first | (subst hK0; exact ⟨_, rfl, node_none, hr.1⟩) | (subst hK1; refine ⟨_, rfl, ?_, hr.1⟩; have := node_kids (t := (tg : Int)) (ks := acc) (n := i) 900 hr hacc rfl; simpa [SV.c, SV.cs] using this)
    · refine vcond_t rfl ?_
      obtain ⟨m, rfl⟩ : ∃ j, m = j + 1 := ⟨m - 1, by have := of_decide_eq_true h_q; omega⟩
      have hfit := read_fits f' l hl8 hl6
      obtain ⟨q2, h_q2⟩ : ∃ q, (readF f' l).2.2 = q := ⟨_, rfl⟩
      obtain ⟨q3, h_q3⟩ : ∃ q, decide (i = 20) = q := ⟨_, rfl⟩
      have h_q3' := (nat_eq i 20).trans h_q3
      cases q2 <;> cases q3 <;>
      (
        refine vskip ?_
        change VOk _ _ _ _ _
        refine vblock ?_
        refine vseq ?_
        apply vrp
        · apply VE.cons
          · exact ev_alloc rfl rfl (gn rfl) Tryd.zeroValue29
          simp only [nm, seval]
          exact VE.nil _
        · kernel_rfl
        change VOk _ _ _ _ _
        refine vseq ?_
        apply vrp
        · apply VE.cons
          · exact ev_assign rfl (gn rfl)
          simp only [nm, seval]
          exact VE.nil _
        · kernel_rfl
        change VOk _ _ _ _ _
        refine vseq ?_
        apply vrp
        · apply VE.cons
          · exact ev_move rfl (gn rfl)
          simp only [nm, seval]
          apply VE.cons
          · exact ev_move rfl (gn rfl)
          simp only [nm, seval]
          apply VE.cons
          · exact ev_add (c := ((d + 1 : Nat) : Int)) rfl (gn rfl) rfl rfl (by rw [i64w (by omega) (by omega)]; omega)
          simp only [nm, seval]
          apply VE.cons
          · first | exact ev_calldt (D := datN (readF f' l).1) (ys := [rdV f' v' l, .bool true]) [] rfl rfl (gn rfl) rfl (en_of Tryd.func39 (by kernel_rfl) rfl) (fun ρ S w' hb _ => by have := hih _ _ _ (d + 1) w' (by omega) (sl_bw hv' hb) hl8 hl6; rw [h_q2] at this; exact this) | exact ev_calldt (D := datN (readF f' l).1) (ys := [rdV f' v' l, .bool false]) [] rfl rfl (gn rfl) rfl (en_of Tryd.func39 (by kernel_rfl) rfl) (fun ρ S w' hb _ => by have := hih _ _ _ (d + 1) w' (by omega) (sl_bw hv' hb) hl8 hl6; rw [h_q2] at this; exact this)
          simp only [nm, seval]
          apply VE.cons
          · exact ev_move rfl (gn rfl)
          simp only [nm, seval]
          apply VE.cons
          · first | exact ev_extract rfl (gn rfl) rfl rfl | exact ev_extractt rfl (gn rfl) rfl rfl
          simp only [nm, seval]
          apply VE.cons
          · first | exact ev_extract rfl (gn rfl) rfl rfl | exact ev_extractt rfl (gn rfl) rfl rfl
          simp only [nm, seval]
          apply VE.cons
          · first | exact ev_extract rfl (gn rfl) rfl rfl | exact ev_extractt rfl (gn rfl) rfl rfl
          simp only [nm, seval]
          apply VE.cons
          · first | exact ev_store rfl (gn rfl) rfl rfl rfl Tryd.sizeOf29 rfl (by simp) rfl | exact ev_storeR (vl := [.fn (cellV 0) (.d 67), .fn (cellV 1) (.d 67), .fn (cellV 2) (.d 67)]) [13, 67] rfl (gn rfl) rfl rfl rfl Tryd.sizeOf29 rfl (fun ρ S w' _ hR => by obtain ⟨c, h1, h2⟩ := datN_get (id := 67) hR (by simp) rfl; have hf := fn3 h1 (DN_len h2); exact ⟨hf.1, hf.2 ▸ DN_one h2⟩) rfl (by simp) | exact ev_storeR (vl := [.v (.int .i64 (tg : Nat)), .v (.slice none 0 0), .d 900]) [4, 900] rfl (gn rfl) rfl rfl rfl Tryd.sizeOf29 rfl (fun ρ S w' _ hR => ⟨agg_cells _, by have hh := row_cells (id := 900) hR (by simp) rfl; simp only [SV.cs, SV.c, List.all_cons, List.all_nil, hh.2]; rfl⟩) rfl (by simp)
          simp only [nm, seval]
          apply VE.cons
          · exact ev_assign rfl (gn rfl)
          simp only [nm, seval]
          apply VE.cons
          · exact ev_assign rfl (gn rfl)
          simp only [nm, seval]
          exact VE.nil _
        · kernel_rfl
        change VOk _ _ _ _ _
        refine vseq ?_
        refine vseq ?_
        apply vrp
        · apply VE.cons
          · exact ev_move rfl (gn rfl)
          simp only [nm, seval]
          apply VE.cons
          · exact ev_not rfl (gn rfl) rfl
          simp only [nm, seval]
          apply VE.cons
          · exact ev_move rfl (gn rfl)
          simp only [nm, seval]
          apply VE.cons
          · first | exact Ev.skip (fun _ => rfl) | exact ev_field rfl (fun _ => rfl) rfl Tryd.underlying29 rfl Tryd.sizeOf27 | exact ev_fieldx rfl (fun _ => rfl) rfl Tryd.underlying29 rfl Tryd.sizeOf27
          simp only [nm, seval]
          apply VE.cons
          · first | exact Ev.skip (fun _ => rfl) | exact ev_load1 rfl (fun _ => rfl) rfl rfl Tryd.underlying27 rfl rfl | exact ev_loadx1 rfl (fun _ => rfl) rfl Tryd.underlying27 rfl (by assumption)
          simp only [nm, seval]
          apply VE.cons
          · first | exact Ev.skip (fun _ => rfl) | exact ev_lenrow rfl (fun _ => rfl) rfl rfl Tryd.underlying27
          simp only [nm, seval]
          apply VE.cons
          · first | exact Ev.skip (fun _ => rfl) | exact ev_eql rfl (fun _ => rfl) rfl rfl h_q3'
          simp only [nm, seval]
          apply VE.cons
          · first | exact ev_pick_t rfl (gn rfl) rfl rfl | exact ev_pick_f rfl (gn rfl) rfl rfl
          simp only [nm, seval]
          exact VE.nil _
        · kernel_rfl
        change VOk _ _ _ _ _
        first
        | (
            refine vcond_t rfl ?_
            have hK0 : K = none := by rw [← hgo, kidsF_step (of_decide_eq_true h_q), h_q2, hacc, h_q3]; rfl
            refine vseq ?_
            apply vrp
            · apply VE.cons
              · exact ev_build (cells := #[.int .i64 0, .slice none 0 0, .slice none 0 0]) rfl (gn rfl) rfl built29_0
              simp only [nm, seval]
              apply VE.cons
              · first | exact ev_store rfl (gn rfl) rfl rfl rfl Tryd.sizeOf29 rfl (by simp) rfl | exact ev_storeR (vl := [.fn (cellV 0) (.d 67), .fn (cellV 1) (.d 67), .fn (cellV 2) (.d 67)]) [13, 67] rfl (gn rfl) rfl rfl rfl Tryd.sizeOf29 rfl (fun ρ S w' _ hR => by obtain ⟨c, h1, h2⟩ := datN_get (id := 67) hR (by simp) rfl; have hf := fn3 h1 (DN_len h2); exact ⟨hf.1, hf.2 ▸ DN_one h2⟩) rfl (by simp) | exact ev_storeR (vl := [.v (.int .i64 (tg : Nat)), .v (.slice none 0 0), .d 900]) [4, 900] rfl (gn rfl) rfl rfl rfl Tryd.sizeOf29 rfl (fun ρ S w' _ hR => ⟨agg_cells _, by have hh := row_cells (id := 900) hR (by simp) rfl; simp only [SV.cs, SV.c, List.all_cons, List.all_nil, hh.2]; rfl⟩) rfl (by simp)
              simp only [nm, seval]
              apply VE.cons
              · exact ev_assign rfl (gn rfl)
              simp only [nm, seval]
              apply VE.cons
              · exact ev_assign rfl (gn rfl)
              simp only [nm, seval]
              exact VE.nil _
            · kernel_rfl
            change VOk _ _ _ _ _
            refine vret ?_
            refine post_ret (res3 Tryd.results39 (rv_cella rfl rfl Tryd.underlying29 rfl Tryd.sizeOf29 rfl) (rv_tmp rfl) (rv_tmp rfl)) ?_
            intro ρ w' hr
            first | (subst hK0; exact ⟨_, rfl, node_none, hr.1⟩) | (subst hK1; refine ⟨_, rfl, ?_, hr.1⟩; have := node_kids (t := (tg : Int)) (ks := acc) (n := i) 900 hr hacc rfl; simpa [SV.c, SV.cs] using this)
          )
        | (
            refine vcond_f rfl ?_
            refine vskip ?_
            change VOk _ _ _ _ _
            apply vrp
            · apply VE.cons
              · first | exact ev_field rfl (gn rfl) rfl Tryd.underlying29 rfl Tryd.sizeOf27 | exact ev_fieldx rfl (gn rfl) rfl Tryd.underlying29 rfl Tryd.sizeOf27
              simp only [nm, seval]
              apply VE.cons
              · first | exact ev_load1 rfl (gn rfl) rfl rfl Tryd.underlying27 rfl rfl | exact ev_loadx1 rfl (gn rfl) rfl Tryd.underlying27 rfl (by assumption)
              simp only [nm, seval]
              apply VE.cons
              · exact ev_loada rfl (gn rfl) rfl rfl Tryd.underlying29 rfl Tryd.sizeOf29 rfl
              simp only [nm, seval]
              apply VE.cons
              · exact ev_buildsl1 (n := 3) (l := [.fn (cellV 0) (.d 67), .fn (cellV 1) (.d 67), .fn (cellV 2) (.d 67)]) [67] rfl rfl (gn rfl) rfl (fun ρ S w' hR => agg_cells _) rfl rfl bs29
              simp only [nm, seval]
              apply VE.cons
              · exact ev_appendD (id := 900) (ys := 83) (n := i) (k := 1) (k' := 1) (size := 3) (datNs (acc ++ [(readF f' l).1])) [900, 83, 67] rfl rfl (gn rfl) rfl rfl rfl rfl rfl (Nat.le_refl _) Tryd.underlying27 el29 (by decide) (by simp only [maxLen]; omega) (by omega) (by simp) (by simp) (fun ρ S w' hR => by obtain ⟨c, h1, h2⟩ := datN_get (id := 67) hR (by simp) rfl; exact (fn3 h1 (DN_len h2)).2 ▸ DN_one h2) (fun ρ S w' xs hb hR hxs => by obtain ⟨c, h1, h2⟩ := datN_get (id := 67) hR (by simp) rfl; rw [(fn3 h1 (DN_len h2)).2]; exact DNs_snoc (DN_sub (fun k hk => ⟨67, by simp, rfl, hk⟩) h2) (DNs_sub (fun k hk => ⟨900, by simp, rfl, hk⟩) hxs))
              simp only [nm, seval]
              apply VE.cons
              · first | exact ev_field rfl (gn rfl) rfl Tryd.underlying29 rfl Tryd.sizeOf27 | exact ev_fieldx rfl (gn rfl) rfl Tryd.underlying29 rfl Tryd.sizeOf27
              simp only [nm, seval]
              apply VE.cons
              · exact ev_storeR (vl := [.d 84]) [12, 84] rfl (gn rfl) rfl rfl rfl Tryd.sizeOf27 rfl (fun ρ S w' _ hR => by have hh := row_cells (id := 84) hR (by simp) rfl; exact ⟨hh.1, by simp [SV.cs, SV.c, hh.2]⟩) rfl (by simp)
              simp only [nm, seval]
              exact VE.nil _
            · kernel_rfl
            refine ⟨⟨(i + 1, (m, (readF f' l).2.1), rdV f' v' l, acc ++ [(readF f' l).1]), by simp [hacc], by show i + 1 ≤ 20; have := of_decide_eq_false h_q3; omega, by show (readF f' l).2.1.length ≤ m; have := (hfit.2.2.1 h_q2).2; omega, by show (readF f' l).2.1.length ≤ 1048576; have := (hfit.2.2.1 h_q2).2; omega, fun y hy => hl8 y (hfit.2.2.2 y hy), rdV_sl f' hv', ?_⟩, by show m < m + 1; omega, ?_⟩
            · show kidsF (readF f') m (readF f' l).2.1 (acc ++ [(readF f' l).1]) = K
              rw [kidsF_step (of_decide_eq_true h_q), h_q2, hacc, h_q3] at hgo
              exact hgo
            exact (weaker_forget (fun i => i == 1 || i == 4 || i == 7 || i == 10 || i == 11 || i == 12) [83, 13, 67]).trans2 (fun f => weaker_ren 84 900 (by decide) rfl)
          )
      )
  · refine (weaker_forget (fun i => i == 1 || i == 4 || i == 7 || i == 10 || i == 11 || i == 12) []).trans2 (fun f => ?_)
    refine (weaker_name 900 3 29 (datNs []) (fun w => by trivial) (m' := [(12, .cells [.v (.int .i64 (tg : Nat)), .v (.slice none 0 0), .d 900] 29), (4, .cells [.v (.int .i64 0), .v (.slice none 0 0), .v (.slice none 0 0)] 29)]) rfl rfl (fun ρ _ => rfl) (fun ρ hv => ?_))
    simp [memSim, memDel, Blk.sim, SV.cs, SV.c, hv, nilV]
theorem head_small {b : List Nat} (h8 : ∀ x ∈ b, x < 256) : (headN b).2.1 < 65536 ∧ (headN b).2.2 ≤ 4 ∧ (headN b).1 < 256 := by
  obtain ⟨⟨tg, n, k⟩, hh⟩ : ∃ z, headN b = z := ⟨_, rfl⟩
  by_cases hk : k = 0
  · subst hk
    have : headN b = (0, 0, 0) := by
      unfold headN at hh ⊢
      split at hh
      · rename_i t c r
        cases h1 : decide (c < 128) <;> cases h2 : (decide (c = 129) && decide (1 ≤ r.length)) <;> cases h3 : (decide (c = 130) && decide (2 ≤ r.length)) <;> rw [h1, h2, h3] at hh <;> cases h4 : decide (r.getD 0 0 < 128) <;> cases h5 : decide (r.getD 0 0 * 256 + r.getD 1 0 < 256) <;> (try rw [h4] at hh) <;> (try rw [h5] at hh) <;> simp at hh ⊢
      · rfl
    rw [this]; decide
  · obtain ⟨h1, h2, _, h3⟩ := head_is h8 hh hk
    have : (countD n).length ≤ 3 := countD_short h1
    rw [hh]
    exact ⟨h1, by show k ≤ 4; omega, h2⟩
theorem read_ok : ∀ f, ReadOK f
  | 0 => fun v b S d w hd hv h8 hbl => by
    obtain ⟨g1, g2, g3⟩ := head_small h8
    obtain ⟨⟨tg, n, k⟩, hh⟩ : ∃ z, headN b = z := ⟨_, rfl⟩
    rw [hh] at g1 g2 g3
    have hb6 : n < 65536 ∧ k ≤ 4 ∧ tg < 256 ∧ d ≤ 9 := ⟨g1, g2, g3, by omega⟩
    simp only [rdV, readF]
    by_cases hk : k = 0
    · exact read_fa w hv h8 hbl hh hb6 hk
    · by_cases hn : n + k > b.length
      · exact read_fb w hv h8 hbl hh hb6 hk hn
      · exact read_fc w hv h8 hbl hh hb6 hk (by omega) (by omega)
  | f + 1 => fun v b S d w hd hv h8 hbl => by
    obtain ⟨g1, g2, g3⟩ := head_small h8
    obtain ⟨⟨tg, n, k⟩, hh⟩ : ∃ z, headN b = z := ⟨_, rfl⟩
    rw [hh] at g1 g2 g3
    have hb6 : n < 65536 ∧ k ≤ 4 ∧ tg < 256 ∧ d ≤ 9 := ⟨g1, g2, g3, by omega⟩
    simp only [rdV, readF, hh]
    by_cases hk : k = 0
    · rw [decide_eq_true hk]; exact read_fa w hv h8 hbl hh hb6 hk
    · rw [decide_eq_false hk]
      by_cases hn : n + k > b.length
      · rw [decide_eq_true hn]; exact read_fb w hv h8 hbl hh hb6 hk hn
      · rw [decide_eq_false hn]
        simp only [Bool.or_self, cond_false]
        cases hm : madeT tg with
        | false => exact read_leaf w hv h8 hbl hh hb6 hk (by omega) (by omega) hm
        | true =>
          obtain ⟨K, hK⟩ : ∃ K, kidsF (readF f) n ((b.drop k).take n) [] = K := ⟨_, rfl⟩
          have := read_node w hv h8 hbl hh hb6 hk (by omega) (by omega) hm (read_ok f) (by omega) hK
          simp only [Bool.not_true, cond_false]
          rw [hK]
          cases K <;> exact this
theorem Read_big {v : Value} {b : List Nat} {S : Nat → Prop} (w : World) (hv : SlAt w v b.length 1 (b.map b8) S) (h8 : ∀ x ∈ b, x < 256) (hbl : b.length ≤ 1048576) (hl : b.length > 2048) : Calls Tryd.prog 28 #[v] w fun e w' => ∃ v', e = .returned (.tuple #[v', .int .i64 4]) ∧ RetD w w' v' (datN (noT)) ∧ Bw w w' := by
  go_enter Tryd.func28, Tryd.ntmps28
  refine ve_go ?_
  simp only [List.map_cons, List.map_nil]
  refine vseq ?_
  apply vrp
  · apply VE.cons
    · exact ev_alloc rfl rfl (gn rfl) Tryd.zeroValue29
    simp only [nm, seval]
    apply VE.cons
    · exact ev_assign rfl (gn rfl)
    simp only [nm, seval]
    exact VE.nil _
  · kernel_rfl
  change VOk _ _ _ _ _
  refine vseq ?_
  refine vseq ?_
  apply vrp
  · apply VE.cons
    · exact ev_move rfl (gn rfl)
    simp only [nm, seval]
    apply VE.cons
    · exact ev_len rfl (gn rfl) rfl Tryd.underlying26 (rdg_arg hv)
    simp only [nm, seval]
    apply VE.cons
    · exact ev_gtr (p := true) rfl (gn rfl) rfl rfl (decide_eq_true (by omega))
    simp only [nm, seval]
    exact VE.nil _
  · kernel_rfl
  change VOk _ _ _ _ _
  refine vcond_t rfl ?_
  refine vseq ?_
  apply vrp
  · apply VE.cons
    · exact ev_build (cells := #[.int .i64 0, .slice none 0 0, .slice none 0 0]) rfl (gn rfl) rfl built29_0
    simp only [nm, seval]
    apply VE.cons
    · exact ev_store rfl (gn rfl) rfl rfl rfl Tryd.sizeOf29 rfl (by simp) rfl
    simp only [nm, seval]
    apply VE.cons
    · exact ev_assign rfl (gn rfl)
    simp only [nm, seval]
    exact VE.nil _
  · kernel_rfl
  change VOk _ _ _ _ _
  refine vret ?_
  refine post_ret (res2 Tryd.results28 (rv_cella rfl rfl Tryd.underlying29 rfl Tryd.sizeOf29 rfl) (rv_tmp rfl)) ?_
  intro ρ w' hr
  refine ⟨_, rfl, ?_, hr.1⟩
  exact node_none
theorem Read_n {v : Value} {b : List Nat} {S : Nat → Prop} (w : World) (hv : SlAt w v b.length 1 (b.map b8) S) (h8 : ∀ x ∈ b, x < 256) (hbl : b.length ≤ 1048576) {t : Tr} {r : List Nat} (hl : b.length ≤ 2048) (hz : readF 8 b = (t, r, false))  : Calls Tryd.prog 28 #[v] w fun e w' => ∃ v', e = .returned (.tuple #[v', .int .i64 2]) ∧ RetD w w' v' (datN (noT)) ∧ Bw w w' := by
  have hrs := rdV_sl 8 hv
  rw [hz] at hrs
  go_enter Tryd.func28, Tryd.ntmps28
  refine ve_go ?_
  simp only [List.map_cons, List.map_nil]
  refine vseq ?_
  apply vrp
  · apply VE.cons
    · exact ev_alloc rfl rfl (gn rfl) Tryd.zeroValue29
    simp only [nm, seval]
    apply VE.cons
    · exact ev_assign rfl (gn rfl)
    simp only [nm, seval]
    exact VE.nil _
  · kernel_rfl
  change VOk _ _ _ _ _
  refine vseq ?_
  refine vseq ?_
  apply vrp
  · apply VE.cons
    · exact ev_move rfl (gn rfl)
    simp only [nm, seval]
    apply VE.cons
    · exact ev_len rfl (gn rfl) rfl Tryd.underlying26 (rdg_arg hv)
    simp only [nm, seval]
    apply VE.cons
    · exact ev_gtr (p := false) rfl (gn rfl) rfl rfl (decide_eq_false (by omega))
    simp only [nm, seval]
    exact VE.nil _
  · kernel_rfl
  change VOk _ _ _ _ _
  refine vcond_f rfl ?_
  refine vskip ?_
  change VOk _ _ _ _ _
  refine vseq ?_
  apply vrp
  · apply VE.cons
    · exact ev_move rfl (gn rfl)
    simp only [nm, seval]
    apply VE.cons
    · exact ev_calldt (D := datN t) (ys := [rdV 8 v b, .bool false]) [] rfl rfl (gn rfl) rfl (en_of Tryd.func39 (by kernel_rfl) rfl) (fun ρ S w' hb _ => by have := read_ok 8 _ _ _ 1 w' rfl (sl_bw hv hb) h8 hbl; rw [hz] at this; exact this)
    simp only [nm, seval]
    apply VE.cons
    · exact ev_move rfl (gn rfl)
    simp only [nm, seval]
    apply VE.cons
    · first | exact ev_extract rfl (gn rfl) rfl rfl | exact ev_extractt rfl (gn rfl) rfl rfl
    simp only [nm, seval]
    apply VE.cons
    · first | exact ev_extract rfl (gn rfl) rfl rfl | exact ev_extractt rfl (gn rfl) rfl rfl
    simp only [nm, seval]
    apply VE.cons
    · first | exact ev_extract rfl (gn rfl) rfl rfl | exact ev_extractt rfl (gn rfl) rfl rfl
    simp only [nm, seval]
    apply VE.cons
    · exact ev_alloc rfl rfl (gn rfl) Tryd.zeroValue29
    simp only [nm, seval]
    apply VE.cons
    · first | exact ev_store rfl (gn rfl) rfl rfl rfl Tryd.sizeOf29 rfl (by simp) rfl | exact ev_storeR (vl := [.fn (cellV 0) (.d 13), .fn (cellV 1) (.d 13), .fn (cellV 2) (.d 13)]) [4, 13] rfl (gn rfl) rfl rfl rfl Tryd.sizeOf29 rfl (fun ρ S w' _ hR => by obtain ⟨c, h1, h2⟩ := datN_get (id := 13) hR (by simp) rfl; have hf := fn3 h1 (DN_len h2); exact ⟨hf.1, hf.2 ▸ DN_one h2⟩) rfl (by simp) | exact ev_storeR (vl := [.fn (cellV 0) (.d 13), .fn (cellV 1) (.d 13), .fn (cellV 2) (.d 13)]) [2, 13] rfl (gn rfl) rfl rfl rfl Tryd.sizeOf29 rfl (fun ρ S w' _ hR => by obtain ⟨c, h1, h2⟩ := datN_get (id := 13) hR (by simp) rfl; have hf := fn3 h1 (DN_len h2); exact ⟨agg_cells _, hf.2 ▸ DN_one h2⟩) rfl (by simp)
    simp only [nm, seval]
    apply VE.cons
    · exact ev_assign rfl (gn rfl)
    simp only [nm, seval]
    apply VE.cons
    · exact ev_assign rfl (gn rfl)
    simp only [nm, seval]
    exact VE.nil _
  · kernel_rfl
  change VOk _ _ _ _ _
  refine vseq ?_
  refine vseq ?_
  apply vrp
  · apply VE.cons
    · exact ev_move rfl (gn rfl)
    simp only [nm, seval]
    apply VE.cons
    · exact ev_not rfl (gn rfl) rfl
    simp only [nm, seval]
    apply VE.cons
    · exact ev_move rfl (gn rfl)
    simp only [nm, seval]
    apply VE.cons
    · first | exact Ev.skip (fun _ => rfl) | exact ev_move rfl (fun _ => rfl)
    simp only [nm, seval]
    apply VE.cons
    · first | exact Ev.skip (fun _ => rfl) | exact ev_len rfl (fun _ => rfl) rfl Tryd.underlying26 (rdg_arg hrs)
    simp only [nm, seval]
    apply VE.cons
    · first | exact Ev.skip (fun _ => rfl) | refine ev_pure' (fun _ => rfl) (fun ρ w => by simp only [VS.act, SV.c, List.map_cons, List.map_nil]; go_simp; exact rfl) (fun _ _ => rfl)
    simp only [nm, seval]
    apply VE.cons
    · first | exact ev_pick_t rfl (gn rfl) rfl rfl | exact ev_pick_f rfl (gn rfl) rfl rfl
    simp only [nm, seval]
    exact VE.nil _
  · kernel_rfl
  change VOk _ _ _ _ _
  refine vcond_t rfl ?_
  refine vseq ?_
  apply vrp
  · apply VE.cons
    · exact ev_build (cells := #[.int .i64 0, .slice none 0 0, .slice none 0 0]) rfl (gn rfl) rfl built29_0
    simp only [nm, seval]
    apply VE.cons
    · first | exact ev_store rfl (gn rfl) rfl rfl rfl Tryd.sizeOf29 rfl (by simp) rfl | exact ev_storeR (vl := [.fn (cellV 0) (.d 13), .fn (cellV 1) (.d 13), .fn (cellV 2) (.d 13)]) [4, 13] rfl (gn rfl) rfl rfl rfl Tryd.sizeOf29 rfl (fun ρ S w' _ hR => by obtain ⟨c, h1, h2⟩ := datN_get (id := 13) hR (by simp) rfl; have hf := fn3 h1 (DN_len h2); exact ⟨hf.1, hf.2 ▸ DN_one h2⟩) rfl (by simp) | exact ev_storeR (vl := [.fn (cellV 0) (.d 13), .fn (cellV 1) (.d 13), .fn (cellV 2) (.d 13)]) [2, 13] rfl (gn rfl) rfl rfl rfl Tryd.sizeOf29 rfl (fun ρ S w' _ hR => by obtain ⟨c, h1, h2⟩ := datN_get (id := 13) hR (by simp) rfl; have hf := fn3 h1 (DN_len h2); exact ⟨agg_cells _, hf.2 ▸ DN_one h2⟩) rfl (by simp)
    simp only [nm, seval]
    apply VE.cons
    · exact ev_assign rfl (gn rfl)
    simp only [nm, seval]
    exact VE.nil _
  · kernel_rfl
  change VOk _ _ _ _ _
  refine vret ?_
  refine post_ret (res2 Tryd.results28 (rv_cella rfl rfl Tryd.underlying29 rfl Tryd.sizeOf29 rfl) (rv_tmp rfl)) ?_
  intro ρ w' hr
  refine ⟨_, rfl, ?_, hr.1⟩
  exact node_none
theorem Read_r {v : Value} {b : List Nat} {S : Nat → Prop} (w : World) (hv : SlAt w v b.length 1 (b.map b8) S) (h8 : ∀ x ∈ b, x < 256) (hbl : b.length ≤ 1048576) {t : Tr} {r : List Nat} (hl : b.length ≤ 2048) (hz : readF 8 b = (t, r, true)) (hr0 : r.length > 0) : Calls Tryd.prog 28 #[v] w fun e w' => ∃ v', e = .returned (.tuple #[v', .int .i64 2]) ∧ RetD w w' v' (datN (noT)) ∧ Bw w w' := by
  have hrs := rdV_sl 8 hv
  rw [hz] at hrs
  go_enter Tryd.func28, Tryd.ntmps28
  refine ve_go ?_
  simp only [List.map_cons, List.map_nil]
  refine vseq ?_
  apply vrp
  · apply VE.cons
    · exact ev_alloc rfl rfl (gn rfl) Tryd.zeroValue29
    simp only [nm, seval]
    apply VE.cons
    · exact ev_assign rfl (gn rfl)
    simp only [nm, seval]
    exact VE.nil _
  · kernel_rfl
  change VOk _ _ _ _ _
  refine vseq ?_
  refine vseq ?_
  apply vrp
  · apply VE.cons
    · exact ev_move rfl (gn rfl)
    simp only [nm, seval]
    apply VE.cons
    · exact ev_len rfl (gn rfl) rfl Tryd.underlying26 (rdg_arg hv)
    simp only [nm, seval]
    apply VE.cons
    · exact ev_gtr (p := false) rfl (gn rfl) rfl rfl (decide_eq_false (by omega))
    simp only [nm, seval]
    exact VE.nil _
  · kernel_rfl
  change VOk _ _ _ _ _
  refine vcond_f rfl ?_
  refine vskip ?_
  change VOk _ _ _ _ _
  refine vseq ?_
  apply vrp
  · apply VE.cons
    · exact ev_move rfl (gn rfl)
    simp only [nm, seval]
    apply VE.cons
    · exact ev_calldt (D := datN t) (ys := [rdV 8 v b, .bool true]) [] rfl rfl (gn rfl) rfl (en_of Tryd.func39 (by kernel_rfl) rfl) (fun ρ S w' hb _ => by have := read_ok 8 _ _ _ 1 w' rfl (sl_bw hv hb) h8 hbl; rw [hz] at this; exact this)
    simp only [nm, seval]
    apply VE.cons
    · exact ev_move rfl (gn rfl)
    simp only [nm, seval]
    apply VE.cons
    · first | exact ev_extract rfl (gn rfl) rfl rfl | exact ev_extractt rfl (gn rfl) rfl rfl
    simp only [nm, seval]
    apply VE.cons
    · first | exact ev_extract rfl (gn rfl) rfl rfl | exact ev_extractt rfl (gn rfl) rfl rfl
    simp only [nm, seval]
    apply VE.cons
    · first | exact ev_extract rfl (gn rfl) rfl rfl | exact ev_extractt rfl (gn rfl) rfl rfl
    simp only [nm, seval]
    apply VE.cons
    · exact ev_alloc rfl rfl (gn rfl) Tryd.zeroValue29
    simp only [nm, seval]
    apply VE.cons
    · first | exact ev_store rfl (gn rfl) rfl rfl rfl Tryd.sizeOf29 rfl (by simp) rfl | exact ev_storeR (vl := [.fn (cellV 0) (.d 13), .fn (cellV 1) (.d 13), .fn (cellV 2) (.d 13)]) [4, 13] rfl (gn rfl) rfl rfl rfl Tryd.sizeOf29 rfl (fun ρ S w' _ hR => by obtain ⟨c, h1, h2⟩ := datN_get (id := 13) hR (by simp) rfl; have hf := fn3 h1 (DN_len h2); exact ⟨hf.1, hf.2 ▸ DN_one h2⟩) rfl (by simp) | exact ev_storeR (vl := [.fn (cellV 0) (.d 13), .fn (cellV 1) (.d 13), .fn (cellV 2) (.d 13)]) [2, 13] rfl (gn rfl) rfl rfl rfl Tryd.sizeOf29 rfl (fun ρ S w' _ hR => by obtain ⟨c, h1, h2⟩ := datN_get (id := 13) hR (by simp) rfl; have hf := fn3 h1 (DN_len h2); exact ⟨agg_cells _, hf.2 ▸ DN_one h2⟩) rfl (by simp)
    simp only [nm, seval]
    apply VE.cons
    · exact ev_assign rfl (gn rfl)
    simp only [nm, seval]
    apply VE.cons
    · exact ev_assign rfl (gn rfl)
    simp only [nm, seval]
    exact VE.nil _
  · kernel_rfl
  change VOk _ _ _ _ _
  refine vseq ?_
  refine vseq ?_
  apply vrp
  · apply VE.cons
    · exact ev_move rfl (gn rfl)
    simp only [nm, seval]
    apply VE.cons
    · exact ev_not rfl (gn rfl) rfl
    simp only [nm, seval]
    apply VE.cons
    · exact ev_move rfl (gn rfl)
    simp only [nm, seval]
    apply VE.cons
    · first | exact Ev.skip (fun _ => rfl) | exact ev_move rfl (fun _ => rfl)
    simp only [nm, seval]
    apply VE.cons
    · first | exact Ev.skip (fun _ => rfl) | exact ev_len rfl (fun _ => rfl) rfl Tryd.underlying26 (rdg_arg hrs)
    simp only [nm, seval]
    apply VE.cons
    · first | exact Ev.skip (fun _ => rfl) | exact ev_gtr (p := true) rfl (fun _ => rfl) rfl rfl (decide_eq_true (by omega))
    simp only [nm, seval]
    apply VE.cons
    · first | exact ev_pick_t rfl (gn rfl) rfl rfl | exact ev_pick_f rfl (gn rfl) rfl rfl
    simp only [nm, seval]
    exact VE.nil _
  · kernel_rfl
  change VOk _ _ _ _ _
  refine vcond_t rfl ?_
  refine vseq ?_
  apply vrp
  · apply VE.cons
    · exact ev_build (cells := #[.int .i64 0, .slice none 0 0, .slice none 0 0]) rfl (gn rfl) rfl built29_0
    simp only [nm, seval]
    apply VE.cons
    · first | exact ev_store rfl (gn rfl) rfl rfl rfl Tryd.sizeOf29 rfl (by simp) rfl | exact ev_storeR (vl := [.fn (cellV 0) (.d 13), .fn (cellV 1) (.d 13), .fn (cellV 2) (.d 13)]) [4, 13] rfl (gn rfl) rfl rfl rfl Tryd.sizeOf29 rfl (fun ρ S w' _ hR => by obtain ⟨c, h1, h2⟩ := datN_get (id := 13) hR (by simp) rfl; have hf := fn3 h1 (DN_len h2); exact ⟨hf.1, hf.2 ▸ DN_one h2⟩) rfl (by simp) | exact ev_storeR (vl := [.fn (cellV 0) (.d 13), .fn (cellV 1) (.d 13), .fn (cellV 2) (.d 13)]) [2, 13] rfl (gn rfl) rfl rfl rfl Tryd.sizeOf29 rfl (fun ρ S w' _ hR => by obtain ⟨c, h1, h2⟩ := datN_get (id := 13) hR (by simp) rfl; have hf := fn3 h1 (DN_len h2); exact ⟨agg_cells _, hf.2 ▸ DN_one h2⟩) rfl (by simp)
    simp only [nm, seval]
    apply VE.cons
    · exact ev_assign rfl (gn rfl)
    simp only [nm, seval]
    exact VE.nil _
  · kernel_rfl
  change VOk _ _ _ _ _
  refine vret ?_
  refine post_ret (res2 Tryd.results28 (rv_cella rfl rfl Tryd.underlying29 rfl Tryd.sizeOf29 rfl) (rv_tmp rfl)) ?_
  intro ρ w' hr
  refine ⟨_, rfl, ?_, hr.1⟩
  exact node_none
theorem Read_s {v : Value} {b : List Nat} {S : Nat → Prop} (w : World) (hv : SlAt w v b.length 1 (b.map b8) S) (h8 : ∀ x ∈ b, x < 256) (hbl : b.length ≤ 1048576) {t : Tr} {r : List Nat} (hl : b.length ≤ 2048) (hz : readF 8 b = (t, r, true)) (hr0 : r.length = 0) : Calls Tryd.prog 28 #[v] w fun e w' => ∃ v', e = .returned (.tuple #[v', .int .i64 0]) ∧ RetD w w' v' (datN (t)) ∧ Bw w w' := by
  have hrs := rdV_sl 8 hv
  rw [hz] at hrs
  go_enter Tryd.func28, Tryd.ntmps28
  refine ve_go ?_
  simp only [List.map_cons, List.map_nil]
  refine vseq ?_
  apply vrp
  · apply VE.cons
    · exact ev_alloc rfl rfl (gn rfl) Tryd.zeroValue29
    simp only [nm, seval]
    apply VE.cons
    · exact ev_assign rfl (gn rfl)
    simp only [nm, seval]
    exact VE.nil _
  · kernel_rfl
  change VOk _ _ _ _ _
  refine vseq ?_
  refine vseq ?_
  apply vrp
  · apply VE.cons
    · exact ev_move rfl (gn rfl)
    simp only [nm, seval]
    apply VE.cons
    · exact ev_len rfl (gn rfl) rfl Tryd.underlying26 (rdg_arg hv)
    simp only [nm, seval]
    apply VE.cons
    · exact ev_gtr (p := false) rfl (gn rfl) rfl rfl (decide_eq_false (by omega))
    simp only [nm, seval]
    exact VE.nil _
  · kernel_rfl
  change VOk _ _ _ _ _
  refine vcond_f rfl ?_
  refine vskip ?_
  change VOk _ _ _ _ _
  refine vseq ?_
  apply vrp
  · apply VE.cons
    · exact ev_move rfl (gn rfl)
    simp only [nm, seval]
    apply VE.cons
    · exact ev_calldt (D := datN t) (ys := [rdV 8 v b, .bool true]) [] rfl rfl (gn rfl) rfl (en_of Tryd.func39 (by kernel_rfl) rfl) (fun ρ S w' hb _ => by have := read_ok 8 _ _ _ 1 w' rfl (sl_bw hv hb) h8 hbl; rw [hz] at this; exact this)
    simp only [nm, seval]
    apply VE.cons
    · exact ev_move rfl (gn rfl)
    simp only [nm, seval]
    apply VE.cons
    · first | exact ev_extract rfl (gn rfl) rfl rfl | exact ev_extractt rfl (gn rfl) rfl rfl
    simp only [nm, seval]
    apply VE.cons
    · first | exact ev_extract rfl (gn rfl) rfl rfl | exact ev_extractt rfl (gn rfl) rfl rfl
    simp only [nm, seval]
    apply VE.cons
    · first | exact ev_extract rfl (gn rfl) rfl rfl | exact ev_extractt rfl (gn rfl) rfl rfl
    simp only [nm, seval]
    apply VE.cons
    · exact ev_alloc rfl rfl (gn rfl) Tryd.zeroValue29
    simp only [nm, seval]
    apply VE.cons
    · first | exact ev_store rfl (gn rfl) rfl rfl rfl Tryd.sizeOf29 rfl (by simp) rfl | exact ev_storeR (vl := [.fn (cellV 0) (.d 13), .fn (cellV 1) (.d 13), .fn (cellV 2) (.d 13)]) [4, 13] rfl (gn rfl) rfl rfl rfl Tryd.sizeOf29 rfl (fun ρ S w' _ hR => by obtain ⟨c, h1, h2⟩ := datN_get (id := 13) hR (by simp) rfl; have hf := fn3 h1 (DN_len h2); exact ⟨hf.1, hf.2 ▸ DN_one h2⟩) rfl (by simp) | exact ev_storeR (vl := [.fn (cellV 0) (.d 13), .fn (cellV 1) (.d 13), .fn (cellV 2) (.d 13)]) [2, 13] rfl (gn rfl) rfl rfl rfl Tryd.sizeOf29 rfl (fun ρ S w' _ hR => by obtain ⟨c, h1, h2⟩ := datN_get (id := 13) hR (by simp) rfl; have hf := fn3 h1 (DN_len h2); exact ⟨agg_cells _, hf.2 ▸ DN_one h2⟩) rfl (by simp)
    simp only [nm, seval]
    apply VE.cons
    · exact ev_assign rfl (gn rfl)
    simp only [nm, seval]
    apply VE.cons
    · exact ev_assign rfl (gn rfl)
    simp only [nm, seval]
    exact VE.nil _
  · kernel_rfl
  change VOk _ _ _ _ _
  refine vseq ?_
  refine vseq ?_
  apply vrp
  · apply VE.cons
    · exact ev_move rfl (gn rfl)
    simp only [nm, seval]
    apply VE.cons
    · exact ev_not rfl (gn rfl) rfl
    simp only [nm, seval]
    apply VE.cons
    · exact ev_move rfl (gn rfl)
    simp only [nm, seval]
    apply VE.cons
    · first | exact Ev.skip (fun _ => rfl) | exact ev_move rfl (fun _ => rfl)
    simp only [nm, seval]
    apply VE.cons
    · first | exact Ev.skip (fun _ => rfl) | exact ev_len rfl (fun _ => rfl) rfl Tryd.underlying26 (rdg_arg hrs)
    simp only [nm, seval]
    apply VE.cons
    · first | exact Ev.skip (fun _ => rfl) | exact ev_gtr (p := false) rfl (fun _ => rfl) rfl rfl (decide_eq_false (by omega))
    simp only [nm, seval]
    apply VE.cons
    · first | exact ev_pick_t rfl (gn rfl) rfl rfl | exact ev_pick_f rfl (gn rfl) rfl rfl
    simp only [nm, seval]
    exact VE.nil _
  · kernel_rfl
  change VOk _ _ _ _ _
  refine vcond_f rfl ?_
  refine vskip ?_
  change VOk _ _ _ _ _
  refine vseq ?_
  apply vrp
  · apply VE.cons
    · exact ev_loada rfl (gn rfl) rfl rfl Tryd.underlying29 rfl Tryd.sizeOf29 rfl
    simp only [nm, seval]
    apply VE.cons
    · first | exact ev_store rfl (gn rfl) rfl rfl rfl Tryd.sizeOf29 rfl (by simp) rfl | exact ev_storeR (vl := [.fn (cellV 0) (.d 13), .fn (cellV 1) (.d 13), .fn (cellV 2) (.d 13)]) [4, 13] rfl (gn rfl) rfl rfl rfl Tryd.sizeOf29 rfl (fun ρ S w' _ hR => by obtain ⟨c, h1, h2⟩ := datN_get (id := 13) hR (by simp) rfl; have hf := fn3 h1 (DN_len h2); exact ⟨hf.1, hf.2 ▸ DN_one h2⟩) rfl (by simp) | exact ev_storeR (vl := [.fn (cellV 0) (.d 13), .fn (cellV 1) (.d 13), .fn (cellV 2) (.d 13)]) [2, 13] rfl (gn rfl) rfl rfl rfl Tryd.sizeOf29 rfl (fun ρ S w' _ hR => by obtain ⟨c, h1, h2⟩ := datN_get (id := 13) hR (by simp) rfl; have hf := fn3 h1 (DN_len h2); exact ⟨agg_cells _, hf.2 ▸ DN_one h2⟩) rfl (by simp)
    simp only [nm, seval]
    apply VE.cons
    · exact ev_assign rfl (gn rfl)
    simp only [nm, seval]
    exact VE.nil _
  · kernel_rfl
  change VOk _ _ _ _ _
  refine vret ?_
  refine post_ret (res2 Tryd.results28 (rv_cella rfl rfl Tryd.underlying29 rfl Tryd.sizeOf29 rfl) (rv_tmp rfl)) ?_
  intro ρ w' hr
  exact ⟨_, rfl, ret_datN 13 hr rfl, hr.1⟩
theorem Read_ok {v : Value} {b : List Nat} {S : Nat → Prop} (w : World) (hv : SlAt w v b.length 1 (b.map b8) S) (h8 : ∀ x ∈ b, x < 256) (hbl : b.length ≤ 1048576) : Calls Tryd.prog 28 #[v] w fun e w' => ∃ v', e = .returned (.tuple #[v', .int .i64 (rdT b).2]) ∧ RetD w w' v' (datN ((rdT b).1)) ∧ Bw w w' := by
  unfold rdT
  by_cases hl : b.length > 2048
  · rw [decide_eq_true hl]; exact Read_big w hv h8 hbl hl
  · rw [decide_eq_false hl]
    obtain ⟨⟨t, r, ok⟩, hz⟩ : ∃ z, readF 8 b = z := ⟨_, rfl⟩
    rw [hz]
    cases ok with
    | false => exact Read_n w hv h8 hbl (by omega) hz
    | true =>
      by_cases hr : r.length > 0
      · have e : isNil r = false := decide_eq_false (by omega)
        simp only [e]
        exact Read_r w hv h8 hbl (by omega) hz hr
      · have e : isNil r = true := decide_eq_true (by omega)
        simp only [e]
        exact Read_s w hv h8 hbl (by omega) hz (by omega)
end Go.Proofs.YtmgmiiongleaeaaDoor
