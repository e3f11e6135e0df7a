import Derived.Test.YtdhklekkpkbfeaaDoorSn
namespace Go.Proofs.YtdhklekkpkbfeaaDoor
open Go.RowKit Go.Vx
open Go.Toll (Gw)
open TollSha
set_option maxHeartbeats 4000000
set_option maxRecDepth 100000
section
variable {P : Program} {w0 : World}
/-- a walk of which the rest may be walked from another world. -/
def WOk (P : Program) (w0 : World) (s : VS) (c : Code) (R : Exit → Act → World → Prop) : Prop := ∀ ρ w, Rel w0 ρ s w → c.wp P R (s.act ρ) w
theorem wgo {c : Code} {l : List Value} {w : World} {R : Exit → Act → World → Prop} (h : WOk P w ⟨l.map .v, memOf []⟩ c R) : c.wp P R ⟨l.toArray, []⟩ w := by
  have h1 : (⟨l.toArray, []⟩ : Act) = (⟨l.map .v, memOf []⟩ : VS).act (fun _ => default) := by
    simp [VS.act, SV.c, Function.comp_def]
  rw [h1]
  exact h _ w (rel_start l w _)
theorem wseq {c d : Code} {s : VS} {R : Exit → Act → World → Prop} (h : VOk P w0 s c fun e s' => e = .normal ∧ WOk P w0 s' d R) : WOk P w0 s (.seq c d) R := fun ρ w hr => by
  refine wp_seq (h ρ w _ hr ?_)
  rintro e ρ' s' w' ⟨rfl, hq⟩ hr'
  exact hq ρ' w' hr'
theorem wrebase {c : Code} {s : VS} {R : Exit → Act → World → Prop} (h : ∀ ρ w1, Rel w0 ρ s w1 → WOk P w1 ⟨s.fr.map (fun x => .v (x.c ρ)), memOf []⟩ c R) : WOk P w0 s c R := fun ρ w hr => by
  have h1 := h ρ w hr ρ w ⟨Bw.refl w, fun _ _ => False, ⟨fun _ _ h => (by cases h), fun _ _ h => (by cases h), fun _ _ h => (by cases h), fun _ _ _ h => (by cases h), fun _ _ _ _ h => (by cases h)⟩⟩
  have e : (⟨s.fr.map (fun x => SV.v (x.c ρ)), memOf []⟩ : VS).act ρ = s.act ρ := by simp [VS.act, SV.c, Function.comp_def]
  rw [e] at h1
  exact h1
theorem wend {fn : Func} {c : Code} {s : VS} {R R' : Ending → World → Prop} (hR : ∀ e w', R e w' → R' e w') (h : VOk P w0 s c (QB P fn w0 R)) : WOk P w0 s c (bodyPost P fn R') := fun ρ w hr => h ρ w _ hr fun e ρ' s' w' hq hr' => by
  have h1 := hq ρ' w' hr'
  cases e with
  | normal => exact ⟨h1.1, h1.2.imp fun v h => ⟨h.1, hR _ _ h.2⟩⟩
  | ret => exact ⟨h1.1, h1.2.imp fun v h => ⟨h.1, hR _ _ h.2⟩⟩
  | panic chain => exact ⟨h1.1, hR _ _ h1.2⟩
  | outgrown => exact hR _ _ h1
  | _ => exact h1
end
section
variable {P : Program} {w0 : World} {ops : Array Oper} {o : Oper} {s : VS}
/-- a row of bytes turned to its own type: it bears the mark of such a row. -/
theorem ev_convown {t e : TypeId} {x : Operand} {id n : Nat} {l : List Value} (ho : o.op = .convert t t x) (hgd : Want ops o s) (hx : svEval s x = .d id) (hm : s.mem id = some (.row n 1 e (.exact l))) (hn : 0 < n)
    (ht : P.underlying t = some (.slice e)) (he : P.underlying e = some (.int .u8)) : Ev P ops w0 o s ⟨.d id, [(id, .row n 1 e (.exact l))], [id], [], [id]⟩ :=
  Ev.wrv id _ _ _ _ hgd hm (by simp) fun ρ S w hb hR => by
    have e1 := svEval_c s ρ x
    rw [hx] at e1
    obtain ⟨xs, hxl, hxe, hrow⟩ := relon_get hR hm (by simp)
    rcases hrow with ⟨_, h⟩ | ⟨off, cap, cur, fz, h1', h2', h3', h4', h5', h6', h7', h8'⟩
    · omega
    · have hsh : w.shape? (ρ id).g = some (e, cur.size) := by unfold World.shape?; rw [h3']
      have hlt := (Array.getElem?_eq_some_iff.1 h3').1
      have hfz : (w.freeze ⟨(ρ id).g, cur.size, none⟩ 1).heap[(ρ id).g]? = some (.cells cur e (cur.size, cur.size + 1)) := by
        unfold World.freeze
        rw [if_neg (by decide)]
        simp only [Array.getElem?_modify, if_true, h3', Option.map_some]
        rcases h4' with rfl | rfl
        · simp
        · simp
      refine ⟨by simp only [Blk.owns]; rw [h1']; simp, w.freeze ⟨(ρ id).g, cur.size, none⟩ 1, ?_, ⟨?_, ?_, ?_, ?_, fun j hj => ?_⟩, xs, hxl, hxe, .inr ⟨off, cap, cur, _, h1', h2', hfz, .inr rfl, h5', h6', h7', h8'⟩⟩
      · simp only [execOp, ho, e1, SV.c, h1']
        simp [convert, run_underlying ht, run_underlying he, markStringish, hsh]
      · unfold World.freeze; rw [if_neg (by decide)]
      · unfold World.freeze; rw [if_neg (by decide)]
      · unfold World.freeze; rw [if_neg (by decide)]
      · unfold World.freeze; rw [if_neg (by decide)]; simp
      · unfold World.freeze
        rw [if_neg (by decide)]
        simp only [Array.getElem?_modify]
        rw [if_neg (Ne.symm hj)]
end
theorem ev_cutstr2 {w0 : World} {ops : Array Oper} {o : Oper} {s : VS} {P : Program} {ty : TypeId} {x y : Operand} {a a' : List Nat} {k : Nat} (ho : o.op = .slice ty x none (some y) none) (hgd : Want ops o s) (hx : svEval s x = .v (.string (bstr a))) (hy : svEval s y = .v (.int .i64 (k : Nat))) (hu : P.underlying ty = some .string) (hk : k ≤ a.length) (ha : a.take k = a') : Ev P ops w0 o s ⟨.v (.string (bstr a')), [], [], [], []⟩ := by
  subst ha
  rw [← bstr_cut a hk]
  exact ev_cutstr ho hgd hx hy hu (by rw [bstr_size]; exact hk)
theorem sha_abc0 : ((sha [[97, 98, 99]].flatten).map b8)[0]? = some (b8 186) := by
  have h : (sha [[97, 98, 99]].flatten)[0]? = some 186 := by decide +kernel
  rw [List.getElem?_map, h]; rfl
theorem sha_abc31 : ((sha [[97, 98, 99]].flatten).map b8)[31]? = some (b8 173) := by
  have h : (sha [[97, 98, 99]].flatten)[31]? = some 173 := by decide +kernel
  rw [List.getElem?_map, h]; rfl
theorem take100 (l : List Nat) : l.take (min l.length 100) = l.take 100 := by
  by_cases h : l.length ≤ 100
  · rw [Nat.min_eq_left h, List.take_of_length_le (Nat.le_refl _), List.take_of_length_le h]
  · rw [Nat.min_eq_right (by omega)]
theorem flat1 (l : List Nat) : [l].flatten = l := by simp
theorem stands_ok (w : World) (hL : LaidK w) (hH : LaidH w) (hb1 : 1 < w.heap.size) : Calls Tryd.prog 13 #[] w fun e w' => e = .returned (.bool true) ∧ Bw w w' := by
  go_enter Tryd.func13, Tryd.ntmps13
  refine ve_go ?_
  simp only [List.map_cons, List.map_nil]
  refine vseq ?_
  apply vrp
  · apply VE.cons
    · exact ev_assign rfl (gn rfl)
    simp only [nm, seval]
    exact VE.nil _
  · kernel_rfl
  change VOk _ _ _ _ _
  refine vseq ?_
  apply vrp
  · apply VE.cons
    · exact ev_buildslice rfl rfl (gn rfl) rfl (e := 5) (l := [b8 (97), b8 (98), b8 (99)]) rfl (by decide) (fun _ => by kernel_rfl)
    simp only [nm, seval]
    apply VE.cons
    · exact ev_convown (id := 2) rfl (gn rfl) rfl rfl (by decide) Tryd.underlying27 Tryd.underlying5
    simp only [nm, seval]
    apply VE.cons
    · exact ev_buildsl1 (n := 1) (l := [.d 2]) [2] rfl rfl (gn rfl) rfl (fun ρ S w' hR => by have hh := row_cells (id := 2) hR (by simp) rfl; exact hh.1) rfl rfl bsl1
    simp only [nm, seval]
    apply VE.cons
    · exact ev_callp (v := .agg ((sha [[97, 98, 99]].flatten).map b8).toArray) [2, 4] rfl (gn rfl) rfl (en_of Tryd.func20 (by kernel_rfl) rfl) (fun ρ S w' hb hR => Of_ok w' (hL.bw hb) (hH.bw hb) (Nat.lt_of_lt_of_le hb1 hb.size) (partsf_own (id := 4) (n := 1) (ls := [[97, 98, 99]]) (by simp) (by rfl) rfl (by exact ⟨⟨rdgf_row (by simp) rfl, by decide⟩, trivial⟩) ρ S w' hb hR) (hangs_lt hb hR) (by decide) (by decide))
    simp only [nm, seval]
    apply VE.cons
    · exact ev_allocr (l := OL []) rfl rfl (gn rfl) Tryd.zeroValue28 rfl
    simp only [nm, seval]
    apply VE.cons
    · exact ev_storer (l' := (sha [[97, 98, 99]].flatten).map b8) rfl (gn rfl) rfl rfl rfl Tryd.sizeOf28 (by simp [Value.cells, sha_len]) (by rw [OL_len (by simp)]; decide) (by show ((sha [[97, 98, 99]].flatten).map b8).toArray.toList.all _ = true; exact b8_all _) (by rw [List.take_zero, List.nil_append, List.drop_of_length_le (by rw [OL_len (by simp)]; decide), List.append_nil]; simp [Value.cells])
    simp only [nm, seval]
    exact VE.nil _
  · kernel_rfl
  change VOk _ _ _ _ _
  refine vseq ?_
  apply vrp
  · apply VE.cons
    · exact ev_indexn (k := 0) (j := 0) rfl (gn rfl) rfl rfl Tryd.underlying28 Tryd.sizeOf5 (by omega) (by omega)
    simp only [nm, seval]
    apply VE.cons
    · exact ev_load1r (v := b8 186) rfl (gn rfl) rfl rfl Tryd.underlying5 rfl sha_abc0
    simp only [nm, seval]
    apply VE.cons
    · exact ev_eql (p := true) rfl (gn rfl) rfl rfl (by decide)
    simp only [nm, seval]
    apply VE.cons
    · exact ev_move rfl (gn rfl)
    simp only [nm, seval]
    apply VE.cons
    · first | exact Ev.skip (fun _ => rfl) | exact ev_indexn (k := 31) (j := 31) rfl (fun _ => rfl) rfl rfl Tryd.underlying28 Tryd.sizeOf5 (by omega) (by omega)
    simp only [nm, seval]
    apply VE.cons
    · first | exact Ev.skip (fun _ => rfl) | exact ev_load1r (v := b8 173) rfl (fun _ => rfl) rfl rfl Tryd.underlying5 rfl sha_abc31
    simp only [nm, seval]
    apply VE.cons
    · first | exact Ev.skip (fun _ => rfl) | exact ev_eql (p := true) rfl (fun _ => rfl) rfl rfl (by decide)
    simp only [nm, seval]
    apply VE.cons
    · exact ev_pick_t rfl (gn rfl) rfl rfl
    simp only [nm, seval]
    apply VE.cons
    · exact ev_assign rfl (gn rfl)
    simp only [nm, seval]
    exact VE.nil _
  · kernel_rfl
  change VOk _ _ _ _ _
  refine vret ?_
  refine post_ret (res1 Tryd.results13 (rv_tmp rfl)) ?_
  intro ρ w' hr
  exact ⟨rfl, hr.1⟩
end Go.Proofs.YtdhklekkpkbfeaaDoor
