import Derived.Test.YtdhklekkpkbfeaaDoorSf
namespace Go.Proofs.YtdhklekkpkbfeaaDoor
open Go.RowKit Go.Vx
open Go.Toll (Gw)
open TollSha
set_option maxHeartbeats 4000000
set_option maxRecDepth 100000
/-- the beginning, laid. -/
def LaidH (w : World) : Prop := ∀ j v, ([uv H0.a, uv H0.b, uv H0.c, uv H0.d, uv H0.e, uv H0.f, uv H0.g, uv H0.h] : List Value)[j]? = some v → w.cell? ⟨0, j, none⟩ = some v
theorem LaidH.bw {w w' : World} (h : LaidH w) (hb : Bw w w') : LaidH w' := fun j v hj => hb.cell (h j v hj)
theorem stH_nil : stH [] = H0 := rfl
theorem built42 (h : List Value) (hh : h = [uv H0.a, uv H0.b, uv H0.c, uv H0.d, uv H0.e, uv H0.f, uv H0.g, uv H0.h]) : Tryd.prog.built 42 [(0, .agg h.toArray)] = some #[uv H0.a, uv H0.b, uv H0.c, uv H0.d, uv H0.e, uv H0.f, uv H0.g, uv H0.h, .slice none 0 0, .int .i64 0] := by subst hh; kernel_rfl
def stL (H : St) (r n : Nat) : List SV := [.v (uv H.a), .v (uv H.b), .v (uv H.c), .v (uv H.d), .v (uv H.e), .v (uv H.f), .v (uv H.g), .v (uv H.h), .d r, .v (.int .i64 (n : Nat))]
section
variable {w0 : World} {ops : Array Oper} {o : Oper} {s : VS}
/-- a state that New makes: a block of the call's own, and what waits: nothing. -/
theorem ev_callnewst {id : Nat} (r : Nat) (hir : r ≠ id) (hL : LaidH w0) (hNew : ∀ w, LaidH w → Calls Tryd.prog 5 #[] w fun e w' => ∃ g, e = .returned (.pointer (some ⟨g, 0, none⟩)) ∧ w.heap.size ≤ g ∧ w'.heap[g]? = some (.cells (stCells [] nilV).toArray 42 (0, 0)) ∧ Bw w w')
    (_hd : o.dst = some id) (ho : o.op = .call { callee := .value (.func 5), args := #[], argTypes := #[] }) (hgd : Want ops o s) (_he : ∀ args w, (callFunc 5 args).run Tryd.prog w = .ok (.enter 5 args) w) :
    Ev Tryd.prog ops w0 o s ⟨.p id 0, [(id, .cells (stL H0 r 0) 42), (r, .row 0 1 5 (.exact []))], [], [id, r], []⟩ := by
  refine ⟨by simp [Eff.ok], .inr ⟨hgd, fun ρ S w hb hR => .inr (.inr ⟨5, #[], ?_, (hNew w (hL.bw hb)).mono fun e w' ⟨g, h1, h2, h3, h4⟩ => ⟨_, h1, fun k => if k = id then ⟨g, undef⟩ else if k = r then ⟨0, nilV⟩ else ρ k, fun _ _ => False, ?_⟩⟩)⟩⟩
  · obtain ⟨dst, op, type, pos, after, guard⟩ := o
    simp only at ho
    subst ho
    rw [execOp_call_go]
    simp
  · have cs : ∀ i b, memOf [(id, Blk.cells (stL H0 r 0) 42), (r, .row 0 1 5 (.exact []))] i = some b → (i = id ∧ b = .cells (stL H0 r 0) 42) ∨ (i = r ∧ b = .row 0 1 5 (.exact [])) := by
      intro i b h
      simp only [memOf] at h
      split at h
      · injection h with h; exact .inl ⟨by assumption, h.symm⟩
      · split at h
        · injection h with h; exact .inr ⟨by assumption, h.symm⟩
        · cases h
    refine ⟨by simp [SV.c], fun i hi => ?_, h4.os, h4.tape, h4.output, h4.size, fun k hk _ => h4.block k hk, ?_, fun _ _ _ h => h.elim, ?_, ?_⟩
    · simp only [List.mem_cons, List.not_mem_nil, or_false, not_or] at hi
      rw [if_neg hi.1, if_neg hi.2]
    · intro i b h
      rcases cs i b h with ⟨rfl, rfl⟩ | ⟨rfl, rfl⟩
      · refine ⟨by simp only [if_true]; exact Nat.le_trans hb.size h2, ?_⟩
        simp only [if_true]
        rw [h3]
        simp [cellsObj, stL, SV.cs, SV.c, stCells, hir, stH_nil]
      · exact ⟨[], rfl, rfl, .inl ⟨by simp [hir, nilV], rfl⟩⟩
    · intro i b h hob
      rcases cs i b h with ⟨rfl, rfl⟩ | ⟨rfl, rfl⟩
      · exact .inr ⟨by simp only [if_true]; exact h2, fun _ _ h => h⟩
      · exact absurd (by simp [hir, nilV]) hob
    · intro i b j c hi hob hj hoc _
      rcases cs i b hi with ⟨rfl, rfl⟩ | ⟨rfl, rfl⟩
      · rcases cs j c hj with ⟨rfl, rfl⟩ | ⟨rfl, rfl⟩
        · rfl
        · exact absurd (by simp [hir, nilV]) hoc
      · exact absurd (by simp [hir, nilV]) hob
/-- bytes put to a state of the call's own. -/
theorem ev_callput {id r n wl : Nat} (r2 : Nat) {a : List Nat} {ls : List (List Nat)} {x y : Operand} {sy : SV} (rd : List Nat) (h2 : r2 ≠ id) (hL : LaidK w0) (hb1 : 1 < w0.heap.size)
    (ho : o.op = .call { callee := .value (.func 6), args := #[x, y], argTypes := #[24, 22] }) (hgd : Want ops o s) (_he : ∀ args w, (callFunc 6 args).run Tryd.prog w = .ok (.enter 6 args) w)
    (hx : svEval s x = .p id 0) (hy : svEval s y = sy) (hm1 : s.mem id = some (.cells (stL (stH a) r n) 42)) (hm2 : s.mem r = some (.row wl 1 5 (.exact ((stW a).map b8)))) (hn : n = a.length) (hw : wl = (stW a).length) (hi : id ∈ rd) (hr : r ∈ rd)
    (hp : ∀ ρ S w, Bw w0 w → RelOn w0.heap.size ρ S w (restr rd s.mem) → ∃ F, PartsAt w (sy.c ρ) ls F ∧ ∀ k, F k → k ≠ (ρ id).g ∧ ((ρ r).val ≠ nilV → k ≠ (ρ r).g))
    (ha8 : ∀ x ∈ a, x < 256) (hlt : (a ++ ls.flatten).length < 1048576) (hln : ls.length ≤ 1048576) :
    Ev Tryd.prog ops w0 o s ⟨.v (.tuple #[]), [(id, .cells (stL (stH (a ++ ls.flatten)) r2 (a ++ ls.flatten).length) 42), (r2, .row (stW (a ++ ls.flatten)).length 1 5 (.exact ((stW (a ++ ls.flatten)).map b8)))], [id, r], [r2], rd⟩ := by
  subst hn hw
  refine ⟨by simp [Eff.ok, hi, hr], .inr ⟨hgd, fun ρ S w hb hR => ?_⟩⟩
  obtain ⟨F, hP, hF⟩ := hp ρ S w hb hR
  have g1 := relon_get hR hm1 hi
  obtain ⟨xs, x1, x2, x3⟩ := relon_get hR hm2 hr
  have x2' : xs = (stW a).map b8 := x2
  subst x2'
  have hin : ∀ j, j ∈ rd → restr rd s.mem j = s.mem j := fun j hj => by unfold restr; rw [if_pos hj]
  have hne : (ρ r).val ≠ nilV → (ρ r).g ≠ (ρ id).g := fun hv he => by
    have := hR.inj r _ id _ ((hin r hr).trans hm2) hv ((hin id hi).trans hm1) True.intro he
    subst this
    rw [hm1] at hm2; cases hm2
  have hst : StOwn w (ρ id).g (ρ r).g (ρ r).val a := by
    refine ⟨?_, ?_, hne⟩
    · rw [g1.2]; rfl
    · rcases x3 with x3 | ⟨off, cap, cur, fz, a1, _, a3⟩
      · exact .inl x3
      · exact .inr ⟨off, cap, cur, fz, a1, Nat.zero_le _, a3⟩
  have hX1 : ¬ StX (ρ id).g (ρ r).g (ρ r).val 1 := by
    rintro (h | ⟨hv, h⟩)
    · have := g1.1; omega
    · rcases x3 with ⟨x3, _⟩ | ⟨_, _, _, _, _, a2, _⟩
      · exact hv x3
      · have : w0.heap.size ≤ (ρ r).g := a2
        omega
  refine .inr (.inr ⟨6, #[.pointer (some ⟨(ρ id).g, 0, none⟩), sy.c ρ], ?_, (Put_ok (hL.bw hb) hX1 hst hP (fun k hk hX => ?_) ha8 hlt hln).mono fun e w' ⟨h1, h3, gr', wv', h4, h5, h6, h7⟩ => ⟨_, h1, fun k => if k = r2 then ⟨gr', wv'⟩ else ρ k, fun _ _ => False, ?_⟩⟩)
  · have e1 := svEval_c s ρ x
    rw [hx] at e1
    have e2 := svEval_c s ρ y
    rw [hy] at e2
    obtain ⟨dst, op, type, pos, after, guard⟩ := o
    simp only at ho
    subst ho
    rw [execOp_call_go]
    simp [e1, e2, SV.c]
  · rcases hX with hX | ⟨hv, hX⟩
    · exact (hF k hk).1 hX
    · exact (hF k hk).2 hv hX
  · obtain ⟨A, hA⟩ : ∃ A, a ++ ls.flatten = A := ⟨_, rfl⟩
    rw [hA] at h4 ⊢
    have cs : ∀ i b, memOf [(id, Blk.cells (stL (stH A) r2 A.length) 42), (r2, .row (stW A).length 1 5 (.exact ((stW A).map b8)))] i = some b → (i = id ∧ b = .cells (stL (stH A) r2 A.length) 42) ∨ (i = r2 ∧ b = .row (stW A).length 1 5 (.exact ((stW A).map b8))) := by
      intro i b h
      simp only [memOf] at h
      split at h
      · injection h with h; exact .inl ⟨by assumption, h.symm⟩
      · split at h
        · injection h with h; exact .inr ⟨by assumption, h.symm⟩
        · cases h
    have hbase : wv' ≠ nilV → w0.heap.size ≤ gr' := fun hv => by
      rcases h6 hv with (h | ⟨hv2, h⟩) | h
      · rw [h]; exact g1.1
      · rcases x3 with ⟨x3, _⟩ | ⟨_, _, _, _, _, a2, _⟩
        · exact absurd x3 hv2
        · rw [h]; exact a2
      · exact Nat.le_trans hb.size h
    refine ⟨by simp [SV.c], fun i hi => ?_, h3.os, h3.tape, h3.output, h7, fun k hk hup => h5 k hk ?_, ?_, fun _ _ _ h => h.elim, ?_, ?_⟩
    · simp only [List.mem_singleton] at hi
      rw [if_neg hi]
    · rintro (h | ⟨hv, h⟩)
      · exact hup id (by simp) _ hm1 True.intro h.symm
      · exact hup r (by simp) _ hm2 hv h.symm
    · intro i b h
      rcases cs i b h with ⟨rfl, rfl⟩ | ⟨rfl, rfl⟩
      · refine ⟨by simp only [if_neg (Ne.symm h2)]; exact g1.1, ?_⟩
        simp only [if_neg (Ne.symm h2)]
        rw [h4.1]
        simp [cellsObj, stL, SV.cs, SV.c, stCells]
      · refine ⟨(stW A).map b8, by simp, rfl, ?_⟩
        simp only [if_true]
        rcases h4.2.1 with h | ⟨off, cap, cur, fz, a1, a2, a3⟩
        · exact .inl h
        · exact .inr ⟨off, cap, cur, fz, a1, hbase (by show wv' ≠ nilV; have : wv' = _ := a1; rw [this]; simp [nilV]), a3⟩
    · intro i b h hob
      rcases cs i b h with ⟨rfl, rfl⟩ | ⟨rfl, rfl⟩
      · exact .inl ⟨i, by simp, _, hm1, True.intro, by simp only [if_neg (Ne.symm h2)]⟩
      · have hv : wv' ≠ nilV := by simpa [Blk.owns, nilV] using hob
        simp only [if_true]
        rcases h6 hv with (h | ⟨hv2, h⟩) | h
        · exact absurd h (h4.2.2 hv)
        · exact .inl ⟨r, by simp, _, hm2, hv2, h.symm⟩
        · exact .inr ⟨h, fun _ _ h => h⟩
    · intro i b j c hi hob hj hoc he
      rcases cs i b hi with ⟨rfl, rfl⟩ | ⟨rfl, rfl⟩
      · rcases cs j c hj with ⟨rfl, rfl⟩ | ⟨rfl, rfl⟩
        · rfl
        · have hv : wv' ≠ nilV := by simpa [Blk.owns, nilV] using hoc
          simp only [if_true, if_neg (Ne.symm h2)] at he
          exact absurd he.symm (h4.2.2 hv)
      · rcases cs j c hj with ⟨rfl, rfl⟩ | ⟨rfl, rfl⟩
        · have hv : wv' ≠ nilV := by simpa [Blk.owns, nilV] using hob
          simp only [if_true, if_neg (Ne.symm h2)] at he
          exact absurd he (h4.2.2 hv)
        · rfl
end
theorem New_ok (w : World) (hH : LaidH w) : Calls Tryd.prog 5 #[] w fun e w' => ∃ g, e = .returned (.pointer (some ⟨g, 0, none⟩)) ∧ w.heap.size ≤ g ∧ w'.heap[g]? = some (.cells (stCells [] nilV).toArray 42 (0, 0)) ∧ Bw w w' := by
  go_enter Tryd.func5, Tryd.ntmps5
  refine ve_go ?_
  simp only [List.map_cons, List.map_nil]
  refine vseq ?_
  apply vrp
  · apply VE.cons
    · exact ev_assign rfl (gn rfl)
    simp only [nm, seval]
    exact VE.nil _
  · kernel_rfl
  change VOk _ _ _ _ _
  refine vseq ?_
  apply vrp
  · apply VE.cons
    · exact ev_loadx (vs := [uv H0.a, uv H0.b, uv H0.c, uv H0.d, uv H0.e, uv H0.f, uv H0.g, uv H0.h]) rfl (gn rfl) rfl Tryd.underlying40 rfl Tryd.sizeOf40 (fun j v hj => (by rw [Nat.zero_add]; exact hH j v hj)) rfl
    simp only [nm, seval]
    apply VE.cons
    · exact ev_build rfl (gn rfl) rfl (built42 _ rfl)
    simp only [nm, seval]
    apply VE.cons
    · exact ev_box rfl rfl (gn rfl) rfl
    simp only [nm, seval]
    apply VE.cons
    · exact ev_assign rfl (gn rfl)
    simp only [nm, seval]
    exact VE.nil _
  · kernel_rfl
  change VOk _ _ _ _ _
  refine vret ?_
  refine post_ret (res1 Tryd.results5 (rv_tmp rfl)) ?_
  intro ρ w' hr
  refine ⟨(ρ 3).g, rfl, ?_, ?_, hr.1⟩
  · obtain ⟨hb, S1, hR⟩ := hr
    exact (hR.good 3 _ rfl).1
  · obtain ⟨hb, S1, hR⟩ := hr
    exact (hR.good 3 _ rfl).2
end Go.Proofs.YtdhklekkpkbfeaaDoor
