import Derived.Laws.MakeOwn
import Derived.Lib.MakeNoZero
import Derived.Great.BuildSlice
import Derived.Test.YtafbhakmkbehiaaDoorY6
section
namespace Go.Proofs.YtafbhakmkbehiaaDoor
open Go.RowKit Go.Vx
open Go.Toll (Gw)
open TollSha
set_option maxHeartbeats 4000000
set_option maxRecDepth 100000
def LaidH (w : World) : Prop := ∀ j v, ([uv H0.a, uv H0.b, uv H0.c, uv H0.d, uv H0.e, uv H0.f, uv H0.g, uv H0.h] : List Value)[j]? = some v → w.cell? ⟨5, j, none⟩ = some v
theorem LaidH.bw {w w' : World} (h : LaidH w) (hb : Bw w w') : LaidH w' := fun j v hj => hb.cell (h j v hj)
theorem stH_nil : stH [] = H0 := rfl
theorem built42 (h : List Value) (hh : h = [uv H0.a, uv H0.b, uv H0.c, uv H0.d, uv H0.e, uv H0.f, uv H0.g, uv H0.h]) : Tryd.prog.built 103 [(0, .agg h.toArray)] = some #[uv H0.a, uv H0.b, uv H0.c, uv H0.d, uv H0.e, uv H0.f, uv H0.g, uv H0.h, .slice none 0 0, .int .i64 0] := by subst hh; kernel_rfl
def stL (H : St) (r n : Nat) : List SV := [.v (uv H.a), .v (uv H.b), .v (uv H.c), .v (uv H.d), .v (uv H.e), .v (uv H.f), .v (uv H.g), .v (uv H.h), .d r, .v (.int .i64 (n : Nat))]
section
variable {w0 : World} {ops : Array Oper} {o : Oper} {s : VS}
theorem ev_callnewst {id : Nat} (r : Nat) (hir : r ≠ id) (hL : LaidH w0) (hNew : ∀ w, LaidH w → Calls Tryd.prog 51 #[] w fun e w' => ∃ g, e = .returned (.pointer (some ⟨g, 0, none⟩)) ∧ w.heap.size ≤ g ∧ w'.heap[g]? = some (.cells (stCells [] nilV).toArray 103 (0, 0)) ∧ Bw w w')
    (_hd : o.dst = some id) (ho : o.op = .call { callee := .value (.func 51), args := #[], argTypes := #[] }) (hgd : Want ops o s) (_he : ∀ args w, (callFunc 51 args).run Tryd.prog w = .ok (.enter 51 args) w) :
    Ev Tryd.prog ops w0 o s ⟨.p id 0, [(id, .cells (stL H0 r 0) 103), (r, .row 0 1 5 (.exact []))], [], [id, r], []⟩ := by
  refine ⟨by simp [Eff.ok], .inr ⟨hgd, fun ρ S w hb hR => .inr (.inr ⟨51, #[], ?_, (hNew w (hL.bw hb)).mono fun e w' ⟨g, h1, h2, h3, h4⟩ => ⟨_, h1, fun k => if k = id then ⟨g, undef⟩ else if k = r then ⟨0, nilV⟩ else ρ k, fun _ _ => False, ?_⟩⟩)⟩⟩
  · obtain ⟨dst, op, type, pos, after, guard⟩ := o
    simp only at ho
    subst ho
    rw [execOp_call_go]
    simp
  · have cs : ∀ i b, memOf [(id, Blk.cells (stL H0 r 0) 103), (r, .row 0 1 5 (.exact []))] i = some b → (i = id ∧ b = .cells (stL H0 r 0) 103) ∨ (i = r ∧ b = .row 0 1 5 (.exact [])) := by
      intro i b h
      simp only [memOf] at h
      split at h
      · injection h with h; exact .inl ⟨by assumption, h.symm⟩
      · split at h
        · injection h with h; exact .inr ⟨by assumption, h.symm⟩
        · cases h
    refine ⟨by simp [SV.c], fun i hi => ?_, h4.os, h4.tape, h4.output, h4.size, fun k hk _ => h4.block k hk, ?_, fun _ _ _ h => h.elim, ?_, ?_⟩
    · simp only [List.mem_cons, List.not_mem_nil, or_false, not_or] at hi
      rw [if_neg hi.1, if_neg hi.2]
    · intro i b h
      rcases cs i b h with ⟨rfl, rfl⟩ | ⟨rfl, rfl⟩
      · refine ⟨by simp only [if_true]; exact Nat.le_trans hb.size h2, ?_⟩
        simp only [if_true]
        rw [h3]
        simp [cellsObj, stL, SV.cs, SV.c, stCells, hir, stH_nil]
      · exact ⟨[], rfl, rfl, .inl ⟨by simp [hir, nilV], rfl⟩⟩
    · intro i b h hob
      rcases cs i b h with ⟨rfl, rfl⟩ | ⟨rfl, rfl⟩
      · exact .inr ⟨by simp only [if_true]; exact h2, fun _ _ h => h⟩
      · exact absurd (by simp [hir, nilV]) hob
    · intro i b j c hi hob hj hoc _
      rcases cs i b hi with ⟨rfl, rfl⟩ | ⟨rfl, rfl⟩
      · rcases cs j c hj with ⟨rfl, rfl⟩ | ⟨rfl, rfl⟩
        · rfl
        · exact absurd (by simp [hir, nilV]) hoc
      · exact absurd (by simp [hir, nilV]) hob
theorem ev_callput {id r n wl : Nat} (r2 : Nat) {a : List Nat} {ls : List (List Nat)} {x y : Operand} {sy : SV} (rd : List Nat) (h2 : r2 ≠ id) (hL : LaidK w0) (hb1 : 6 < w0.heap.size)
    (ho : o.op = .call { callee := .value (.func 52), args := #[x, y], argTypes := #[86, 85] }) (hgd : Want ops o s) (_he : ∀ args w, (callFunc 52 args).run Tryd.prog w = .ok (.enter 52 args) w)
    (hx : svEval s x = .p id 0) (hy : svEval s y = sy) (hm1 : s.mem id = some (.cells (stL (stH a) r n) 103)) (hm2 : s.mem r = some (.row wl 1 5 (.exact ((stW a).map b8)))) (hn : n = a.length) (hw : wl = (stW a).length) (hi : id ∈ rd) (hr : r ∈ rd)
    (hp : ∀ ρ S w, Bw w0 w → RelOn w0.heap.size ρ S w (restr rd s.mem) → ∃ F, PartsAt w (sy.c ρ) ls F ∧ ∀ k, F k → k ≠ (ρ id).g ∧ ((ρ r).val ≠ nilV → k ≠ (ρ r).g))
    (ha8 : ∀ x ∈ a, x < 256) (hlt : (a ++ ls.flatten).length < 1048576) (hln : ls.length ≤ 1048576) :
    Ev Tryd.prog ops w0 o s ⟨.v (.tuple #[]), [(id, .cells (stL (stH (a ++ ls.flatten)) r2 (a ++ ls.flatten).length) 103), (r2, .row (stW (a ++ ls.flatten)).length 1 5 (.exact ((stW (a ++ ls.flatten)).map b8)))], [id, r], [r2], rd⟩ := by
  subst hn hw
  refine ⟨by simp [Eff.ok, hi, hr], .inr ⟨hgd, fun ρ S w hb hR => ?_⟩⟩
  obtain ⟨F, hP, hF⟩ := hp ρ S w hb hR
  have g1 := relon_get hR hm1 hi
  obtain ⟨xs, x1, x2, x3⟩ := relon_get hR hm2 hr
  have x2' : xs = (stW a).map b8 := x2
  subst x2'
  have hin : ∀ j, j ∈ rd → restr rd s.mem j = s.mem j := fun j hj => by unfold restr; rw [if_pos hj]
  have hne : (ρ r).val ≠ nilV → (ρ r).g ≠ (ρ id).g := fun hv he => by
    have := hR.inj r _ id _ ((hin r hr).trans hm2) hv ((hin id hi).trans hm1) True.intro he
    subst this
    rw [hm1] at hm2; cases hm2
  have hst : StOwn w (ρ id).g (ρ r).g (ρ r).val a := by
    refine ⟨?_, ?_, hne⟩
    · rw [g1.2]; rfl
    · rcases x3 with x3 | ⟨off, cap, cur, fz, a1, _, a3⟩
      · exact .inl x3
      · exact .inr ⟨off, cap, cur, fz, a1, Nat.zero_le _, a3⟩
  have hX1 : ¬ StX (ρ id).g (ρ r).g (ρ r).val 6 := by
    rintro (h | ⟨hv, h⟩)
    · have := g1.1; omega
    · rcases x3 with ⟨x3, _⟩ | ⟨_, _, _, _, _, a2, _⟩
      · exact hv x3
      · have : w0.heap.size ≤ (ρ r).g := a2
        omega
  refine .inr (.inr ⟨52, #[.pointer (some ⟨(ρ id).g, 0, none⟩), sy.c ρ], ?_, (Put_ok (hL.bw hb) hX1 hst hP (fun k hk hX => ?_) ha8 hlt hln).mono fun e w' ⟨h1, h3, gr', wv', h4, h5, h6, h7⟩ => ⟨_, h1, fun k => if k = r2 then ⟨gr', wv'⟩ else ρ k, fun _ _ => False, ?_⟩⟩)
  · have e1 := svEval_c s ρ x
    rw [hx] at e1
    have e2 := svEval_c s ρ y
    rw [hy] at e2
    obtain ⟨dst, op, type, pos, after, guard⟩ := o
    simp only at ho
    subst ho
    rw [execOp_call_go]
    simp [e1, e2, SV.c]
  · rcases hX with hX | ⟨hv, hX⟩
    · exact (hF k hk).1 hX
    · exact (hF k hk).2 hv hX
  · obtain ⟨A, hA⟩ : ∃ A, a ++ ls.flatten = A := ⟨_, rfl⟩
    rw [hA] at h4 ⊢
    have cs : ∀ i b, memOf [(id, Blk.cells (stL (stH A) r2 A.length) 103), (r2, .row (stW A).length 1 5 (.exact ((stW A).map b8)))] i = some b → (i = id ∧ b = .cells (stL (stH A) r2 A.length) 103) ∨ (i = r2 ∧ b = .row (stW A).length 1 5 (.exact ((stW A).map b8))) := by
      intro i b h
      simp only [memOf] at h
      split at h
      · injection h with h; exact .inl ⟨by assumption, h.symm⟩
      · split at h
        · injection h with h; exact .inr ⟨by assumption, h.symm⟩
        · cases h
    have hbase : wv' ≠ nilV → w0.heap.size ≤ gr' := fun hv => by
      rcases h6 hv with (h | ⟨hv2, h⟩) | h
      · rw [h]; exact g1.1
      · rcases x3 with ⟨x3, _⟩ | ⟨_, _, _, _, _, a2, _⟩
        · exact absurd x3 hv2
        · rw [h]; exact a2
      · exact Nat.le_trans hb.size h
    refine ⟨by simp [SV.c], fun i hi => ?_, h3.os, h3.tape, h3.output, h7, fun k hk hup => h5 k hk ?_, ?_, fun _ _ _ h => h.elim, ?_, ?_⟩
    · simp only [List.mem_singleton] at hi
      rw [if_neg hi]
    · rintro (h | ⟨hv, h⟩)
      · exact hup id (by simp) _ hm1 True.intro h.symm
      · exact hup r (by simp) _ hm2 hv h.symm
    · intro i b h
      rcases cs i b h with ⟨rfl, rfl⟩ | ⟨rfl, rfl⟩
      · refine ⟨by simp only [if_neg (Ne.symm h2)]; exact g1.1, ?_⟩
        simp only [if_neg (Ne.symm h2)]
        rw [h4.1]
        simp [cellsObj, stL, SV.cs, SV.c, stCells]
      · refine ⟨(stW A).map b8, by simp, rfl, ?_⟩
        simp only [if_true]
        rcases h4.2.1 with h | ⟨off, cap, cur, fz, a1, a2, a3⟩
        · exact .inl h
        · exact .inr ⟨off, cap, cur, fz, a1, hbase (by show wv' ≠ nilV; have : wv' = _ := a1; rw [this]; simp [nilV]), a3⟩
    · intro i b h hob
      rcases cs i b h with ⟨rfl, rfl⟩ | ⟨rfl, rfl⟩
      · exact .inl ⟨i, by simp, _, hm1, True.intro, by simp only [if_neg (Ne.symm h2)]⟩
      · have hv : wv' ≠ nilV := by simpa [Blk.owns, nilV] using hob
        simp only [if_true]
        rcases h6 hv with (h | ⟨hv2, h⟩) | h
        · exact absurd h (h4.2.2 hv)
        · exact .inl ⟨r, by simp, _, hm2, hv2, h.symm⟩
        · exact .inr ⟨h, fun _ _ h => h⟩
    · intro i b j c hi hob hj hoc he
      rcases cs i b hi with ⟨rfl, rfl⟩ | ⟨rfl, rfl⟩
      · rcases cs j c hj with ⟨rfl, rfl⟩ | ⟨rfl, rfl⟩
        · rfl
        · have hv : wv' ≠ nilV := by simpa [Blk.owns, nilV] using hoc
          simp only [if_true, if_neg (Ne.symm h2)] at he
          exact absurd he.symm (h4.2.2 hv)
      · rcases cs j c hj with ⟨rfl, rfl⟩ | ⟨rfl, rfl⟩
        · have hv : wv' ≠ nilV := by simpa [Blk.owns, nilV] using hob
          simp only [if_true, if_neg (Ne.symm h2)] at he
          exact absurd he (h4.2.2 hv)
        · rfl
end
theorem New_ok (w : World) (hH : LaidH w) : Calls Tryd.prog 51 #[] w fun e w' => ∃ g, e = .returned (.pointer (some ⟨g, 0, none⟩)) ∧ w.heap.size ≤ g ∧ w'.heap[g]? = some (.cells (stCells [] nilV).toArray 103 (0, 0)) ∧ Bw w w' := by
 go_enter Tryd.func51, Tryd.ntmps51
 refine ve_go ?_
 simp only [List.map_cons, List.map_nil]
 iterate 6 refine k_k ?_
 refine k_s (by exact ev_loadx (vs := [uv H0.a, uv H0.b, uv H0.c, uv H0.d, uv H0.e, uv H0.f, uv H0.g, uv H0.h]) rfl (gn rfl) rfl Tryd.underlying101 rfl Tryd.sizeOf101 (fun j v hj => (by rw [Nat.zero_add]; exact hH j v hj)) rfl) ?_
 refine k_s (by exact ev_build rfl (gn rfl) rfl (built42 _ rfl)) ?_
 iterate 3 refine k_k ?_
 refine vret ?_
 refine post_ret (res1 Tryd.results51 (rv_tmp rfl)) ?_
 intro ρ w' hr
 refine ⟨(ρ 3).g, rfl, ?_, ?_, hr.1⟩
 · obtain ⟨hb, S1, hR⟩ := hr
   exact (hR.good 3 _ rfl).1
 · obtain ⟨hb, S1, hR⟩ := hr
   exact (hR.good 3 _ rfl).2
end Go.Proofs.YtafbhakmkbehiaaDoor
end
section
namespace Go.Proofs.YtafbhakmkbehiaaDoor
open Go.RowKit Go.Vx
open Go.Toll (Gw)
open TollSha
set_option maxHeartbeats 4000000
set_option maxRecDepth 100000
theorem partsAt_bw {w w' : World} {v : Value} {ls : List (List Nat)} {F : Nat → Prop} (h : PartsAt w v ls F) (hb : Bw w w') : PartsAt w' v ls F := by
  obtain ⟨vs, h1, h2⟩ := h
  refine ⟨vs, sl_bw h1 hb, fun i l hl => ?_⟩
  obtain ⟨u, h3, h4, h5⟩ := h2 i l hl
  exact ⟨u, h3, sl_bw h4 hb, h5⟩
theorem c_sum {w w0 : World} {ρ : Nat → Nm} {S : Nat → Nat → Prop} {m : Mem} {rd : List Nat} {id r n wl : Nat} {a : List Nat} (hR : RelOn w0.heap.size ρ S w (restr rd m)) (hid : id ∈ rd) (hr : r ∈ rd) (hm1 : m id = some (.cells (stL (stH a) r n) 103)) (hm2 : m r = some (.row wl 1 5 (.exact ((stW a).map b8)))) (hn : n = a.length) (hw : wl = (stW a).length) (hL : LaidK w) (h8 : ∀ x ∈ a, x < 256) (hm : a.length < 1048576) :
    Calls Tryd.prog 53 (SV.cs ρ [.p id 0]).toArray w fun e w' => e = .returned (.agg ((sha a).map b8).toArray) ∧ Bw w w' := by
  subst hn hw
  have g1 := relon_get hR hm1 hid
  obtain ⟨xs, x1, x2, x3⟩ := relon_get hR hm2 hr
  have x2' : xs = (stW a).map b8 := x2
  subst x2'
  have hs : StAt w (ρ id).g (ρ r).val a := fun j v hj => cell_arr (l := stCells a (ρ r).val) (ty := 103) (by rw [g1.2]; rfl) hj
  simp only [SV.cs, SV.c]
  exact Sum_ok w hL hs (row_sl x3 x1) h8 hm
theorem below_own {base : Nat} {ρ : Nat → Nm} {S : Nat → Nat → Prop} {w : World} {m : Mem} {rd : List Nat} {id r : Nat} {l : List SV} {ty : TypeId} {n : Nat} {D : Dat} {F : Nat → Prop} (hR : RelOn base ρ S w (restr rd m)) (hid : id ∈ rd) (hr : r ∈ rd) (hm1 : m id = some (.cells l ty)) (hm2 : m r = some (.row n 1 5 D)) (hF : ∀ k, F k → k < base) : ∀ k, F k → k ≠ (ρ id).g ∧ ((ρ r).val ≠ nilV → k ≠ (ρ r).g) := fun k hk => by
  have h0 := hF k hk
  have g1 := (relon_get hR hm1 hid).1
  obtain ⟨xs, _, _, x3⟩ := relon_get hR hm2 hr
  refine ⟨fun h => by omega, fun hv h => ?_⟩
  rcases x3 with ⟨x3, _⟩ | ⟨_, _, _, _, _, a2, _⟩
  · exact hv x3
  · have : base ≤ (ρ r).g := a2
    omega
theorem flat_lt {w : World} {v : Value} {ls : List (List Nat)} {F : Nat → Prop} (h : PartsAt w v ls F) : ∀ x ∈ ls.flatten, x < 256 := fun x hx => by
  obtain ⟨vs, _, h2⟩ := h
  obtain ⟨l, hl, hx⟩ := List.mem_flatten.1 hx
  obtain ⟨j, hj⟩ := List.getElem?_of_mem hl
  obtain ⟨_, _, _, h8⟩ := h2 j l hj
  exact h8 x hx
theorem Of_ok {v : Value} {ls : List (List Nat)} {F : Nat → Prop} (w : World) (hL : LaidK w) (hH : LaidH w) (hb1 : 6 < w.heap.size) (hp : PartsAt w v ls F) (hF : ∀ k, F k → k < w.heap.size) (hlt : ls.flatten.length < 1048576) (hln : ls.length ≤ 1048576) : Calls Tryd.prog 25 #[v] w fun e w' => e = .returned (.agg ((sha ls.flatten).map b8).toArray) ∧ Bw w w' := by
 go_enter Tryd.func25, Tryd.ntmps25
 refine ve_go ?_
 simp only [List.map_cons, List.map_nil]
 iterate 2 refine k_k ?_
 refine k_29 ?_
 iterate 3 refine k_k ?_
 refine k_s (by exact ev_callnewst 700 (by decide) hH (fun w h => New_ok w h) rfl rfl (gn rfl) (en_of Tryd.func51 (by kernel_rfl) rfl)) ?_
 iterate 6 refine k_k ?_
 refine k_s (by exact ev_callput (id := 4) (r := 700) (n := 0) (wl := 0) (a := []) (ls := ls) 701 [4, 700] (by decide) hL hb1 rfl (gn rfl) (en_of Tryd.func52 (by kernel_rfl) rfl) rfl rfl rfl rfl rfl rfl (by simp) (by simp) (fun ρ S w' hb hR => ⟨F, partsAt_bw hp hb, below_own (id := 4) (r := 700) hR (by simp) (by simp) rfl rfl hF⟩) (fun x hx => by cases hx) hlt hln) ?_
 iterate 4 refine k_k ?_
 refine k_s (by exact ev_callp (v := .agg ((sha ls.flatten).map b8).toArray) [4, 701] rfl (gn rfl) rfl (en_of Tryd.func53 (by kernel_rfl) rfl) (fun ρ S w' hb hR => c_sum (id := 4) (r := 701) (a := ls.flatten) hR (by simp) (by simp) rfl rfl rfl rfl (hL.bw hb) (flat_lt hp) hlt)) ?_
 refine k_s (by exact ev_storer (l' := (sha ls.flatten).map b8) rfl (gn rfl) rfl rfl rfl Tryd.sizeOf23 (by simp [Value.cells, sha_len]) (by rw [OL_len (by simp)]; decide) (by show ((sha ls.flatten).map b8).toArray.toList.all _ = true; exact b8_all _) (by rw [List.take_zero, List.nil_append, List.drop_of_length_le (by rw [OL_len (by simp)]; decide), List.append_nil]; simp [Value.cells])) ?_
 refine k_k ?_
 refine vret ?_
 refine post_ret (res1 Tryd.results25 (rv_cellr (vs := (sha ls.flatten).map b8) rfl rfl Tryd.underlying23 rfl Tryd.sizeOf23 (List.take_of_length_le (by simp [sha_len])) (by simp [sha_len]))) ?_
 intro ρ w' hr
 exact ⟨rfl, hr.1⟩
end Go.Proofs.YtafbhakmkbehiaaDoor
end
section
namespace Go.Vx
open Go.RowKit Go.Toll
section
variable {P : Program} {w0 : World} {ops : Array Oper} {o : Oper} {s : VS}
theorem ev_makeslice {t e : TypeId} {x y : Operand} {id k : Nat} {z : Value} (_hd : o.dst = some id) (ho : o.op = .makeSlice t x y) (hgd : Want ops o s)
    (hx : svEval s x = .v (.int .i64 (k : Nat))) (hy : svEval s y = .v (.int .i64 (k : Nat))) (ht : P.underlying t = some (.slice e)) (hI : ElInfo P e 1 1) (hz : ∀ w, (zeroValue e).run P w = .ok z w) (hzc : z.cells = #[z]) (hk : k ≤ 140737488355328) :
    Ev P ops w0 o s ⟨.d id, [(id, .row k 1 e (.exact (List.replicate k z)))], [], [id], []⟩ :=
  ⟨by simp [Eff.ok], .inr ⟨hgd, fun ρ S w hb hR => by
    obtain ⟨i, z', hi, hz', hsize, hby, hzs⟩ := hI.get
    have e1 := svEval_c s ρ x
    rw [hx] at e1
    have e2 := svEval_c s ρ y
    rw [hy] at e2
    simp only [SV.c] at e1 e2
    have hzz : z = z' := by
      have := hz w
      simp [zeroValue, typeInfo, hi, hz'] at this
      exact this.symm
    subst hzz
    have hzl : madeCells #[z] k = (List.replicate k z).toArray := by
      apply Array.ext
      · simp [madeCells]
      · intro j h1 h2; simp [madeCells, Nat.mod_one]
    have hr := run_make (P := P) w t e i z ht hi hz' .i64 .i64 (k : Int) (k : Int) (by omega) (by omega) (by rw [hby]; omega) (by omega)
    rw [hsize, hzc, Int.toNat_natCast, Nat.mul_one, hzl] at hr
    refine .inl ⟨.slice (some ⟨w.heap.size, 0, none⟩) k k, w.alloc (.cells (List.replicate k z).toArray e), ?_, fun j => if j = id then ⟨w.heap.size, .slice (some ⟨w.heap.size, 0, none⟩) k k⟩ else ρ j, fun _ _ => False, ?_⟩
    · simp only [execOp, ho, e1, e2]
      rw [Sem.run_bind, hr]
      rfl
    · have := out_row (t := s.mem) (ρ := ρ) (S := S) (val := .d id) (rd := []) (id := id) (n := k) (size := 1) (ty := e) (l := List.replicate k z) (w := w) (w' := w.alloc (.cells (List.replicate k z).toArray e)) (v := .slice (some ⟨w.heap.size, 0, none⟩) k k) (g := w.heap.size) hb.size
        ⟨rfl, rfl, rfl, by simp, fun k hk => heap_alloc_old w _ hk⟩ (by simp) (.inr ⟨0, k, (List.replicate k z).toArray, (0, 0), rfl, Nat.le_refl _, heap_alloc_new w _, .inl rfl, Nat.le_refl _, by simp only [maxLen]; omega, by simp, by simp⟩)
      simpa [SV.c] using this⟩⟩
end
end Go.Vx
end
section
namespace Go.Proofs.YtafbhakmkbehiaaDoor
open Go.RowKit Go.Vx
open Go.Toll (Gw)
open TollSha
set_option maxHeartbeats 4000000
set_option maxRecDepth 100000
theorem run_copy_nil (w : World) (dT sT ty elem : TypeId) (ad : Option Addr) (n cap : Nat) (ao : Option Addr) (sc : Nat) (hu : Tryd.prog.underlying dT = some (.slice elem)) (hs : (Tryd.prog.info? elem).map (·.size) = some 1) :
    (Builtin.copy_ #[dT, sT] ty #[.slice ad n cap, .slice ao 0 sc]).run Tryd.prog w = .ok (goInt 0) w := by
  cases hq : Tryd.prog.info? elem with
  | none => simp [hq] at hs
  | some i =>
    have hi : i.size = 1 := by simpa [hq] using hs
    cases ao <;> cases ad <;> simp [Builtin.copy_, run_underlying hu, Builtin.lenOf, Builtin.firstCells, sizeOf, typeInfo, hq, loadCells, loadCellsFrom, storeCells]
theorem ev_copy0 {w0 : World} {ops : Array Oper} {o : Oper} {s : VS} {dT sT e : TypeId} {x y : Operand} {id n : Nat} {l news : List Value} {v : Value} {S0 : Nat → Prop} (ho : o.op = .call { callee := .builtin .copy, args := #[x, y], argTypes := #[dT, sT] }) (hgd : Want ops o s)
    (hx : svEval s x = .d id) (hm : s.mem id = some (.row n 1 e (.exact l))) (hy : svEval s y = .v v) (hr : SlAt w0 v 0 1 news S0) (hu : Tryd.prog.underlying dT = some (.slice e)) (hs : (Tryd.prog.info? e).map (·.size) = some 1) (_hpos : 0 < n) :
    Ev Tryd.prog ops w0 o s ⟨.v (.int .i64 0), [], [], [], [id]⟩ :=
  Ev.run _ _ hgd fun ρ S w hb hR => by
    have e1 := svEval_c s ρ x
    rw [hx] at e1
    have e2 := svEval_c s ρ y
    rw [hy] at e2
    obtain ⟨xs, hxl, hxe, hrow⟩ := relon_get hR hm (by simp)
    obtain ⟨ao, sc, rfl, _, _, _⟩ := hr
    obtain ⟨ad, cap, h1, _⟩ := row_sl hrow hxl
    simp only [SV.c] at e1 e2
    rw [h1] at e1
    have hrun := run_copy_nil w dT sT o.type e ad n cap ao sc hu hs
    unfold execOp
    simp only [ho, resolve, invoke, builtin, Sem.run_bind, Sem.run_pure, Result.andThen_ok, List.map_toArray, List.map_cons, List.map_nil, e1, e2, hrun, SV.c, goInt]
theorem u8x (b c : Nat) (hb : b < 256) (hc : c < 256) : bits .xor .u8 (b : Int) (c : Int) = ((b ^^^ c : Nat) : Int) := by
  have h := Nat.xor_lt_two_pow (n := 8) (x := b) (y := c) (by omega) (by omega)
  show IntKind.u8.wrap ((BitVec.ofInt 8 (b : Int) ^^^ BitVec.ofInt 8 (c : Int)).toNat : Int) = _
  rw [BitVec.toNat_xor, BitVec.toNat_ofInt, BitVec.toNat_ofInt]
  have h1 : ((b : Int) % ((2 ^ 8 : Nat) : Int)).toNat = b := by omega
  have h2 : ((c : Int) % ((2 ^ 8 : Nat) : Int)).toNat = c := by omega
  rw [h1, h2, IntKind.wrap_u8']
  omega
theorem xor8 {b c : Nat} (hb : b < 256) (hc : c < 256) (p q : Operand) (w : World) : (do eqGuard .xor 5 p q (b8 b) (b8 c); binOp .xor 5 (b8 b) (b8 c) : Sem Value).run Tryd.prog w = .ok (b8 (b ^^^ c)) w := by
  have h := u8x b c hb hc
  unfold b8
  go_simp
  try exact h
def keyP (key : List Nat) : List Nat := key ++ List.replicate (64 - key.length) 0
theorem keyP_len {key : List Nat} (h : key.length ≤ 64) : (keyP key).length = 64 := by simp [keyP]; omega
theorem keyP_lt {key : List Nat} (h : ∀ x ∈ key, x < 256) : ∀ x ∈ keyP key, x < 256 := fun x hx => by
  rcases List.mem_append.1 hx with hx | hx
  · exact h x hx
  · rw [(List.mem_replicate.1 hx).2]; decide
def padI (K : List Nat) (x i : Nat) : List Nat := (K.take i).map (· ^^^ x) ++ K.drop i
theorem padI_get {K : List Nat} {x i : Nat} (h : i < K.length) : (padI K x i)[i]? = some (K.getD i 0) := by
  have e : ((K.take i).map (· ^^^ x)).length = i := by simp; omega
  unfold padI
  rw [List.getElem?_append_right (by omega), e, Nat.sub_self, List.getElem?_drop]
  simp [List.getD, h]
theorem padI_set {K : List Nat} {x i : Nat} (h : i < K.length) : (padI K x i).set i (K.getD i 0 ^^^ x) = padI K x (i + 1) := by
  have e : ((K.take i).map (· ^^^ x)).length = i := by simp; omega
  have e2 : K.drop i = K.getD i 0 :: K.drop (i + 1) := by rw [List.drop_eq_getElem_cons h]; simp [List.getD, h]
  have e3 : K.take (i + 1) = K.take i ++ [K.getD i 0] := take_get (by simp [List.getD, h])
  unfold padI
  rw [e2, e3, List.map_append, List.append_assoc, List.set_append_right _ _ (by omega), e, Nat.sub_self]
  rfl
theorem padK_eq {key : List Nat} {x : Nat} (h : key.length ≤ 64) : padI (keyP key) x 64 = padK key x := by
  have hl := keyP_len h
  unfold padI padK
  rw [List.take_of_length_le (by omega), List.drop_of_length_le (by omega), List.append_nil]
  apply List.ext_getElem?
  intro i
  rw [List.getElem?_map, List.getElem?_map]
  by_cases hi : i < 64
  · have h1 : (keyP key)[i]? = some (key.getD i 0) := by
      unfold keyP
      by_cases hk : i < key.length
      · rw [List.getElem?_append_left hk]; simp [List.getD, hk]
      · rw [List.getElem?_append_right (by omega), List.getElem?_replicate, if_pos (by omega)]
        simp [List.getD, List.getElem?_eq_none (show key.length ≤ i by omega)]
    rw [h1, List.getElem?_range hi]; rfl
  · rw [List.getElem?_eq_none (by omega), List.getElem?_eq_none (by simp; omega)]; rfl
def Z64 : List Value := List.replicate 64 (Value.int .u8 0)
theorem Z64_eq : Z64 = (List.replicate 64 0).map b8 := by rw [List.map_replicate]; rfl
theorem Z64_key {key : List Nat} {x : Nat} (_h : key.length ≤ 64) : key.map b8 ++ Z64.drop key.length = (padI (keyP key) x 0).map b8 := by
  rw [Z64_eq, ← List.map_drop, ← List.map_append, List.drop_replicate]
  rfl
theorem ev_makerow {w0 : World} {ops : Array Oper} {o : Oper} {s : VS} {t e : TypeId} {x y : Operand} {id k : Nat} {z : Value} (l : List Value) (hl : List.replicate k z = l) (hd : o.dst = some id) (ho : o.op = .makeSlice t x y) (hgd : Want ops o s)
    (hx : svEval s x = .v (.int .i64 (k : Nat))) (hy : svEval s y = .v (.int .i64 (k : Nat))) (ht : Tryd.prog.underlying t = some (.slice e)) (hI : ElInfo Tryd.prog e 1 1) (hz : ∀ w, (zeroValue e).run Tryd.prog w = .ok z w) (hzc : z.cells = #[z]) (hk : k ≤ 140737488355328) :
    Ev Tryd.prog ops w0 o s ⟨.d id, [(id, .row k 1 e (.exact l))], [], [id], []⟩ := by
  subst hl
  exact ev_makeslice hd ho hgd hx hy ht hI hz hzc hk
theorem b8_one (c : Nat) : (b8 c).cells = #[b8 c] := rfl
theorem pad_0 {v : Value} {key : List Nat} {S : Nat → Prop} {x : Nat} (w : World) (hv : SlAt w v key.length 1 (key.map b8) S) (hkl : key.length ≤ 64) (hk8 : ∀ y ∈ key, y < 256) (hx : x < 256) (h0 : key = []) : Calls Tryd.prog 69 #[v, b8 x] w fun e w' => ∃ v', e = .returned v' ∧ RetRow w w' v' 64 1 5 ((padK key x).map b8) ∧ Bw w w' := by
 have hKl := keyP_len hkl
 have hK8 := keyP_lt hk8
 go_enter Tryd.func69, Tryd.ntmps69
 refine ve_go ?_
 simp only [List.map_cons, List.map_nil]
 iterate 6 refine k_k ?_
 refine k_s (by exact ev_makerow (k := 64) Z64 rfl rfl rfl (gn rfl) rfl rfl Tryd.underlying22 el5 Tryd.zeroValue5 rfl (by decide)) ?_
 iterate 6 refine k_k ?_
 refine k_s (by exact ev_copy0 rfl (gn rfl) rfl rfl rfl (by rw [h0] at hv; exact hv) Tryd.underlying22 (by kernel_rfl) (by decide)) ?_
 iterate 5 refine k_k ?_
 refine k_30 ?_
 iterate 3 refine k_k ?_
 refine vloop_w (α := {y : Nat // y ≤ 64}) (fun (y : {y : Nat // y ≤ 64}) f => ⟨[.v (f 0), .v (b8 x), .v (f 2), .v (f 3), .v (f 4), .d 7, .v (f 6), .v (f 7), .v (f 8), .v (f 9), .v (f 10), .v (f 11), .v (.int .i64 64), .v (.int .i64 (y.1 : Nat)), .v (f 14), .v (f 15), .v (f 16), .v (f 17), .v (f 18), .v (f 19), .v (f 20), .v (f 21), .v (f 22), .v (f 23), .v (f 24)], memOf [(7, .row 64 1 5 (.exact ((padI (keyP key) x y.1).map b8)))]⟩) (fun y => 64 - y.1) ?_ (⟨0, Nat.zero_le _⟩) ?_
 · rintro ⟨i, hi⟩ f
   obtain ⟨q, h_q⟩ : ∃ q, decide (i < 64) = q := ⟨_, rfl⟩
   have h_q' := (nat_lt i 64).trans h_q
   change VOk _ _ _ _ _
   iterate 2 refine k_k ?_
   refine k_s (by exact ev_lss rfl (gn rfl) rfl rfl h_q') ?_
   iterate 2 refine k_k ?_
   cases q
   · refine k_k ?_
     have hi64 : i = 64 := by have := of_decide_eq_false h_q; omega
     subst hi64
     refine vexit ?_
     change VOk _ _ _ _ _
     iterate 5 refine k_k ?_
     refine vret ?_
     refine post_ret (res1 Tryd.results69 (rv_tmp rfl)) ?_
     intro ρ w' hr
     refine ⟨_, rfl, ?_, hr.1⟩
     have hh := ret_row (id := 7) hr rfl
     rw [padK_eq hkl] at hh
     exact hh
   · refine k_k ?_
     have hlt : i < 64 := of_decide_eq_true h_q
     iterate 11 refine k_k ?_
     refine k_21 ?_
     refine k_s (by exact ev_loadi rfl (gn rfl) rfl Tryd.underlying5 rfl (rdg_row rfl) (by rw [List.getElem?_map, padI_get (by rw [hKl]; exact hlt)]; rfl)) ?_
     refine k_k ?_
     refine k_s (by exact ev_bin rfl (gn rfl) rfl rfl (fun w => xor8 (getD_lt hK8 _) hx _ _ w)) ?_
     refine k_21 ?_
     refine k_24 ?_
     iterate 2 refine k_k ?_
     refine k_20 ?_
     iterate 2 refine k_k ?_
     refine ⟨⟨i + 1, by omega⟩, by show 64 - (i + 1) < 64 - i; omega, ?_⟩
     exact weaker_forget (fun i => i == 1 || i == 5 || i == 12 || i == 13) []
 · rw [show Z64 = (padI (keyP key) x 0).map b8 by subst h0; exact Z64_eq]
   exact weaker_forget (fun i => i == 1 || i == 5 || i == 12 || i == 13) []
theorem pad_p {v : Value} {key : List Nat} {S : Nat → Prop} {x : Nat} (w : World) (hv : SlAt w v key.length 1 (key.map b8) S) (hkl : key.length ≤ 64) (hk8 : ∀ y ∈ key, y < 256) (hx : x < 256) (h0 : 0 < key.length) : Calls Tryd.prog 69 #[v, b8 x] w fun e w' => ∃ v', e = .returned v' ∧ RetRow w w' v' 64 1 5 ((padK key x).map b8) ∧ Bw w w' := by
 have hKl := keyP_len hkl
 have hK8 := keyP_lt hk8
 go_enter Tryd.func69, Tryd.ntmps69
 refine ve_go ?_
 simp only [List.map_cons, List.map_nil]
 iterate 6 refine k_k ?_
 refine k_s (by exact ev_makerow (k := 64) Z64 rfl rfl rfl (gn rfl) rfl rfl Tryd.underlying22 el5 Tryd.zeroValue5 rfl (by decide)) ?_
 iterate 6 refine k_k ?_
 refine k_s (by exact ev_copyrow (l' := (padI (keyP key) x 0).map b8) rfl (gn rfl) rfl rfl rfl (rdg_arg hv) Tryd.underlying22 (by kernel_rfl) hkl h0 (by decide) (b8_all _) (Z64_key hkl)) ?_
 iterate 5 refine k_k ?_
 refine k_30 ?_
 iterate 3 refine k_k ?_
 refine vloop_w (α := {y : Nat // y ≤ 64}) (fun (y : {y : Nat // y ≤ 64}) f => ⟨[.v (f 0), .v (b8 x), .v (f 2), .v (f 3), .v (f 4), .d 7, .v (f 6), .v (f 7), .v (f 8), .v (f 9), .v (f 10), .v (f 11), .v (.int .i64 64), .v (.int .i64 (y.1 : Nat)), .v (f 14), .v (f 15), .v (f 16), .v (f 17), .v (f 18), .v (f 19), .v (f 20), .v (f 21), .v (f 22), .v (f 23), .v (f 24)], memOf [(7, .row 64 1 5 (.exact ((padI (keyP key) x y.1).map b8)))]⟩) (fun y => 64 - y.1) ?_ (⟨0, Nat.zero_le _⟩) ?_
 · rintro ⟨i, hi⟩ f
   obtain ⟨q, h_q⟩ : ∃ q, decide (i < 64) = q := ⟨_, rfl⟩
   have h_q' := (nat_lt i 64).trans h_q
   change VOk _ _ _ _ _
   iterate 2 refine k_k ?_
   refine k_s (by exact ev_lss rfl (gn rfl) rfl rfl h_q') ?_
   iterate 2 refine k_k ?_
   cases q
   · refine k_k ?_
     have hi64 : i = 64 := by have := of_decide_eq_false h_q; omega
     subst hi64
     refine vexit ?_
     change VOk _ _ _ _ _
     iterate 5 refine k_k ?_
     refine vret ?_
     refine post_ret (res1 Tryd.results69 (rv_tmp rfl)) ?_
     intro ρ w' hr
     refine ⟨_, rfl, ?_, hr.1⟩
     have hh := ret_row (id := 7) hr rfl
     rw [padK_eq hkl] at hh
     exact hh
   · refine k_k ?_
     have hlt : i < 64 := of_decide_eq_true h_q
     iterate 11 refine k_k ?_
     refine k_21 ?_
     refine k_s (by exact ev_loadi rfl (gn rfl) rfl Tryd.underlying5 rfl (rdg_row rfl) (by rw [List.getElem?_map, padI_get (by rw [hKl]; exact hlt)]; rfl)) ?_
     refine k_k ?_
     refine k_s (by exact ev_bin rfl (gn rfl) rfl rfl (fun w => xor8 (getD_lt hK8 _) hx _ _ w)) ?_
     refine k_21 ?_
     refine k_24 ?_
     iterate 2 refine k_k ?_
     refine k_20 ?_
     iterate 2 refine k_k ?_
     refine ⟨⟨i + 1, by omega⟩, by show 64 - (i + 1) < 64 - i; omega, ?_⟩
     exact weaker_forget (fun i => i == 1 || i == 5 || i == 12 || i == 13) []
 · exact weaker_forget (fun i => i == 1 || i == 5 || i == 12 || i == 13) []
theorem pad_ok {v : Value} {key : List Nat} {S : Nat → Prop} {x : Nat} (w : World) (hv : SlAt w v key.length 1 (key.map b8) S) (hkl : key.length ≤ 64) (hk8 : ∀ y ∈ key, y < 256) (hx : x < 256) : Calls Tryd.prog 69 #[v, b8 x] w fun e w' => ∃ v', e = .returned v' ∧ RetRow w w' v' 64 1 5 ((padK key x).map b8) ∧ Bw w w' := by
  by_cases h0 : 0 < key.length
  · exact pad_p w hv hkl hk8 hx h0
  · exact pad_0 w hv hkl hk8 hx (List.eq_nil_of_length_eq_zero (by omega))
end Go.Proofs.YtafbhakmkbehiaaDoor
end
section
namespace Go.Proofs.YtafbhakmkbehiaaDoor
open Go.RowKit Go.Vx
open Go.Toll (Gw)
open TollSha
set_option maxHeartbeats 4000000
set_option maxRecDepth 100000
def Hangs (base : Nat) (ρ : Nat → Nm) (S : Nat → Nat → Prop) (m : Mem) (rd : List Nat) (k : Nat) : Prop := k < base ∨ ∃ j ∈ rd, ∃ b, m j = some b ∧ ((b.owns (ρ j) ∧ k = (ρ j).g) ∨ S j k)
theorem sl_mono {w : World} {v : Value} {n size : Nat} {l : List Value} {S S' : Nat → Prop} (h : SlAt w v n size l S) (hs : ∀ k, S k → S' k) : SlAt w v n size l S' := by
  obtain ⟨ao, cap, h1, h2, h3, h4⟩ := h
  exact ⟨ao, cap, h1, h2, h3, h4.imp _root_.id fun ⟨a, b, c, d⟩ => ⟨a, b, hs _ c, d⟩⟩
theorem Hangs.mono {base : Nat} {ρ : Nat → Nm} {S : Nat → Nat → Prop} {m : Mem} {rd rd' : List Nat} {k : Nat} (h : Hangs base ρ S m rd k) (hs : ∀ j ∈ rd, j ∈ rd') : Hangs base ρ S m rd' k :=
  h.imp _root_.id fun ⟨j, a, b⟩ => ⟨j, hs j a, b⟩
def RdgF (w0 : World) (m : Mem) (rd : List Nat) (x : SV) (n : Nat) (l : List Value) : Prop :=
  ∀ ρ S w, Bw w0 w → RelOn w0.heap.size ρ S w (restr rd m) → SlAt w (x.c ρ) n 1 l (Hangs w0.heap.size ρ S m rd)
def PartsF (w0 : World) (m : Mem) (rd : List Nat) (x : SV) (ls : List (List Nat)) : Prop :=
  ∀ ρ S w, Bw w0 w → RelOn w0.heap.size ρ S w (restr rd m) → PartsAt w (x.c ρ) ls (Hangs w0.heap.size ρ S m rd)
section
variable {w0 : World} {m : Mem} {rd : List Nat}
theorem rdgf_row {id n : Nat} {e : TypeId} {l : List Value} (hid : id ∈ rd) (hm : m id = some (.row n 1 e (.exact l))) : RdgF w0 m rd (.d id) n l := fun ρ S w hb hR => by
  obtain ⟨xs, x1, x2, x3⟩ := relon_get hR hm hid
  have x2' : xs = l := x2
  subst x2'
  by_cases hv : (ρ id).val = nilV
  · rcases x3 with ⟨_, h0⟩ | ⟨off, cap, cur, fz, a1, _⟩
    · subst h0
      exact ⟨none, 0, hv, Nat.le_refl _, x1, .inl (List.eq_nil_of_length_eq_zero (by simpa using x1))⟩
    · rw [hv] at a1; simp [nilV] at a1
  · exact sl_mono (row_sl x3 x1) fun k hk => .inr ⟨id, hid, _, hm, .inl ⟨hv, hk⟩⟩
theorem rdgf_arr {id len cap : Nat} {b : List Value} {ty : TypeId} (hid : id ∈ rd) (hm : m id = some (.arr b ty)) (hn : b.length = len) (hc : len ≤ cap) : RdgF w0 m rd (.s id 0 len cap) len b := fun ρ S w hb hR => by
  have h := relon_get hR hm hid
  refine ⟨_, cap, rfl, hc, by omega, .inr ⟨_, rfl, .inr ⟨id, hid, _, hm, .inl ⟨True.intro, rfl⟩⟩, fun i x hx => ?_⟩⟩
  rw [add_at, Nat.zero_add]
  exact cell_arr (by rw [h.2]) hx
theorem partsf_arg {v : Value} {ls : List (List Nat)} {F : Nat → Prop} (h : PartsAt w0 v ls F) (hF : ∀ k, F k → k < w0.heap.size) : PartsF w0 m rd (.v v) ls := fun ρ S w hb _ => by
  obtain ⟨vs, h1, h2⟩ := partsAt_bw h hb
  refine ⟨vs, sl_mono h1 fun k hk => .inl (hF k hk), fun i l hl => ?_⟩
  obtain ⟨u, h3, h4, h5⟩ := h2 i l hl
  exact ⟨u, h3, sl_mono h4 fun k hk => .inl (hF k hk), h5⟩
def AllF (w0 : World) (m : Mem) (rd : List Nat) : List SV → List (List Nat) → Prop
  | [], [] => True
  | y :: ys, l :: ls => (RdgF w0 m rd y l.length (l.map b8) ∧ ∀ x ∈ l, x < 256) ∧ AllF w0 m rd ys ls
  | _, _ => False
theorem allf_len : ∀ {ys : List SV} {ls : List (List Nat)}, AllF w0 m rd ys ls → ys.length = ls.length
  | [], [], _ => rfl
  | _ :: _, _ :: _, h => by simp [allf_len h.2]
  | [], _ :: _, h => h.elim
  | _ :: _, [], h => h.elim
theorem allf_get : ∀ {ys : List SV} {ls : List (List Nat)}, AllF w0 m rd ys ls → ∀ (i : Nat) (l : List Nat), ls[i]? = some l → ∃ y, ys[i]? = some y ∧ RdgF w0 m rd y l.length (l.map b8) ∧ ∀ x ∈ l, x < 256
  | [], [], _, i, l, hl => by simp at hl
  | y :: _, _ :: _, h, 0, l, hl => by
    simp only [List.getElem?_cons_zero, Option.some.injEq] at hl
    subst hl
    exact ⟨y, rfl, h.1⟩
  | _ :: _, _ :: _, h, i + 1, l, hl => by
    simp only [List.getElem?_cons_succ] at hl ⊢
    exact allf_get h.2 i l hl
  | [], _ :: _, h, _, _, _ => h.elim
  | _ :: _, [], h, _, _, _ => h.elim
theorem partsf_own {id n : Nat} {ys : List SV} {ty : TypeId} {ls : List (List Nat)} (hid : id ∈ rd) (hm : m id = some (.cells ys ty)) (hn : ls.length = n) (h : AllF w0 m rd ys ls) : PartsF w0 m rd (.s id 0 n n) ls := fun ρ S w hb hR => by
  have hc := relon_get hR hm hid
  subst hn
  refine ⟨SV.cs ρ ys, ⟨_, _, rfl, Nat.le_refl _, by rw [cs_map, List.length_map, Nat.mul_one, allf_len h], .inr ⟨_, rfl, .inr ⟨id, hid, _, hm, .inl ⟨True.intro, rfl⟩⟩, fun i x hx => ?_⟩⟩, fun i l hl => ?_⟩
  · rw [add_at, Nat.zero_add]
    rw [cs_map, List.getElem?_map] at hx
    cases hy : ys[i]? with
    | none => rw [hy] at hx; cases hx
    | some y => rw [hy] at hx; simp only [Option.map_some, Option.some.injEq] at hx; rw [← hx]; exact cell_own hc.2 hy
  · obtain ⟨y, h1, h2, h3⟩ := allf_get h i l hl
    exact ⟨y.c ρ, by rw [cs_map, List.getElem?_map, h1]; rfl, h2 ρ S w hb hR, h3⟩
theorem partsf_put {x : SV} {ls : List (List Nat)} {id r n : Nat} {l : List SV} {D : Dat} {ty : TypeId} (rd2 : List Nat) (h : PartsF w0 m rd2 x ls) (hs : ∀ j ∈ rd2, j ∈ rd) (hi : id ∈ rd) (hr : r ∈ rd) (hni : id ∉ rd2) (hnr : r ∉ rd2) (hm1 : m id = some (.cells l ty)) (hm2 : m r = some (.row n 1 5 D)) :
    ∀ ρ S w, Bw w0 w → RelOn w0.heap.size ρ S w (restr rd m) → ∃ F, PartsAt w (x.c ρ) ls F ∧ ∀ k, F k → k ≠ (ρ id).g ∧ ((ρ r).val ≠ nilV → k ≠ (ρ r).g) := fun ρ S w hb hR => by
  refine ⟨_, h ρ S w hb (relon_mono rd2 hs hR), fun k hk => ?_⟩
  have hin : ∀ j, j ∈ rd → restr rd m j = m j := fun j hj => by unfold restr; rw [if_pos hj]
  have one : ∀ q c, q ∈ rd → q ∉ rd2 → m q = some c → c.owns (ρ q) → k ≠ (ρ q).g := by
    rintro q c hq hn2 hm ho rfl
    rcases hk with hk | ⟨j, hj, b, hb', h1 | h1⟩
    · have := (Good.own (relon_get hR hm hq) ho).1
      omega
    · have := hR.inj q _ j _ ((hin q hq).trans hm) ho ((hin j (hs j hj)).trans hb') h1.1 h1.2
      subst this
      exact hn2 hj
    · exact hR.dis q c j ((hin q hq).trans hm) ho (by rw [hin j (hs j hj), hb']; rfl) h1
  exact ⟨one id _ hi hni hm1 True.intro, fun hv => one r _ hr hnr hm2 hv⟩
theorem hangs_lt {ρ : Nat → Nm} {S : Nat → Nat → Prop} {w : World} (hb : Bw w0 w) (hR : RelOn w0.heap.size ρ S w (restr rd m)) : ∀ k, Hangs w0.heap.size ρ S m rd k → k < w.heap.size := fun k hk => by
  have hin : ∀ j, j ∈ rd → restr rd m j = m j := fun j hj => by unfold restr; rw [if_pos hj]
  rcases hk with hk | ⟨j, hj, b, hb', h1 | h1⟩
  · exact Nat.lt_of_lt_of_le hk hb.size
  · rw [h1.2]; exact (Good.own (relon_get hR hb' hj) h1.1).2
  · exact hR.lt j k (by rw [hin j hj, hb']; rfl) h1
end
theorem size1 {a : Array Value} (h : a.size = 1) : ∃ c, a = #[c] := by
  have h' : a.toList.length = 1 := by simpa using h
  obtain ⟨c, hc⟩ := List.length_eq_one_iff.1 h'
  exact ⟨c, by apply Array.ext'; rw [hc]⟩
theorem bsl1 (v : Value) (w : World) (h : v.cells.size = 1) : (Instr.buildSlice 85 1 #[(0, v)]).run Tryd.prog w = .ok (.slice (some ⟨w.heap.size, 0, none⟩) 1 1) (w.alloc (.cells v.cells 22)) := by
  have hz : ∀ w, (zeroValue 22).run Tryd.prog w = .ok (.slice none 0 0) w := Tryd.zeroValue22
  have hs : ∀ w, (Go.sizeOf 22).run Tryd.prog w = .ok 1 w := Tryd.sizeOf22
  obtain ⟨c, hc⟩ := size1 h
  unfold Instr.buildSlice
  have hzc : Value.cells (.slice none 0 0) = #[.slice none 0 0] := rfl
  simp [run_underlying Tryd.underlying85, hs, hz, Instr.fill, hc, hzc, newRow, newObj]
  rw [show (Array.map (fun x => ([Value.slice none 0 0][x % 1]?).getD default) (Array.range 1)) = #[.slice none 0 0] from by kernel_rfl]
  rfl
theorem bsl2 (v u : Value) (w : World) (h : v.cells.size = 1) (h' : u.cells.size = 1) : (Instr.buildSlice 85 2 #[(0, v), (1, u)]).run Tryd.prog w = .ok (.slice (some ⟨w.heap.size, 0, none⟩) 2 2) (w.alloc (.cells (v.cells ++ u.cells) 22)) := by
  have hz : ∀ w, (zeroValue 22).run Tryd.prog w = .ok (.slice none 0 0) w := Tryd.zeroValue22
  have hs : ∀ w, (Go.sizeOf 22).run Tryd.prog w = .ok 1 w := Tryd.sizeOf22
  obtain ⟨c, hc⟩ := size1 h
  obtain ⟨d, hd⟩ := size1 h'
  unfold Instr.buildSlice
  have hzc : Value.cells (.slice none 0 0) = #[.slice none 0 0] := rfl
  simp [run_underlying Tryd.underlying85, hs, hz, Instr.fill, hc, hd, hzc, newRow, newObj]
  rw [show (Array.map (fun x => ([Value.slice none 0 0][x % 1]?).getD default) (Array.range 2)) = #[.slice none 0 0, .slice none 0 0] from by kernel_rfl]
  rfl
theorem ev_buildsl2 {P : Program} {w0 : World} {ops : Array Oper} {o : Oper} {s : VS} {ty e : TypeId} {x y : Operand} {n id : Nat} {sv sv2 : SV} {l l2 : List SV} (rd : List Nat) (_hd : o.dst = some id) (ho : o.op = .buildSlice ty 2 #[(0, x), (1, y)]) (hgd : Want ops o s)
    (hx : svEval s x = sv) (hy : svEval s y = sv2) (hc : ∀ ρ S w, RelOn w0.heap.size ρ S w (restr rd s.mem) → (sv.c ρ).cells.toList = SV.cs ρ l ∧ (sv2.c ρ).cells.toList = SV.cs ρ l2) (hn : l.length = n) (hn2 : l2.length = n) (hid : SV.hasL id (l ++ l2) = false)
    (hb : ∀ v u w, v.cells.size = n → u.cells.size = n → (Instr.buildSlice ty 2 #[(0, v), (1, u)]).run P w = .ok (.slice (some ⟨w.heap.size, 0, none⟩) 2 2) (w.alloc (.cells (v.cells ++ u.cells) e))) : Ev P ops w0 o s ⟨.s id 0 2 2, [(id, .cells (l ++ l2) e)], [], [id], rd⟩ :=
  ⟨by simp [Eff.ok], .inr ⟨hgd, fun ρ S w hbw hR => by
    have e0 := svEval_c s ρ x
    rw [hx] at e0
    have e1 := svEval_c s ρ y
    rw [hy] at e1
    obtain ⟨hcs, hcs2⟩ := hc ρ S w hR
    have hsz : (sv.c ρ).cells.size = n := by rw [← Array.length_toList, hcs, cs_map, List.length_map]; exact hn
    have hsz2 : (sv2.c ρ).cells.size = n := by rw [← Array.length_toList, hcs2, cs_map, List.length_map]; exact hn2
    have hcells : (sv.c ρ).cells ++ (sv2.c ρ).cells = (SV.cs ρ (l ++ l2)).toArray := by apply Array.ext'; rw [Array.toList_append, hcs, hcs2]; simp [cs_map]
    have hrun := hb _ _ w hsz hsz2
    rw [hcells] at hrun
    refine .inl ⟨.slice (some ⟨w.heap.size, 0, none⟩) 2 2, w.alloc (.cells (SV.cs ρ (l ++ l2)).toArray e), ?_, fun j => if j = id then ⟨w.heap.size, undef⟩ else ρ j, fun _ _ => False, ?_⟩
    · simp only [execOp, ho, List.map_toArray, List.map_cons, List.map_nil, e0, e1]
      rw [Sem.run_bind, hrun]
      rfl
    · have := out_new (base := w0.heap.size) (t := s.mem) (ρ := ρ) (S := S) (w := w) (w' := w.alloc (.cells (SV.cs ρ (l ++ l2)).toArray e)) (val := .s id 0 2 2) (rd := rd) (up := []) (id := id) (b := .cells (l ++ l2) e) (m := ⟨w.heap.size, undef⟩) (S1 := fun _ => False)
        rfl rfl rfl (by simp) (fun k hk _ => heap_alloc_old w _ hk) (fun ρ' g1 g2 => by
          refine ⟨by rw [g1]; exact hbw.size, ?_⟩
          rw [g1]
          simp only [cellsObj]
          rw [cs_upd (nw := [id]) (fun i hi => g2 i (by simpa using hi)) (fun i hi => by simp at hi; rw [hi]; exact hid)]
          exact heap_alloc_new w _) (fun _ h => h.elim) (fun _ => .inr ⟨Nat.le_refl _, fun h => h⟩)
      simpa [SV.c] using this⟩⟩
theorem padK_len (k : List Nat) (x : Nat) : (padK k x).length = 64 := by simp [padK]
theorem padK_lt {k : List Nat} {x : Nat} (h : ∀ y ∈ k, y < 256) (hx : x < 256) : ∀ y ∈ padK k x, y < 256 := fun y hy => by
  simp only [padK, List.mem_map, List.mem_range] at hy
  obtain ⟨i, _, rfl⟩ := hy
  exact Nat.xor_lt_two_pow (n := 8) (getD_lt h i) hx
theorem sha_lt (s : List Nat) : ∀ x ∈ sha s, x < 256 := out_lt _
theorem hmac_eq {key s : List Nat} (h : key.length ≤ 64) : sha (padK key 92 ++ sha (padK key 54 ++ s)) = hmac key s := by
  unfold hmac TollSha.keyOf
  rw [if_neg (by omega)]
theorem hmac_len (k s : List Nat) : (hmac k s).length = 32 := sha_len _
theorem hmac_lt (k s : List Nat) : ∀ x ∈ hmac k s, x < 256 := sha_lt _
theorem macOf_ok {v u : Value} {key : List Nat} {ls : List (List Nat)} {F G : Nat → Prop} (w : World) (hL : LaidK w) (hH : LaidH w) (hb1 : 6 < w.heap.size) (hv : SlAt w v key.length 1 (key.map b8) G) (hkl : key.length ≤ 64) (hk8 : ∀ y ∈ key, y < 256) (hp : PartsAt w u ls F) (hF : ∀ k, F k → k < w.heap.size) (hlt : ls.flatten.length < 1040000) (hln : ls.length ≤ 1048576) : Calls Tryd.prog 65 #[v, u] w fun e w' => e = .returned (.agg ((hmac key ls.flatten).map b8).toArray) ∧ Bw w w' := by
 obtain ⟨I, hI⟩ : ∃ I, padK key 54 = I := ⟨_, rfl⟩
 obtain ⟨O, hO⟩ : ∃ O, padK key 92 = O := ⟨_, rfl⟩
 have hIl : I.length = 64 := by rw [← hI]; exact padK_len _ _
 have hOl : O.length = 64 := by rw [← hO]; exact padK_len _ _
 have hI8 : ∀ x ∈ I, x < 256 := by rw [← hI]; exact padK_lt hk8 (by decide)
 have hO8 : ∀ x ∈ O, x < 256 := by rw [← hO]; exact padK_lt hk8 (by decide)
 have hres : sha [O, sha ([I].flatten ++ ls.flatten)].flatten = hmac key ls.flatten := by rw [← hmac_eq hkl, hI, hO]; simp
 rw [← hres]
 go_enter Tryd.func65, Tryd.ntmps65
 refine ve_go ?_
 simp only [List.map_cons, List.map_nil]
 iterate 2 refine k_k ?_
 refine k_29 ?_
 iterate 5 refine k_k ?_
 refine k_s (by exact ev_len rfl (gn rfl) rfl Tryd.underlying22 (rdg_arg hv)) ?_
 refine k_s (by exact ev_gtr (p := false) rfl (gn rfl) rfl rfl (decide_eq_false (by omega))) ?_
 iterate 5 refine k_k ?_
 refine k_s (by exact ev_callnewst 700 (by decide) hH (fun w h => New_ok w h) rfl rfl (gn rfl) (en_of Tryd.func51 (by kernel_rfl) rfl)) ?_
 iterate 6 refine k_k ?_
 refine k_s (by exact ev_callrow [] rfl rfl (gn rfl) rfl (en_of Tryd.func69 (by kernel_rfl) rfl) (n := 64) (size := 1) (l := I.map b8) (by simp [hIl]) (fun ρ S w' hb hR => by rw [← hI]; exact pad_ok w' (sl_bw hv hb) hkl hk8 (by decide))) ?_
 refine k_s (by exact ev_buildsl1 (n := 1) (l := [.d 18]) [18] rfl rfl (gn rfl) rfl (fun ρ S w' hR => by have hh := row_cells (id := 18) hR (by simp) rfl; exact hh.1) rfl rfl bsl1) ?_
 refine k_s (by exact ev_callput (id := 15) (r := 700) (n := 0) (wl := 0) (a := []) (ls := [I]) 701 [15, 700, 18, 19] (by decide) hL hb1 rfl (gn rfl) (en_of Tryd.func52 (by kernel_rfl) rfl) rfl rfl rfl rfl rfl rfl (by simp) (by simp) (partsf_put [18, 19] (partsf_own (by simp) rfl rfl ⟨⟨by rw [hIl]; exact rdgf_row (by simp) rfl, hI8⟩, trivial⟩) (by simp) (by simp) (by simp) (by decide) (by decide) rfl rfl) (fun x hx => by cases hx) (by simp [hIl]) (by simp)) ?_
 iterate 5 refine k_k ?_
 refine k_s (by exact ev_callput (id := 15) (r := 701) (a := [I].flatten) (ls := ls) 702 [15, 701] (by decide) hL hb1 rfl (gn rfl) (en_of Tryd.func52 (by kernel_rfl) rfl) rfl rfl rfl rfl rfl rfl (by simp) (by simp) (partsf_put [] (partsf_arg hp hF) (by simp) (by simp) (by simp) (by decide) (by decide) rfl rfl) (by simpa using hI8) (by simp only [List.length_append, List.flatten_cons, List.flatten_nil, List.length_nil, hIl]; omega) hln) ?_
 iterate 4 refine k_k ?_
 refine k_s (by exact ev_callp (v := .agg ((sha ([I].flatten ++ ls.flatten)).map b8).toArray) [15, 702] rfl (gn rfl) rfl (en_of Tryd.func53 (by kernel_rfl) rfl) (fun ρ S w' hb hR => c_sum (id := 15) (a := [I].flatten ++ ls.flatten) hR (by simp) (by simp) rfl rfl rfl rfl (hL.bw hb) (fun x hx => by rcases List.mem_append.1 hx with hx | hx; exact hI8 x (by simpa using hx); exact flat_lt hp x hx) (by simp only [List.length_append, List.flatten_cons, List.flatten_nil, List.length_nil, hIl]; omega))) ?_
 refine k_29 ?_
 refine k_3 ?_
 iterate 4 refine k_k ?_
 refine k_s (by exact ev_callrow [] rfl rfl (gn rfl) rfl (en_of Tryd.func69 (by kernel_rfl) rfl) (n := 64) (size := 1) (l := O.map b8) (by simp [hOl]) (fun ρ S w' hb hR => by rw [← hO]; exact pad_ok w' (sl_bw hv hb) hkl hk8 (by decide))) ?_
 refine k_s (by exact ev_slicea rfl (gn rfl) rfl Tryd.underlying23 Tryd.sizeOf5) ?_
 refine k_s (by exact ev_buildsl2 (n := 1) (l := [.d 27]) (l2 := [.s 7 0 32 32]) [27] rfl rfl (gn rfl) rfl rfl (fun ρ S w' hR => by have hh := row_cells (id := 27) hR (by simp) rfl; exact ⟨hh.1, rfl⟩) rfl rfl rfl bsl2) ?_
 refine k_s (by exact ev_callp (v := .agg ((sha [O, sha ([I].flatten ++ ls.flatten)].flatten).map b8).toArray) [7, 27, 29] rfl (gn rfl) rfl (en_of Tryd.func25 (by kernel_rfl) rfl) (fun ρ S w' hb hR => Of_ok w' (hL.bw hb) (hH.bw hb) (Nat.lt_of_lt_of_le hb1 hb.size) (partsf_own (id := 29) (n := 2) (ls := [O, sha ([I].flatten ++ ls.flatten)]) (by simp) (by rfl) rfl (by exact ⟨⟨by rw [hOl]; exact rdgf_row (by simp) rfl, hO8⟩, ⟨by rw [sha_len]; exact rdgf_arr (by simp) rfl (by simp [sha_len]) (by decide), sha_lt _⟩, trivial⟩) ρ S w' hb hR) (hangs_lt hb hR) (by simp [hOl, sha_len]) (by simp))) ?_
 refine k_3 ?_
 refine k_k ?_
 refine vret ?_
 refine post_ret (res1 Tryd.results65 (rv_cellr (vs := (sha [O, sha ([I].flatten ++ ls.flatten)].flatten).map b8) rfl rfl Tryd.underlying23 rfl Tryd.sizeOf23 (List.take_of_length_le (by simp [sha_len])) (by simp [sha_len]))) ?_
 intro ρ w' hr
 exact ⟨rfl, hr.1⟩
end Go.Proofs.YtafbhakmkbehiaaDoor
end
section
namespace Go.Proofs.YtafbhakmkbehiaaDoor
open Go.RowKit Go.Vx TollMont
open Go.Toll (Gw)
open TollEc (F pp cb Jp Pt smul add base nn neg)
open TollSha (sha hmac)
set_option maxHeartbeats 4000000
set_option maxRecDepth 100000
def datM (n : Nat) : Dat := ⟨fun xs w S => ∃ g, xs = [ptr g] ∧ S g ∧ w.heap[g]? = some (.cells (modc n).toArray 80 (0, 0)), fun ⟨g, h1, h2, h3⟩ hk => ⟨g, h1, h2, by rw [hk g h2]; exact h3⟩⟩
theorem ret_dat {w0 w : World} {s : VS} {ρ : Nat → Nm} {id : Nat} {D : Dat} (hr : Rel w0 ρ s w) (hm : s.mem id = some (.dat D)) : RetD w0 w (ρ id).val D := by
  obtain ⟨hb, S, hR⟩ := hr
  have h0 := hR.good id _ hm
  exact ⟨S id, h0, fun k hk => ⟨hR.fr id k (by rw [hm]; rfl) hk, hR.lt id k (by rw [hm]; rfl) hk⟩⟩
theorem datM_at {n g : Nat} {w : World} (h : w.heap[g]? = some (.cells (modc n).toArray 80 (0, 0))) : At w g n := fun j v hj => by
  rw [Nat.zero_add]
  exact cell_arr (l := modc n) (ty := 80) h hj
theorem new_d {n : Nat} (h : Md n) (w : World) : Calls Tryd.prog 41 #[N n] w fun e w' => ∃ v, e = .returned (.tuple (v :: [.int .i64 0]).toArray) ∧ RetD w w' v (datM n) ∧ Bw w w' :=
  (new_ok h w).mono fun e w' ⟨g, h1, h2, h3, h4⟩ => ⟨ptr g, h2, ⟨fun k => k = g, ⟨g, rfl, rfl, h3⟩, fun k hk => by subst hk; exact ⟨h1, (Array.getElem?_eq_some_iff.1 h3).1⟩⟩, h4.b⟩
theorem order_d (w : World) (hL : Laid w) : Calls Tryd.prog 18 #[] w fun e w' => ∃ v, e = .returned (.tuple (v :: [N nn]).toArray) ∧ RetD w w' v (datM nn) ∧ Bw w w' := by
  go_enter Tryd.func18, Tryd.ntmps18
  refine ve_go ?_
  simp only [List.map_cons, List.map_nil]
  refine vseq ?_
  apply vrp
  · apply VE.cons
    · exact ev_assign rfl (gn rfl)
    simp only [nmx, seval]
    apply VE.cons
    · exact ev_alloc rfl rfl (gn rfl) Tryd.zeroValue50
    simp only [nmx, seval]
    exact VE.nil _
  · kernel_rfl
  change VOk _ _ _ _ _
  refine vseq ?_
  apply vrp
  · apply VE.cons
    · exact ev_call rfl (gn rfl) rfl (en_of Tryd.func45 (by kernel_rfl) rfl) (fun w' hw' => order_ok w' (hL.bw hw'))
    simp only [nmx, seval]
    apply VE.cons
    · exact ev_call rfl (gn rfl) rfl (en_of Tryd.func20 (by kernel_rfl) rfl) (fun w' hw' => ofN nn (by decide) w')
    simp only [nmx, seval]
    apply VE.cons
    · exact ev_alloc rfl rfl (gn rfl) Tryd.zeroValue50
    simp only [nmx, seval]
    apply VE.cons
    · exact ev_store rfl (gn rfl) rfl rfl rfl Tryd.sizeOf50 rfl (by simp) rfl
    simp only [nmx, seval]
    exact VE.nil _
  · kernel_rfl
  change VOk _ _ _ _ _
  refine vseq ?_
  apply vrp
  · apply VE.cons
    · first | exact ev_load rfl (gn rfl) rfl rfl Tryd.underlying50 rfl Tryd.sizeOf50 rfl rfl | exact ev_loadx rfl (gn rfl) rfl Tryd.underlying50 rfl Tryd.sizeOf50 (by assumption) rfl | exact ev_loada rfl (gn rfl) rfl rfl Tryd.underlying50 rfl Tryd.sizeOf50 rfl
    simp only [nmx, seval]
    apply VE.cons
    · exact ev_calldt (D := datM nn) (ys := [.int .i64 0]) [] rfl rfl (gn rfl) rfl (en_of Tryd.func41 (by kernel_rfl) rfl) (fun ρ S w' hb hR => new_d mdn w')
    simp only [nmx, seval]
    apply VE.cons
    · exact ev_move rfl (gn rfl)
    simp only [nmx, seval]
    apply VE.cons
    · first | exact ev_extract rfl (gn rfl) rfl rfl | exact ev_extractt rfl (gn rfl) rfl rfl
    simp only [nmx, seval]
    apply VE.cons
    · first | exact ev_extract rfl (gn rfl) rfl rfl | exact ev_extractt rfl (gn rfl) rfl rfl
    simp only [nmx, seval]
    apply VE.cons
    · exact ev_assign rfl (gn rfl)
    simp only [nmx, seval]
    apply VE.cons
    · exact ev_assign rfl (gn rfl)
    simp only [nmx, seval]
    exact VE.nil _
  · kernel_rfl
  change VOk _ _ _ _ _
  refine vseq ?_
  apply vrd (by kernel_rfl)
  · apply VE.cons
    · exact ev_move rfl (gn rfl)
    simp only [nmx, seval]
    apply VE.cons
    · first | exact ev_load rfl (gn rfl) rfl rfl Tryd.underlying50 rfl Tryd.sizeOf50 rfl rfl | exact ev_loadx rfl (gn rfl) rfl Tryd.underlying50 rfl Tryd.sizeOf50 (by assumption) rfl | exact ev_loada rfl (gn rfl) rfl rfl Tryd.underlying50 rfl Tryd.sizeOf50 rfl
    simp only [nmx, seval]
    apply VE.cons
    · exact ev_assign rfl (gn rfl)
    simp only [nmx, seval]
    apply VE.cons
    · exact ev_store rfl (gn rfl) rfl rfl rfl Tryd.sizeOf50 rfl (by simp) rfl
    simp only [nmx, seval]
    exact VE.nil _
  · kernel_rfl
  change VOk _ _ _ _ _
  refine vret ?_
  refine post_ret (res2 Tryd.results18 (rv_tmp rfl) (rv_cell rfl rfl Tryd.underlying50 rfl Tryd.sizeOf50 rfl rfl)) ?_
  intro ρ w' hr
  exact ⟨_, rfl, ret_dat hr rfl, hr.1⟩
theorem fine_z {a : Nat} (ha : a < R) (w : World) (hL : Laid w) (h : a = 0) : Calls Tryd.prog 17 #[B32 a] w fun e w' => e = .returned (.bool false) ∧ Bw w w' := by
  go_enter Tryd.func17, Tryd.ntmps17
  refine ve_go ?_
  simp only [List.map_cons, List.map_nil]
  refine vseq ?_
  apply vrp
  · apply VE.cons
    · exact ev_box rfl rfl (gn rfl) rfl
    simp only [nmx, seval]
    apply VE.cons
    · exact ev_assign rfl (gn rfl)
    simp only [nmx, seval]
    exact VE.nil _
  · kernel_rfl
  change VOk _ _ _ _ _
  refine vseq ?_
  apply vrp
  · apply VE.cons
    · exact ev_calldt (D := datM nn) (ys := [N nn]) [] rfl rfl (gn rfl) rfl (en_of Tryd.func18 (by kernel_rfl) rfl) (fun ρ S w' hb hR => order_d w' (hL.bw hb))
    simp only [nmx, seval]
    apply VE.cons
    · exact ev_move rfl (gn rfl)
    simp only [nmx, seval]
    apply VE.cons
    · first | exact ev_extract rfl (gn rfl) rfl rfl | exact ev_extractt rfl (gn rfl) rfl rfl
    simp only [nmx, seval]
    apply VE.cons
    · first | exact ev_extract rfl (gn rfl) rfl rfl | exact ev_extractt rfl (gn rfl) rfl rfl
    simp only [nmx, seval]
    apply VE.cons
    · exact ev_alloc rfl rfl (gn rfl) Tryd.zeroValue50
    simp only [nmx, seval]
    apply VE.cons
    · exact ev_assign rfl (gn rfl)
    simp only [nmx, seval]
    apply VE.cons
    · exact ev_store rfl (gn rfl) rfl rfl rfl Tryd.sizeOf50 rfl (by simp) rfl
    simp only [nmx, seval]
    exact VE.nil _
  · kernel_rfl
  change VOk _ _ _ _ _
  refine vseq ?_
  apply vrd (by kernel_rfl)
  · apply VE.cons
    · first | exact ev_load rfl (gn rfl) rfl rfl Tryd.underlying23 rfl Tryd.sizeOf23 rfl rfl | exact ev_loadx rfl (gn rfl) rfl Tryd.underlying23 rfl Tryd.sizeOf23 (by assumption) rfl | exact ev_loada rfl (gn rfl) rfl rfl Tryd.underlying23 rfl Tryd.sizeOf23 rfl
    simp only [nmx, seval]
    apply VE.cons
    · refine ev_pure' (gn rfl) (fun ρ w => by simp only [VS.act, SV.c, List.map_cons, List.map_nil]; go_simp; exact rfl) (fun _ _ => rfl)
    simp only [nmx, seval]
    apply VE.cons
    · exact ev_bin (c := .bool false) rfl (gn rfl) rfl rfl (fun w => neb_z ha h _ _ w)
    simp only [nmx, seval]
    apply VE.cons
    · exact ev_move rfl (gn rfl)
    simp only [nmx, seval]
    apply VE.cons
    · first | exact Ev.skip (fun _ => rfl) | exact ev_load rfl (fun _ => rfl) rfl rfl Tryd.underlying23 rfl Tryd.sizeOf23 rfl rfl | exact ev_loadx rfl (fun _ => rfl) rfl Tryd.underlying23 rfl Tryd.sizeOf23 (by assumption) rfl | exact ev_loada rfl (fun _ => rfl) rfl rfl Tryd.underlying23 rfl Tryd.sizeOf23 rfl
    simp only [nmx, seval]
    apply VE.cons
    · first | exact Ev.skip (fun _ => rfl) | refine ev_pure' (fun _ => rfl) (fun ρ w => by simp only [VS.act, SV.c, List.map_cons, List.map_nil]; go_simp; exact rfl) (fun _ _ => rfl)
    simp only [nmx, seval]
    apply VE.cons
    · first | exact Ev.skip (fun _ => rfl) | exact ev_load rfl (fun _ => rfl) rfl rfl Tryd.underlying50 rfl Tryd.sizeOf50 rfl rfl | exact ev_loadx rfl (fun _ => rfl) rfl Tryd.underlying50 rfl Tryd.sizeOf50 (by assumption) rfl | exact ev_loada rfl (fun _ => rfl) rfl rfl Tryd.underlying50 rfl Tryd.sizeOf50 rfl
    simp only [nmx, seval]
    apply VE.cons
    · first | exact Ev.skip (fun _ => rfl) | refine ev_pure' (fun _ => rfl) (fun ρ w => by simp only [VS.act, SV.c, List.map_cons, List.map_nil]; go_simp; exact rfl) (fun _ _ => rfl)
    simp only [nmx, seval]
    apply VE.cons
    · refine ev_pure' (gn rfl) (fun ρ w => by simp only [VS.act, SV.c, List.map_cons, List.map_nil]; go_simp; exact rfl) (fun _ _ => rfl)
    simp only [nmx, seval]
    apply VE.cons
    · exact ev_assign rfl (gn rfl)
    simp only [nmx, seval]
    exact VE.nil _
  · kernel_rfl
  change VOk _ _ _ _ _
  refine vret ?_
  refine post_ret (res1 Tryd.results17 (rv_tmp rfl)) ?_
  intro ρ w' hr
  exact ⟨rfl, hr.1⟩
theorem fine_n {a : Nat} (ha : a < R) (w : World) (hL : Laid w) (h : a ≠ 0) : Calls Tryd.prog 17 #[B32 a] w fun e w' => e = .returned (.bool (decide (a < nn))) ∧ Bw w w' := by
  go_enter Tryd.func17, Tryd.ntmps17
  refine ve_go ?_
  simp only [List.map_cons, List.map_nil]
  refine vseq ?_
  apply vrp
  · apply VE.cons
    · exact ev_box rfl rfl (gn rfl) rfl
    simp only [nmx, seval]
    apply VE.cons
    · exact ev_assign rfl (gn rfl)
    simp only [nmx, seval]
    exact VE.nil _
  · kernel_rfl
  change VOk _ _ _ _ _
  refine vseq ?_
  apply vrp
  · apply VE.cons
    · exact ev_calldt (D := datM nn) (ys := [N nn]) [] rfl rfl (gn rfl) rfl (en_of Tryd.func18 (by kernel_rfl) rfl) (fun ρ S w' hb hR => order_d w' (hL.bw hb))
    simp only [nmx, seval]
    apply VE.cons
    · exact ev_move rfl (gn rfl)
    simp only [nmx, seval]
    apply VE.cons
    · first | exact ev_extract rfl (gn rfl) rfl rfl | exact ev_extractt rfl (gn rfl) rfl rfl
    simp only [nmx, seval]
    apply VE.cons
    · first | exact ev_extract rfl (gn rfl) rfl rfl | exact ev_extractt rfl (gn rfl) rfl rfl
    simp only [nmx, seval]
    apply VE.cons
    · exact ev_alloc rfl rfl (gn rfl) Tryd.zeroValue50
    simp only [nmx, seval]
    apply VE.cons
    · exact ev_assign rfl (gn rfl)
    simp only [nmx, seval]
    apply VE.cons
    · exact ev_store rfl (gn rfl) rfl rfl rfl Tryd.sizeOf50 rfl (by simp) rfl
    simp only [nmx, seval]
    exact VE.nil _
  · kernel_rfl
  change VOk _ _ _ _ _
  refine vseq ?_
  apply vrd (by kernel_rfl)
  · apply VE.cons
    · first | exact ev_load rfl (gn rfl) rfl rfl Tryd.underlying23 rfl Tryd.sizeOf23 rfl rfl | exact ev_loadx rfl (gn rfl) rfl Tryd.underlying23 rfl Tryd.sizeOf23 (by assumption) rfl | exact ev_loada rfl (gn rfl) rfl rfl Tryd.underlying23 rfl Tryd.sizeOf23 rfl
    simp only [nmx, seval]
    apply VE.cons
    · refine ev_pure' (gn rfl) (fun ρ w => by simp only [VS.act, SV.c, List.map_cons, List.map_nil]; go_simp; exact rfl) (fun _ _ => rfl)
    simp only [nmx, seval]
    apply VE.cons
    · exact ev_bin (c := .bool true) rfl (gn rfl) rfl rfl (fun w => neb_nz ha h _ _ w)
    simp only [nmx, seval]
    apply VE.cons
    · exact ev_move rfl (gn rfl)
    simp only [nmx, seval]
    apply VE.cons
    · first | exact Ev.skip (fun _ => rfl) | exact ev_load rfl (fun _ => rfl) rfl rfl Tryd.underlying23 rfl Tryd.sizeOf23 rfl rfl | exact ev_loadx rfl (fun _ => rfl) rfl Tryd.underlying23 rfl Tryd.sizeOf23 (by assumption) rfl | exact ev_loada rfl (fun _ => rfl) rfl rfl Tryd.underlying23 rfl Tryd.sizeOf23 rfl
    simp only [nmx, seval]
    apply VE.cons
    · first | exact Ev.skip (fun _ => rfl) | exact ev_call rfl (fun _ => rfl) rfl (en_of Tryd.func20 (by kernel_rfl) rfl) (fun w' hw' => ofN a ha w')
    simp only [nmx, seval]
    apply VE.cons
    · first | exact Ev.skip (fun _ => rfl) | exact ev_load rfl (fun _ => rfl) rfl rfl Tryd.underlying50 rfl Tryd.sizeOf50 rfl rfl | exact ev_loadx rfl (fun _ => rfl) rfl Tryd.underlying50 rfl Tryd.sizeOf50 (by assumption) rfl | exact ev_loada rfl (fun _ => rfl) rfl rfl Tryd.underlying50 rfl Tryd.sizeOf50 rfl
    simp only [nmx, seval]
    apply VE.cons
    · first | exact Ev.skip (fun _ => rfl) | exact ev_call rfl (fun _ => rfl) rfl (en_of Tryd.func42 (by kernel_rfl) rfl) (fun w' hw' => less_ok a nn ha (by decide) w')
    simp only [nmx, seval]
    apply VE.cons
    · refine ev_pure' (gn rfl) (fun ρ w => by simp only [VS.act, SV.c, List.map_cons, List.map_nil]; go_simp; exact rfl) (fun _ _ => rfl)
    simp only [nmx, seval]
    apply VE.cons
    · exact ev_assign rfl (gn rfl)
    simp only [nmx, seval]
    exact VE.nil _
  · kernel_rfl
  change VOk _ _ _ _ _
  refine vret ?_
  refine post_ret (res1 Tryd.results17 (rv_tmp rfl)) ?_
  intro ρ w' hr
  exact ⟨rfl, hr.1⟩
theorem fine_ok {a : Nat} (ha : a < R) (w : World) (hL : Laid w) : Calls Tryd.prog 17 #[B32 a] w fun e w' => e = .returned (.bool (sec a)) ∧ Bw w w' := by
  by_cases h : a = 0
  · have e : sec a = false := decide_eq_false (fun c => c.1 h)
    rw [e]; exact fine_z ha w hL h
  · have e : sec a = decide (a < nn) := by unfold sec; simp [h]
    rw [e]; exact fine_n ha w hL h
end Go.Proofs.YtafbhakmkbehiaaDoor
end
section
namespace Go.Vx
open Go.RowKit Go.Toll
section
variable {P : Program} {w0 : World} {ops : Array Oper} {o : Oper} {s : VS}
def datP (p : List Value → Prop) : Dat := ⟨fun xs _ _ => p xs, fun h _ => h⟩
theorem ev_mnz {f : FuncId} {x : Operand} {t e : TypeId} {id n : Nat} (_hd : o.dst = some id) (ho : o.op = .call { callee := .value (.func f), args := #[x], argTypes := #[t] }) (hgd : Want ops o s)
    (hx : svEval s x = .v (.int .i64 (n : Nat))) (_hn0 : 0 < n)
    (hr : ∀ w, ∃ cs : Array Value, (callFunc f #[.int .i64 (n : Nat)]).run P w = .ok (.value (.slice (some ⟨w.heap.size, 0, none⟩) n cs.size)) (w.drew.drew.alloc (.cells cs e)) ∧ n ≤ cs.size ∧ cs.size ≤ maxLen) :
    Ev P ops w0 o s ⟨.d id, [(id, .row n 1 e (datP fun _ => True))], [], [id], []⟩ :=
  ⟨by simp [Eff.ok], .inr ⟨hgd, fun ρ S w hb hR => by
    have e1 := svEval_c s ρ x
    rw [hx] at e1
    simp only [SV.c] at e1
    obtain ⟨cs, h1, h2, h3⟩ := hr w
    refine .inl ⟨.slice (some ⟨w.heap.size, 0, none⟩) n cs.size, w.drew.drew.alloc (.cells cs e), ?_, fun j => if j = id then ⟨w.heap.size, .slice (some ⟨w.heap.size, 0, none⟩) n cs.size⟩ else ρ j, fun _ _ => False, ?_⟩
    · obtain ⟨dst, op, type, pos, after, guard⟩ := o
      simp only at ho
      subst ho
      rw [execOp_call_go]
      simp only [List.map_toArray, List.map_cons, List.map_nil, e1]
      exact h1
    · have hs : (w.drew.drew.alloc (.cells cs e)).heap[w.heap.size]? = some (.cells cs e) := heap_alloc_new w.drew.drew _
      have := out_new (base := w0.heap.size) (t := s.mem) (ρ := ρ) (S := S) (w := w) (w' := w.drew.drew.alloc (.cells cs e)) (val := .d id) (rd := []) (up := []) (id := id) (b := .row n 1 e (datP fun _ => True)) (m := ⟨w.heap.size, .slice (some ⟨w.heap.size, 0, none⟩) n cs.size⟩) (S1 := fun _ => False)
        rfl rfl rfl (by simp) (fun k hk _ => heap_alloc_old w.drew.drew _ hk) (fun ρ' g1 g2 => by
          refine ⟨cs.toList.take n, by simp; omega, True.intro, .inr ⟨0, cs.size, cs, (0, 0), by rw [g1], by rw [g1]; exact hb.size, by rw [g1]; exact hs, .inl rfl, h2, h3, by omega, by simp⟩⟩) (fun _ h => h.elim) (fun _ => .inr ⟨Nat.le_refl _, fun h => h⟩)
      simpa [SV.c] using this⟩⟩
theorem ev_cut3 {ty e : TypeId} {x y z : Operand} {id id2 n : Nat} {p : List Value → Prop} (_hd : o.dst = some id2) (ho : o.op = .slice ty x none (some y) (some z)) (hgd : Want ops o s) (hx : svEval s x = .d id) (hm : s.mem id = some (.row n 1 e (datP p)))
    (hu : P.underlying ty = some (.slice e)) (hs : ∀ w, (Go.sizeOf e).run P w = .ok 1 w) (hy : svEval s y = .v (.int .i64 (n : Nat))) (hz : svEval s z = .v (.int .i64 (n : Nat))) (hn0 : 0 < n) :
    Ev P ops w0 o s ⟨.d id2, [(id2, .row n 1 e (datP p))], [id], [id2], [id]⟩ := by
  refine ⟨by simp [Eff.ok], .inr ⟨hgd, fun ρ S w hb hR => ?_⟩⟩
  obtain ⟨xs, g1, g2, g3⟩ := relon_get hR hm (by simp)
  have e1 := svEval_c s ρ x
  rw [hx] at e1
  have e2 := svEval_c s ρ y
  rw [hy] at e2
  have e3 := svEval_c s ρ z
  rw [hz] at e3
  simp only [SV.c] at e1 e2 e3
  rcases g3 with ⟨_, h⟩ | ⟨off, cap, cur, fz, h1', h2', h3', h4', h5', h6', h7', h8'⟩
  · omega
  · have hbd : ∀ (k m : Nat) (c : BoundsCode), k ≤ m → (Instr.sliceBound (.int .i64 (k : Nat)) m c).run P w = .ok k w := by
      intro k m c hk
      unfold Instr.sliceBound
      rw [Sem.run_bind]
      simp only [asIntOf, Sem.run_pure, Result.andThen_ok]
      rw [if_pos ⟨by omega, by omega⟩]
      rfl
    have hrun : (execOp (s.act ρ).eval o).run P w = .ok (.value (.slice (some ⟨(ρ id).g, off, none⟩) n n)) w := by
      rw [h1'] at e1
      have key : (Instr.sliceBounds true n cap none (some (.int .i64 (n : Nat))) (some (.int .i64 (n : Nat)))).run P w = .ok (0, n, n) w := by
        unfold Instr.sliceBounds
        simp [hbd n cap _ h5', hbd n n _ (Nat.le_refl _)]
      simp [execOp, ho, e1, e2, e3, Instr.sliceAt, Instr.slice, run_underlying hu, hs, key, Addr.add]
      try omega
    refine .inl ⟨_, w, hrun, fun j => if j = id2 then ⟨(ρ id).g, .slice (some ⟨(ρ id).g, off, none⟩) n n⟩ else ρ j, fun _ _ => False, ?_⟩
    have := out_new (base := w0.heap.size) (t := s.mem) (ρ := ρ) (S := S) (w := w) (w' := w) (val := .d id2) (rd := [id]) (up := [id]) (id := id2) (b := .row n 1 e (datP p)) (m := ⟨(ρ id).g, .slice (some ⟨(ρ id).g, off, none⟩) n n⟩) (S1 := fun _ => False)
      rfl rfl rfl (Nat.le_refl _) (fun k hk _ => rfl) (fun ρ2 q1 _ => ⟨xs, g1, g2, by rw [q1]; exact .inr ⟨off, n, cur, fz, rfl, h2', h3', h4', Nat.le_refl _, by omega, by omega, h8'⟩⟩) (fun _ h => h.elim)
      (fun hob => .inl ⟨id, by simp, _, hm, by rw [Blk.owns, h1']; simp, rfl⟩)
    simpa [SV.c] using this
theorem cut_run' {ty e : TypeId} {x : Operand} {lo hi : Option Operand} {a b n size : Nat} {y : SV} {rd : List Nat} (ho : o.op = .slice ty x lo hi none) (hx : svEval s x = y)
    (hu : P.underlying ty = some (.slice e)) (hs : ∀ w, (Go.sizeOf e).run P w = .ok size w) (hr : ∀ ρ S w, Bw w0 w → RelOn w0.heap.size ρ S w (restr rd s.mem) → ∃ ao cap, y.c ρ = .slice ao n cap ∧ n ≤ cap)
    (hlo : (match lo with | none => SV.v (.int .i64 (0 : Nat)) | some z => svEval s z) = .v (.int .i64 (a : Nat))) (hhi : (match hi with | none => SV.v (.int .i64 (n : Nat)) | some z => svEval s z) = .v (.int .i64 (b : Nat))) (h1 : a ≤ b) (h2 : b ≤ n) :
    ∀ ρ S w, Bw w0 w → RelOn w0.heap.size ρ S w (restr rd s.mem) → (execOp (s.act ρ).eval o).run P w = .ok (.value ((SV.fn (cutV a b size) y).c ρ)) w := fun ρ S w hb hR => by
    have e1 := svEval_c s ρ x
    rw [hx] at e1
    obtain ⟨ao, cap, h3, h4⟩ := hr ρ S w hb hR
    rw [h3] at e1
    have hbd : ∀ (k m : Nat) (c : BoundsCode), k ≤ m → (Instr.sliceBound (.int .i64 (k : Nat)) m c).run P w = .ok k w := by
      intro k m c hk
      unfold Instr.sliceBound
      rw [Sem.run_bind]
      simp only [asIntOf, Sem.run_pure, Result.andThen_ok]
      rw [if_pos ⟨by omega, by omega⟩]
      rfl
    have e2 : ∀ z, lo = some z → (s.act ρ).eval z = .int .i64 (a : Nat) := fun z hz => by rw [svEval_c]; rw [hz] at hlo; simp only at hlo; rw [hlo]; simp [SV.c]
    have e3 : ∀ z, hi = some z → (s.act ρ).eval z = .int .i64 (b : Nat) := fun z hz => by rw [svEval_c]; rw [hz] at hhi; simp only at hhi; rw [hhi]; simp [SV.c]
    have ea : lo = none → a = 0 := fun hz => by
      rw [hz] at hlo; simp only [SV.v.injEq, Value.int.injEq, true_and] at hlo; omega
    have eb : hi = none → b = n := fun hz => by
      rw [hz] at hhi; simp only [SV.v.injEq, Value.int.injEq, true_and] at hhi; omega
    have key : (Instr.sliceBounds true n cap (lo.map (s.act ρ).eval) (hi.map (s.act ρ).eval) none).run P w = .ok (a, b, cap) w := by
      unfold Instr.sliceBounds
      cases hi with
      | none =>
        have := eb rfl; subst this
        cases lo with
        | none => have := ea rfl; subst this; simp
        | some z => simp [e2 z rfl, hbd a b _ h1]
      | some y' =>
        cases lo with
        | none => have := ea rfl; subst this; simp [e3 y' rfl, hbd b cap _ (by omega)]
        | some z => simp [e2 z rfl, e3 y' rfl, hbd a b _ h1, hbd b cap _ (by omega)]
    simp [execOp, ho, e1, Instr.sliceAt, Instr.slice, run_underlying hu, hs, key, SV.c, h3, cutV]
theorem ev_cutP {ty e : TypeId} {x : Operand} {lo hi : Option Operand} {id a b n : Nat} {p : List Value → Prop} (ho : o.op = .slice ty x lo hi none) (hgd : Want ops o s) (hx : svEval s x = .d id) (hm : s.mem id = some (.row n 1 e (datP p)))
    (hu : P.underlying ty = some (.slice e)) (hs : ∀ w, (Go.sizeOf e).run P w = .ok 1 w) (hn0 : 0 < n)
    (hlo : (match lo with | none => SV.v (.int .i64 (0 : Nat)) | some z => svEval s z) = .v (.int .i64 (a : Nat))) (hhi : (match hi with | none => SV.v (.int .i64 (n : Nat)) | some z => svEval s z) = .v (.int .i64 (b : Nat))) (h1 : a ≤ b) (h2 : b ≤ n) :
    Ev P ops w0 o s ⟨.fn (cutV a b 1) (.d id), [], [], [], [id]⟩ :=
  Ev.run _ _ hgd (cut_run' ho hx hu hs (fun ρ S w _ hR => by
    obtain ⟨xs, g1, g2, g3⟩ := relon_get hR hm (by simp)
    rcases g3 with ⟨_, h⟩ | ⟨off, cap, cur, fz, h1', h2', h3', h4', h5', _⟩
    · omega
    · exact ⟨_, cap, h1', h5'⟩) hlo hhi h1 h2)
theorem rdg_cutP {m : Mem} {id n a b k : Nat} {e : TypeId} {p : List Value → Prop} {news : List Value} (hm : m id = some (.row n 1 e (datP p))) (hp : ∀ xs, p xs → xs.length = n → (xs.drop a).take (b - a) = news) (hab : a < b) (hbn : b ≤ n) (hk : b - a = k) :
    Rdg w0 m [id] (.fn (cutV a b 1) (.d id)) k 1 news := fun ρ S w _ hR => by
  obtain ⟨xs, g1, g2, g3⟩ := relon_get hR hm (by simp)
  rw [Nat.mul_one] at g1
  rcases g3 with ⟨_, h⟩ | ⟨off, cap, cur, fz, h1', h2', h3', h4', h5', h6', h7', h8'⟩
  · omega
  · subst hk
    have hx := hp xs g2 g1
    have hl : news.length = b - a := by rw [← hx, List.length_take, List.length_drop]; omega
    refine ⟨fun k => k = (ρ id).g, some ⟨(ρ id).g, off + a, none⟩, cap - a, ?_, by omega, by omega, .inr ⟨_, rfl, rfl, fun i x hi => ?_⟩⟩
    · simp only [SV.c, h1', cutV]
      rw [if_neg (by omega)]
      simp [Addr.add]
      try omega
    · have hi' : i < b - a := by
        have := (List.getElem?_eq_some_iff.1 hi).1
        omega
      rw [← hx, List.getElem?_take, if_pos hi', List.getElem?_drop, ← h8', Nat.mul_one, List.getElem?_take, if_pos (by omega), List.getElem?_drop] at hi
      have e : (Addr.add ⟨(ρ id).g, off + a, none⟩ i) = ⟨(ρ id).g, off + a + i, none⟩ := by unfold Addr.add; split <;> simp_all
      rw [e]
      have hc : cur[off + a + i]? = some x := by rw [← hi, ← Array.getElem?_toList]; congr 1; omega
      simp [World.cell?, h3', hc]
theorem ev_copyP {dT sT e : TypeId} {x y : Operand} {id a n k : Nat} {p q : List Value → Prop} {news : List Value} {sx sv : SV} {rd : List Nat} (ho : o.op = .call { callee := .builtin .copy, args := #[x, y], argTypes := #[dT, sT] }) (hgd : Want ops o s)
    (hx : svEval s x = sx) (hsx : sx = .d id ∧ a = 0 ∨ sx = .fn (cutV a n 1) (.d id)) (hm : s.mem id = some (.row n 1 e (datP p))) (hy : svEval s y = sv) (hr : Rdg w0 s.mem rd sv k 1 news) (hu : P.underlying dT = some (.slice e)) (hs : (P.info? e).map (·.size) = some 1)
    (hkn : a + k ≤ n) (hk0 : 0 < k) (h1 : news.all (·.oneCell') = true) (hq : ∀ xs, p xs → xs.length = n → q (xs.take a ++ news ++ xs.drop (a + k))) :
    Ev P ops w0 o s ⟨.v (.int .i64 (k : Nat)), [(id, .row n 1 e (datP q))], [id], [], id :: rd⟩ :=
  Ev.wrv id _ _ _ _ hgd hm (by simp) fun ρ S w hb hR => by
    have e1 := svEval_c s ρ x
    rw [hx] at e1
    have e2 := svEval_c s ρ y
    rw [hy] at e2
    obtain ⟨xs, hxl, hxe, hrow⟩ := relon_get hR hm (by simp)
    have hR2 : RelOn w0.heap.size ρ S w (restr rd s.mem) := by
      have := hR.restr rd
      have e : restr rd (restr (id :: rd) s.mem) = restr rd s.mem := by
        funext j; unfold restr
        by_cases h : j ∈ rd <;> simp [h]
      rwa [e] at this
    obtain ⟨S1, ao, cp, h3, h4, h5, h6⟩ := hr ρ S w hb hR2
    rw [Nat.mul_one] at h5 hxl
    rcases h6 with h6 | ⟨ad, rfl, _, h6⟩
    · exfalso; rw [h6] at h5; simp at h5; omega
    rcases hrow with ⟨_, h⟩ | ⟨off, cap, cur, fz, h1', h2', h3', h4', h5', h6', h7', h8'⟩
    · omega
    · rw [h3] at e2
      have hdst : ∃ cap', (s.act ρ).eval x = .slice (some ⟨(ρ id).g, off + a, none⟩) (n - a) cap' := by
        rw [e1]
        rcases hsx with ⟨rfl, rfl⟩ | rfl
        · exact ⟨cap, by simp only [SV.c, h1']; simp⟩
        · refine ⟨cap - a, ?_⟩
          simp only [SV.c, h1', cutV]
          rw [if_neg (by omega)]
          simp [Addr.add]
          try omega
      obtain ⟨cap', e1'⟩ := hdst
      have hrun := run_copy_fz (P := P) w dT sT o.type e (ρ id).g (off + a) (n - a) cap' ad k cp cur e fz news hu hs h3' (fz_out h4') (by rw [h5]; simp [Nat.min_def]; omega) h6 (by rw [h5]; omega) (fun u hu => List.all_eq_true.1 h1 u hu)
      rw [h5] at hrun
      have hsz2 : (cur.toList.take (off + a) ++ news ++ cur.toList.drop (off + a + k)).toArray.size = cur.size := by
        simp only [List.size_toArray, List.length_append, List.length_take, List.length_drop, Array.length_toList, h5]
        omega
      refine ⟨by simp only [Blk.owns]; rw [h1']; simp, w.setRow (ρ id).g (cur.toList.take (off + a) ++ news ++ cur.toList.drop (off + a + k)).toArray, ?_, ⟨rfl, rfl, rfl, by simp, fun j hj => setRow_other w _ j _ hj⟩, ?_⟩
      · unfold execOp
        simp only [ho, resolve, invoke, builtin, Sem.run_bind, Sem.run_pure, Result.andThen_ok, List.map_toArray, List.map_cons, List.map_nil, e1', e2, hrun, SV.c, goInt]
      · refine ⟨xs.take a ++ news ++ xs.drop (a + k), by simp only [List.length_append, List.length_take, List.length_drop, h5, hxl]; omega, hq xs hxe hxl, .inr ⟨off, cap, _, fz, h1', h2', setRow_heap w (ρ id).g cur _ e _ h3', by rw [hsz2]; exact h4', h5', h6', by rw [hsz2]; exact h7', ?_⟩⟩
        rw [Nat.mul_one] at h8' ⊢
        have hcl : cur.toList.length = cur.size := Array.length_toList
        apply List.ext_getElem?
        intro i
        have hg : ∀ j, j < n → cur.toList[off + j]? = xs[j]? := fun j hj => by
          rw [← h8', List.getElem?_take, if_pos hj, List.getElem?_drop]
        simp only []
        rw [List.getElem?_take]
        by_cases hi : i < n
        · rw [if_pos hi, List.getElem?_drop]
          by_cases c1 : i < a
          · rw [List.append_assoc, List.getElem?_append_left (by simp; omega), List.getElem?_take, if_pos (by omega), hg i hi, List.append_assoc, List.getElem?_append_left (by simp; omega), List.getElem?_take, if_pos c1]
          · by_cases c2 : i < a + k
            · rw [List.append_assoc, List.getElem?_append_right (by simp; omega), List.getElem?_append_left (by simp; omega), List.append_assoc, List.getElem?_append_right (by simp; omega), List.getElem?_append_left (by simp; omega)]
              congr 1
              simp
              omega
            · rw [List.getElem?_append_right (by simp; omega), List.getElem?_drop, List.getElem?_append_right (by simp; omega), List.getElem?_drop]
              rw [show off + a + k + (off + i - (List.take (off + a) cur.toList ++ news).length) = off + i by simp; omega, show a + k + (i - (List.take a xs ++ news).length) = i by simp; omega]
              exact hg i hi
        · rw [if_neg hi, List.getElem?_eq_none (by simp; omega)]
theorem ret_rowP {w : World} {ρ : Nat → Nm} {id n : Nat} {ty : TypeId} {p : List Value → Prop} {l : List Value} (hr : Rel w0 ρ s w) (hm : s.mem id = some (.row n 1 ty (datP p))) (hp : ∀ xs, p xs → xs.length = n → xs = l) : RetRow w0 w (ρ id).val n 1 ty l := by
  obtain ⟨S, xs, h1, h2, h3⟩ := rel_get hr hm
  obtain rfl := hp xs h2 (by simpa using h1)
  exact ⟨(ρ id).g, h3⟩
theorem set_fold (off : Nat) : ∀ (cs : List Value) (j : Nat) (l : List Value), off + j + cs.length ≤ l.length →
    (cs.zipIdx j).foldl (fun (a : Array Value) (x : Value × Nat) => a.setIfInBounds (off + x.2) x.1) l.toArray = (l.take (off + j) ++ cs ++ l.drop (off + j + cs.length)).toArray
  | [], j, l, h => by simp
  | c :: cs, j, l, h => by
    simp only [List.zipIdx_cons, List.foldl_cons, List.length_cons] at h ⊢
    rw [List.setIfInBounds_toArray, set_fold off cs (j + 1) _ (by simp; omega)]
    congr 1
    rw [List.take_set, List.drop_set, if_pos (by omega)]
    have e1 : (l.take (off + (j + 1))).set (off + j) c = l.take (off + j) ++ [c] := by
      rw [show off + (j + 1) = off + j + 1 by omega, List.take_add_one, List.set_append_right _ _ (by simp; omega)]
      have : (l.take (off + j)).length = off + j := by simp; omega
      rw [this, Nat.sub_self, List.getElem?_eq_getElem (by omega)]
      rfl
    rw [e1, show off + (j + 1) + cs.length = off + j + (cs.length + 1) by omega]
    simp
theorem fill_gen (size : Nat) : ∀ (vs : List Value) (k : Nat) (pre rest : List Value), (∀ v ∈ vs, v.cells.size = size) → pre.length = k * size → rest.length = vs.length * size →
    Instr.fill (fun i => some (i * size, size)) (pre ++ rest).toArray ((vs.zipIdx k).map fun x => (x.2, x.1)) = some (pre ++ vs.flatMap (·.cells.toList)).toArray
  | [], k, pre, rest, _, _, hr => by
    simp at hr
    subst hr
    simp [Instr.fill]
  | v :: vs, k, pre, rest, hv, hp, hr => by
    have hsz := hv v (by simp)
    simp only [List.zipIdx_cons, List.map_cons, Instr.fill, List.length_cons, Nat.add_mul, Nat.one_mul] at hr ⊢
    rw [if_neg (by simp [hsz]; omega)]
    have hf := set_fold (k * size) v.cells.toList 0 (pre ++ rest) (by simp [hsz]; omega)
    have hz : Array.foldl (fun cs (x : Value × Nat) => match x with | (c, j) => cs.setIfInBounds (k * size + j) c) (pre ++ rest).toArray v.cells.zipIdx = (pre ++ v.cells.toList ++ rest.drop size).toArray := by
      have e0 : v.cells.zipIdx.toList = v.cells.toList.zipIdx 0 := by simp
      rw [← Array.foldl_toList, e0]
      refine Eq.trans ?_ (hf.trans ?_)
      · rfl
      · congr 1
        have hvl : v.cells.toList.length = size := by rw [Array.length_toList]; exact hsz
        rw [Nat.add_zero, ← hp, List.take_left, hvl, List.drop_append, List.drop_of_length_le (by omega), List.nil_append, Nat.add_sub_cancel_left]
    rw [hz]
    have := fill_gen size vs (k + 1) (pre ++ v.cells.toList) (rest.drop size) (fun u hu => hv u (by simp [hu])) (by simp [hsz, hp, Nat.add_mul]) (by simp; omega)
    rw [this]
    simp
theorem ev_bsl {ty e : TypeId} {n size id : Nat} {parts : Array (Nat × Operand)} {ys : List SV} {ls : List (List SV)} {l : List SV} (rd : List Nat) (_hd : o.dst = some id) (ho : o.op = .buildSlice ty n parts) (hgd : Want ops o s)
    (hp : parts.toList.map (·.1) = List.range' 0 n) (hx : parts.toList.map (fun p => svEval s p.2) = ys) (hls : ys.length = ls.length)
    (hc : ∀ ρ S w, Bw w0 w → RelOn w0.heap.size ρ S w (restr rd s.mem) → ∀ (j : Nat) (y : SV) (lj : List SV), ys[j]? = some y → ls[j]? = some lj → (y.c ρ).cells.toList = SV.cs ρ lj)
    (hn : ∀ lj ∈ ls, lj.length = size) (hl : ls.flatten = l) (hid : SV.hasL id l = false)
    (hu : P.underlying ty = some (.slice e)) (hsz : (P.info? e).map (·.size) = some size) (hz : ((P.info? e).bind (·.zero)).isSome = true) (hpos : 0 < n * size) (hsm : n * size ≤ 2 ^ 24) :
    Ev P ops w0 o s ⟨.s id 0 n n, [(id, .cells l e)], [], [id], rd⟩ :=
  ⟨by simp [Eff.ok], .inr ⟨hgd, fun ρ S w hbw hR => by
    have hyn : ys.length = n := by
      have := congrArg List.length hp
      rw [List.length_map, List.length_range'] at this
      rw [← hx, List.length_map, this]
    have hvs : ∀ v ∈ ys.map (SV.c ρ), v.cells.size = size := by
      intro v hv
      obtain ⟨y, hy, rfl⟩ := List.mem_map.1 hv
      obtain ⟨j, hj, rfl⟩ := List.getElem_of_mem hy
      have hjl : j < ls.length := by omega
      have := hc ρ S w hbw hR j ys[j] ls[j] (List.getElem?_eq_getElem hj) (List.getElem?_eq_getElem hjl)
      rw [← Array.length_toList, this, cs_map, List.length_map]
      exact hn _ (List.getElem_mem hjl)
    have hflat : (ys.map (SV.c ρ)).flatMap (·.cells.toList) = SV.cs ρ l := by
      rw [← hl, cs_map, List.map_flatten]
      rw [List.flatMap_def, List.map_map]
      congr 1
      apply List.ext_getElem (by simp [hls])
      intro j h1 h2
      simp only [List.length_map] at h1 h2
      have := hc ρ S w hbw hR j ys[j] ls[j] (List.getElem?_eq_getElem h1) (List.getElem?_eq_getElem h2)
      simp [this, cs_map]
    have hparts : (parts.map fun (p : Nat × Operand) => (p.1, (s.act ρ).eval p.2)).toList = ((ys.map (SV.c ρ)).zipIdx 0).map fun x => (x.2, x.1) := by
      apply List.ext_getElem?
      intro j
      have hpl : parts.toList.length = n := by have := congrArg List.length hp; simpa using this
      rw [Array.toList_map]
      by_cases hj : j < n
      · have hjp : j < parts.toList.length := by omega
        have h1 : (parts.toList[j]).1 = j := by
          have h2 := congrArg (fun (q : List Nat) => q[j]?) hp
          simp only [List.getElem?_map, List.getElem?_eq_getElem hjp, Option.map_some] at h2
          rw [List.getElem?_range' hj] at h2
          simp at h2
          simpa using h2
        have hjy : j < ys.length := by omega
        have h3 : svEval s (parts.toList[j]).2 = ys[j] := by
          have h2 := congrArg (fun (q : List SV) => q[j]?) hx
          simp only [List.getElem?_map, List.getElem?_eq_getElem hjp, Option.map_some, List.getElem?_eq_getElem hjy, Option.some.injEq] at h2
          exact h2
        rw [List.getElem?_map, List.getElem?_eq_getElem hjp, Option.map_some, List.getElem?_map, List.getElem?_zipIdx, List.getElem?_map, List.getElem?_eq_getElem hjy]
        simp only [Option.map_some, h1, svEval_c, h3, Nat.zero_add]
      · rw [List.getElem?_eq_none (by simp at hpl ⊢; omega), List.getElem?_eq_none (by simp; omega)]
    cases hie : P.info? e with
    | none => simp [hie] at hsz
    | some ie =>
      have hsz' : ie.size = size := by simpa [hie] using hsz
      simp only [hie, Option.bind_some] at hz
      obtain ⟨z, hzz⟩ := Option.isSome_iff_exists.1 hz
      have hrun := run_buildSlice (P := P) w ty e n (parts.map fun (p : Nat × Operand) => (p.1, (s.act ρ).eval p.2)) (SV.cs ρ l).toArray ie z hu hie hzz (by rw [hsz']; omega) (by rw [hsz']; omega) (by
        rw [hparts, hsz']
        have := fill_gen size (ys.map (SV.c ρ)) 0 [] ((Array.range (n * size)).map (z.cells[· % z.cells.size]!)).toList hvs (by simp) (by simp [hyn])
        rw [List.nil_append, Array.toArray_toList, List.nil_append, hflat] at this
        exact this)
      refine .inl ⟨.slice (some ⟨w.heap.size, 0, none⟩) n n, w.alloc (.cells (SV.cs ρ l).toArray e), ?_, fun j => if j = id then ⟨w.heap.size, undef⟩ else ρ j, fun _ _ => False, ?_⟩
      · simp only [execOp, ho]
        rw [Sem.run_bind, hrun]
        rfl
      · have := out_new (base := w0.heap.size) (t := s.mem) (ρ := ρ) (S := S) (w := w) (w' := w.alloc (.cells (SV.cs ρ l).toArray e)) (val := .s id 0 n n) (rd := rd) (up := []) (id := id) (b := .cells l e) (m := ⟨w.heap.size, undef⟩) (S1 := fun _ => False)
          rfl rfl rfl (by simp) (fun k hk _ => heap_alloc_old w _ hk) (fun ρ' g1 g2 => by
            refine ⟨by rw [g1]; exact hbw.size, ?_⟩
            rw [g1]
            simp only [cellsObj]
            rw [cs_upd (nw := [id]) (fun i hi => g2 i (by simpa using hi)) (fun i hi => by simp at hi; rw [hi]; exact hid)]
            exact heap_alloc_new w _) (fun _ h => h.elim) (fun _ => .inr ⟨Nat.le_refl _, fun h => h⟩)
        simpa [SV.c] using this⟩⟩
theorem vforgetE {c : Code} {fr : List SV} {m m' : List (Nat × Blk)} {fr' : (Nat → Value) → List SV} {Q : Exit → VS → Prop} (keep : Nat → Bool) (drop : List Nat) (hf : ∀ f, forgetFr keep f 0 fr = fr' f) (hm : memDel m drop = m') (h : ∀ f, VOk P w0 ⟨fr' f, memOf m'⟩ c Q) : VOk P w0 ⟨fr, memOf m⟩ c Q :=
  vforget keep drop fun f => by rw [hf, hm]; exact h f
theorem ev_convown {t e : TypeId} {x : Operand} {id n : Nat} {l : List Value} (ho : o.op = .convert t t x) (hgd : Want ops o s) (hx : svEval s x = .d id) (hm : s.mem id = some (.row n 1 e (.exact l))) (hn : 0 < n)
    (ht : P.underlying t = some (.slice e)) (he : P.underlying e = some (.int .u8)) : Ev P ops w0 o s ⟨.d id, [(id, .row n 1 e (.exact l))], [id], [], [id]⟩ :=
  Ev.wrv id _ _ _ _ hgd hm (by simp) fun ρ S w hb hR => by
    have e1 := svEval_c s ρ x
    rw [hx] at e1
    obtain ⟨xs, hxl, hxe, hrow⟩ := relon_get hR hm (by simp)
    rcases hrow with ⟨_, h⟩ | ⟨off, cap, cur, fz, h1', h2', h3', h4', h5', h6', h7', h8'⟩
    · omega
    · have hsh : w.shape? (ρ id).g = some (e, cur.size) := by unfold World.shape?; rw [h3']
      have hlt := (Array.getElem?_eq_some_iff.1 h3').1
      have hfz : (w.freeze ⟨(ρ id).g, cur.size, none⟩ 1).heap[(ρ id).g]? = some (.cells cur e (cur.size, cur.size + 1)) := by
        unfold World.freeze
        rw [if_neg (by decide)]
        simp only [Array.getElem?_modify, if_true, h3', Option.map_some]
        rcases h4' with rfl | rfl
        · simp
        · simp
      refine ⟨by simp only [Blk.owns]; rw [h1']; simp, w.freeze ⟨(ρ id).g, cur.size, none⟩ 1, ?_, ⟨?_, ?_, ?_, ?_, fun j hj => ?_⟩, xs, hxl, hxe, .inr ⟨off, cap, cur, _, h1', h2', hfz, .inr rfl, h5', h6', h7', h8'⟩⟩
      · simp only [execOp, ho, e1, SV.c, h1']
        simp [convert, run_underlying ht, run_underlying he, markStringish, hsh]
      · unfold World.freeze; rw [if_neg (by decide)]
      · unfold World.freeze; rw [if_neg (by decide)]
      · unfold World.freeze; rw [if_neg (by decide)]
      · unfold World.freeze; rw [if_neg (by decide)]; simp
      · unfold World.freeze
        rw [if_neg (by decide)]
        simp only [Array.getElem?_modify]
        rw [if_neg (Ne.symm hj)]
end
end Go.Vx
end
section
namespace Go.Proofs.YtafbhakmkbehiaaDoor
open Go.RowKit Go.Vx TollMont
open Go.Toll (Gw)
open TollEc (F pp cb Jp Pt smul add base nn neg)
open TollSha (sha hmac)
set_option maxHeartbeats 4000000
set_option maxRecDepth 100000
theorem mnz (n : Nat) (hn : n ≤ 140737488355328) (w : World) : ∃ cs : Array Value, (callFunc 68 #[.int .i64 (n : Nat)]).run Tryd.prog w = .ok (.value (.slice (some ⟨w.heap.size, 0, none⟩) n cs.size)) (w.drew.drew.alloc (.cells cs 5)) ∧ n ≤ cs.size ∧ cs.size ≤ maxLen := by
  obtain ⟨cs, h1, h2, h3⟩ := Go.Lib.run_makeNoZero (P := Tryd.prog) w Tryd.f68.params 22 5 Tryd.underlying22 n (by omega)
  refine ⟨cs, ?_, h2, h3 (by simp only [maxLen]; omega)⟩
  rw [run_callFunc_extern (fn := Tryd.f68) (e := Extern.BytealgMakeNoZero.makeNoZero Tryd.f68.params #[22]) Tryd.func68 (by kernel_rfl) (by kernel_rfl) (by kernel_rfl) (by kernel_rfl), h1]
  rfl
theorem info5 : (Tryd.prog.info? 5).map (·.size) = some 1 := by kernel_rfl
theorem mulS_ok (w : World) : Calls Tryd.prog 67 #[.int .u64 1, .int .u64 32] w fun e w' => e = .returned (.tuple #[.int .u64 0, .int .u64 32]) ∧ Bw w w' := by
  go_enter Tryd.func67, Tryd.ntmps67
  refine ve_go ?_
  simp only [List.map_cons, List.map_nil]
  refine vseq ?_
  apply vrp
  · apply VE.cons
    · exact ev_assign rfl (gn rfl)
    simp only [nmx, seval]
    apply VE.cons
    · exact ev_assign rfl (gn rfl)
    simp only [nmx, seval]
    exact VE.nil _
  · kernel_rfl
  change VOk _ _ _ _ _
  refine vseq ?_
  refine vcond_f rfl ?_
  refine vskip ?_
  change VOk _ _ _ _ _
  refine vseq ?_
  apply vrp
  · apply VE.cons
    · exact ev_move rfl (gn rfl)
    simp only [nmx, seval]
    apply VE.cons
    · exact ev_move rfl (gn rfl)
    simp only [nmx, seval]
    apply VE.cons
    · exact ev_call (v := .tuple #[.int .u64 0, .int .u64 32]) rfl (gn rfl) rfl (en_of Tryd.func62 (by kernel_rfl) rfl) (fun w' hw' => mul64_ok 1 32 (by decide) (by decide) w')
    simp only [nmx, seval]
    apply VE.cons
    · exact ev_move rfl (gn rfl)
    simp only [nmx, seval]
    apply VE.cons
    · first | exact ev_extract rfl (gn rfl) rfl rfl | exact ev_extractt rfl (gn rfl) rfl rfl
    simp only [nmx, seval]
    apply VE.cons
    · first | exact ev_extract rfl (gn rfl) rfl rfl | exact ev_extractt rfl (gn rfl) rfl rfl
    simp only [nmx, seval]
    apply VE.cons
    · exact ev_assign rfl (gn rfl)
    simp only [nmx, seval]
    apply VE.cons
    · exact ev_assign rfl (gn rfl)
    simp only [nmx, seval]
    exact VE.nil _
  · kernel_rfl
  change VOk _ _ _ _ _
  refine vseq ?_
  apply vrp
  · apply VE.cons
    · exact ev_move rfl (gn rfl)
    simp only [nmx, seval]
    apply VE.cons
    · exact ev_move rfl (gn rfl)
    simp only [nmx, seval]
    apply VE.cons
    · exact ev_assign rfl (gn rfl)
    simp only [nmx, seval]
    apply VE.cons
    · exact ev_assign rfl (gn rfl)
    simp only [nmx, seval]
    exact VE.nil _
  · kernel_rfl
  change VOk _ _ _ _ _
  refine vret ?_
  refine post_ret (res2 Tryd.results67 (rv_tmp rfl) (rv_tmp rfl)) ?_
  intro ρ w' hr
  exact ⟨rfl, hr.1⟩
theorem fill_step {xs : List Value} {v : Value} {k : Nat} (_hk : 2 * k ≤ xs.length) (h : xs.take k = List.replicate k v) : (xs.take k ++ List.replicate k v ++ xs.drop (k + k)).take (2 * k) = List.replicate (2 * k) v := by
  rw [h, List.take_append_of_le_length (by simp; omega), List.take_of_length_le (by simp; omega), show 2 * k = k + k by omega, List.replicate_append_replicate]
theorem rep_ok {v : Value} {S : Nat → Prop} (w : World) (hv : SlAt w v 1 1 [.int .u8 1] S) : Calls Tryd.prog 64 #[v, .int .i64 32] w fun e w' => ∃ v, e = .returned v ∧ RetRow w w' v (32) 1 5 (List.replicate 32 (.int .u8 1)) ∧ Bw w w' := by
  go_enter Tryd.func64, Tryd.ntmps64
  refine ve_go ?_
  simp only [List.map_cons, List.map_nil]
  refine vseq ?_
  apply vrp
  · apply VE.cons
    · exact ev_assign rfl (gn rfl)
    simp only [nmx, seval]
    exact VE.nil _
  · kernel_rfl
  change VOk _ _ _ _ _
  refine vseq ?_
  refine vseq ?_
  apply vrp
  · apply VE.cons
    · exact ev_move rfl (gn rfl)
    simp only [nmx, seval]
    apply VE.cons
    · exact ev_eql (p := false) rfl (gn rfl) rfl rfl (by decide)
    simp only [nmx, seval]
    exact VE.nil _
  · kernel_rfl
  change VOk _ _ _ _ _
  refine vcond_f rfl ?_
  refine vskip ?_
  change VOk _ _ _ _ _
  refine vseq ?_
  refine vseq ?_
  apply vrp
  · apply VE.cons
    · exact ev_move rfl (gn rfl)
    simp only [nmx, seval]
    apply VE.cons
    · exact ev_lss (p := false) rfl (gn rfl) rfl rfl (by decide)
    simp only [nmx, seval]
    exact VE.nil _
  · kernel_rfl
  change VOk _ _ _ _ _
  refine vcond_f rfl ?_
  refine vskip ?_
  change VOk _ _ _ _ _
  refine vseq ?_
  apply vrp
  · apply VE.cons
    · exact ev_move rfl (gn rfl)
    simp only [nmx, seval]
    apply VE.cons
    · exact ev_len rfl (gn rfl) rfl Tryd.underlying22 (rdg_arg hv)
    simp only [nmx, seval]
    apply VE.cons
    · refine ev_pure' (gn rfl) (fun ρ w => by simp only [VS.act, SV.c, List.map_cons, List.map_nil]; go_simp; exact rfl) (fun _ _ => rfl)
    simp only [nmx, seval]
    apply VE.cons
    · exact ev_move rfl (gn rfl)
    simp only [nmx, seval]
    apply VE.cons
    · refine ev_pure' (gn rfl) (fun ρ w => by simp only [VS.act, SV.c, List.map_cons, List.map_nil]; go_simp; exact rfl) (fun _ _ => rfl)
    simp only [nmx, seval]
    apply VE.cons
    · exact ev_callb (v := .tuple #[.int .u64 0, .int .u64 32]) rfl (gn rfl) rfl (en_of Tryd.func67 (by kernel_rfl) rfl) (fun w' hw' => mulS_ok w')
    simp only [nmx, seval]
    apply VE.cons
    · exact ev_move rfl (gn rfl)
    simp only [nmx, seval]
    apply VE.cons
    · first | exact ev_extract rfl (gn rfl) rfl rfl | exact ev_extractt rfl (gn rfl) rfl rfl
    simp only [nmx, seval]
    apply VE.cons
    · first | exact ev_extract rfl (gn rfl) rfl rfl | exact ev_extractt rfl (gn rfl) rfl rfl
    simp only [nmx, seval]
    apply VE.cons
    · exact ev_assign rfl (gn rfl)
    simp only [nmx, seval]
    apply VE.cons
    · exact ev_assign rfl (gn rfl)
    simp only [nmx, seval]
    exact VE.nil _
  · kernel_rfl
  change VOk _ _ _ _ _
  refine vseq ?_
  refine vseq ?_
  apply vrp
  · apply VE.cons
    · exact ev_move rfl (gn rfl)
    simp only [nmx, seval]
    apply VE.cons
    · exact ev_gtr (p := false) rfl (gn rfl) rfl rfl (by decide)
    simp only [nmx, seval]
    apply VE.cons
    · exact ev_move rfl (gn rfl)
    simp only [nmx, seval]
    apply VE.cons
    · first | exact Ev.skip (fun _ => rfl) | exact ev_move rfl (fun _ => rfl)
    simp only [nmx, seval]
    apply VE.cons
    · first | exact Ev.skip (fun _ => rfl) | exact ev_gtr (p := false) rfl (fun _ => rfl) rfl rfl (by decide)
    simp only [nmx, seval]
    apply VE.cons
    · refine ev_pure' (gn rfl) (fun ρ w => by simp only [VS.act, SV.c, List.map_cons, List.map_nil]; go_simp; exact rfl) (fun _ _ => rfl)
    simp only [nmx, seval]
    exact VE.nil _
  · kernel_rfl
  change VOk _ _ _ _ _
  refine vcond_f rfl ?_
  refine vskip ?_
  change VOk _ _ _ _ _
  refine vseq ?_
  apply vrp
  · apply VE.cons
    · exact ev_move rfl (gn rfl)
    simp only [nmx, seval]
    apply VE.cons
    · refine ev_pure' (gn rfl) (fun ρ w => by simp only [VS.act, SV.c, List.map_cons, List.map_nil]; go_simp; exact rfl) (fun _ _ => rfl)
    simp only [nmx, seval]
    apply VE.cons
    · exact ev_assign rfl (gn rfl)
    simp only [nmx, seval]
    exact VE.nil _
  · kernel_rfl
  change VOk _ _ _ _ _
  refine vseq ?_
  refine vseq ?_
  apply vrp
  · apply VE.cons
    · exact ev_move rfl (gn rfl)
    simp only [nmx, seval]
    apply VE.cons
    · exact ev_len rfl (gn rfl) rfl Tryd.underlying22 (rdg_arg hv)
    simp only [nmx, seval]
    apply VE.cons
    · exact ev_eql (p := false) rfl (gn rfl) rfl rfl (by decide)
    simp only [nmx, seval]
    exact VE.nil _
  · kernel_rfl
  change VOk _ _ _ _ _
  refine vcond_f rfl ?_
  refine vskip ?_
  change VOk _ _ _ _ _
  refine vseq ?_
  apply vrp
  · apply VE.cons
    · exact ev_move rfl (gn rfl)
    simp only [nmx, seval]
    apply VE.cons
    · exact ev_assign rfl (gn rfl)
    simp only [nmx, seval]
    exact VE.nil _
  · kernel_rfl
  change VOk _ _ _ _ _
  refine vseq ?_
  refine vseq ?_
  apply vrp
  · apply VE.cons
    · exact ev_move rfl (gn rfl)
    simp only [nmx, seval]
    apply VE.cons
    · exact ev_gtr (p := false) rfl (gn rfl) rfl rfl (by decide)
    simp only [nmx, seval]
    exact VE.nil _
  · kernel_rfl
  change VOk _ _ _ _ _
  refine vcond_f rfl ?_
  refine vskip ?_
  change VOk _ _ _ _ _
  refine vseq ?_
  apply vrp
  · apply VE.cons
    · exact ev_move rfl (gn rfl)
    simp only [nmx, seval]
    apply VE.cons
    · exact ev_mnz rfl rfl (gn rfl) rfl (by decide) (fun w => mnz 32 (by decide) w)
    simp only [nmx, seval]
    apply VE.cons
    · exact ev_move rfl (gn rfl)
    simp only [nmx, seval]
    apply VE.cons
    · exact ev_move rfl (gn rfl)
    simp only [nmx, seval]
    apply VE.cons
    · exact ev_cut3 rfl rfl (gn rfl) rfl rfl Tryd.underlying22 Tryd.sizeOf5 rfl rfl (by decide)
    simp only [nmx, seval]
    apply VE.cons
    · exact ev_assign rfl (gn rfl)
    simp only [nmx, seval]
    exact VE.nil _
  · kernel_rfl
  change VOk _ _ _ _ _
  refine vseq ?_
  apply vrp
  · apply VE.cons
    · exact ev_move rfl (gn rfl)
    simp only [nmx, seval]
    apply VE.cons
    · exact ev_move rfl (gn rfl)
    simp only [nmx, seval]
    apply VE.cons
    · exact ev_copyP (a := 0) (k := 1) (p := fun _ => True) (q := fun xs => xs.take 1 = List.replicate 1 (Value.int .u8 1)) rfl (gn rfl) rfl (.inl ⟨rfl, rfl⟩) rfl rfl (rdg_arg hv) Tryd.underlying22 info5 (by decide) (by decide) rfl (fun xs _ hx => by rw [List.take_zero, List.nil_append, List.take_append_of_le_length (by simp)]; rfl)
    simp only [nmx, seval]
    apply VE.cons
    · exact ev_assign rfl (gn rfl)
    simp only [nmx, seval]
    exact VE.nil _
  · kernel_rfl
  change VOk _ _ _ _ _
  refine vseq ?_
  refine vblock ?_
  refine vloop 6 ?_
  change VOk _ _ _ _ _
  refine vseq ?_
  refine vseq ?_
  apply vrp
  · apply VE.cons
    · exact ev_move rfl (gn rfl)
    simp only [nmx, seval]
    apply VE.cons
    · exact ev_move rfl (gn rfl)
    simp only [nmx, seval]
    apply VE.cons
    · first | exact ev_lss (p := true) rfl (gn rfl) rfl rfl (by decide) | exact ev_lss (p := false) rfl (gn rfl) rfl rfl (by decide)
    simp only [nmx, seval]
    exact VE.nil _
  · kernel_rfl
  change VOk _ _ _ _ _
  refine vcond_t rfl ?_
  refine vskip ?_
  change VOk _ _ _ _ _
  refine vblock ?_
  refine vseq ?_
  apply vrp
  · apply VE.cons
    · exact ev_move rfl (gn rfl)
    simp only [nmx, seval]
    apply VE.cons
    · exact ev_move rfl (gn rfl)
    simp only [nmx, seval]
    apply VE.cons
    · first | exact ev_min (a := 1) (b := 32) (c := 1) rfl (gn rfl) rfl rfl rfl | exact ev_min (a := 2) (b := 32) (c := 2) rfl (gn rfl) rfl rfl rfl | exact ev_min (a := 4) (b := 32) (c := 4) rfl (gn rfl) rfl rfl rfl | exact ev_min (a := 8) (b := 32) (c := 8) rfl (gn rfl) rfl rfl rfl | exact ev_min (a := 16) (b := 32) (c := 16) rfl (gn rfl) rfl rfl rfl
    simp only [nmx, seval]
    apply VE.cons
    · exact ev_assign rfl (gn rfl)
    simp only [nmx, seval]
    exact VE.nil _
  · kernel_rfl
  change VOk _ _ _ _ _
  apply vrd (by kernel_rfl)
  · apply VE.cons
    · exact ev_move rfl (gn rfl)
    simp only [nmx, seval]
    apply VE.cons
    · exact ev_move rfl (gn rfl)
    simp only [nmx, seval]
    apply VE.cons
    · exact ev_move rfl (gn rfl)
    simp only [nmx, seval]
    apply VE.cons
    · first | exact ev_cutP (a := 1) (b := 32) rfl (gn rfl) rfl rfl Tryd.underlying22 Tryd.sizeOf5 (by decide) rfl rfl (by decide) (by decide) | exact ev_cutP (a := 2) (b := 32) rfl (gn rfl) rfl rfl Tryd.underlying22 Tryd.sizeOf5 (by decide) rfl rfl (by decide) (by decide) | exact ev_cutP (a := 4) (b := 32) rfl (gn rfl) rfl rfl Tryd.underlying22 Tryd.sizeOf5 (by decide) rfl rfl (by decide) (by decide) | exact ev_cutP (a := 8) (b := 32) rfl (gn rfl) rfl rfl Tryd.underlying22 Tryd.sizeOf5 (by decide) rfl rfl (by decide) (by decide) | exact ev_cutP (a := 16) (b := 32) rfl (gn rfl) rfl rfl Tryd.underlying22 Tryd.sizeOf5 (by decide) rfl rfl (by decide) (by decide)
    simp only [nmx, seval]
    apply VE.cons
    · exact ev_move rfl (gn rfl)
    simp only [nmx, seval]
    apply VE.cons
    · exact ev_move rfl (gn rfl)
    simp only [nmx, seval]
    apply VE.cons
    · first | exact ev_cutP (a := 0) (b := 1) rfl (gn rfl) rfl rfl Tryd.underlying22 Tryd.sizeOf5 (by decide) rfl rfl (by decide) (by decide) | exact ev_cutP (a := 0) (b := 2) rfl (gn rfl) rfl rfl Tryd.underlying22 Tryd.sizeOf5 (by decide) rfl rfl (by decide) (by decide) | exact ev_cutP (a := 0) (b := 4) rfl (gn rfl) rfl rfl Tryd.underlying22 Tryd.sizeOf5 (by decide) rfl rfl (by decide) (by decide) | exact ev_cutP (a := 0) (b := 8) rfl (gn rfl) rfl rfl Tryd.underlying22 Tryd.sizeOf5 (by decide) rfl rfl (by decide) (by decide) | exact ev_cutP (a := 0) (b := 16) rfl (gn rfl) rfl rfl Tryd.underlying22 Tryd.sizeOf5 (by decide) rfl rfl (by decide) (by decide)
    simp only [nmx, seval]
    apply VE.cons
    · first | exact ev_copyP (a := 1) (k := 1) (p := fun xs => xs.take 1 = List.replicate 1 (Value.int .u8 1)) (q := fun xs => xs.take 2 = List.replicate 2 (Value.int .u8 1)) (news := List.replicate 1 (.int .u8 1)) rfl (gn rfl) rfl (.inr rfl) rfl rfl (rdg_cutP rfl (fun xs h _ => by rw [List.drop_zero]; exact h) (by decide) (by decide) rfl) Tryd.underlying22 info5 (by decide) (by decide) (by decide) (fun xs h hx => fill_step (by omega) h) | exact ev_copyP (a := 2) (k := 2) (p := fun xs => xs.take 2 = List.replicate 2 (Value.int .u8 1)) (q := fun xs => xs.take 4 = List.replicate 4 (Value.int .u8 1)) (news := List.replicate 2 (.int .u8 1)) rfl (gn rfl) rfl (.inr rfl) rfl rfl (rdg_cutP rfl (fun xs h _ => by rw [List.drop_zero]; exact h) (by decide) (by decide) rfl) Tryd.underlying22 info5 (by decide) (by decide) (by decide) (fun xs h hx => fill_step (by omega) h) | exact ev_copyP (a := 4) (k := 4) (p := fun xs => xs.take 4 = List.replicate 4 (Value.int .u8 1)) (q := fun xs => xs.take 8 = List.replicate 8 (Value.int .u8 1)) (news := List.replicate 4 (.int .u8 1)) rfl (gn rfl) rfl (.inr rfl) rfl rfl (rdg_cutP rfl (fun xs h _ => by rw [List.drop_zero]; exact h) (by decide) (by decide) rfl) Tryd.underlying22 info5 (by decide) (by decide) (by decide) (fun xs h hx => fill_step (by omega) h) | exact ev_copyP (a := 8) (k := 8) (p := fun xs => xs.take 8 = List.replicate 8 (Value.int .u8 1)) (q := fun xs => xs.take 16 = List.replicate 16 (Value.int .u8 1)) (news := List.replicate 8 (.int .u8 1)) rfl (gn rfl) rfl (.inr rfl) rfl rfl (rdg_cutP rfl (fun xs h _ => by rw [List.drop_zero]; exact h) (by decide) (by decide) rfl) Tryd.underlying22 info5 (by decide) (by decide) (by decide) (fun xs h hx => fill_step (by omega) h) | exact ev_copyP (a := 16) (k := 16) (p := fun xs => xs.take 16 = List.replicate 16 (Value.int .u8 1)) (q := fun xs => xs.take 32 = List.replicate 32 (Value.int .u8 1)) (news := List.replicate 16 (.int .u8 1)) rfl (gn rfl) rfl (.inr rfl) rfl rfl (rdg_cutP rfl (fun xs h _ => by rw [List.drop_zero]; exact h) (by decide) (by decide) rfl) Tryd.underlying22 info5 (by decide) (by decide) (by decide) (fun xs h hx => fill_step (by omega) h)
    simp only [nmx, seval]
    apply VE.cons
    · first | exact ev_add (a := 1) (b := 1) (c := 2) rfl (gn rfl) rfl rfl (by decide) | exact ev_add (a := 2) (b := 2) (c := 4) rfl (gn rfl) rfl rfl (by decide) | exact ev_add (a := 4) (b := 4) (c := 8) rfl (gn rfl) rfl rfl (by decide) | exact ev_add (a := 8) (b := 8) (c := 16) rfl (gn rfl) rfl rfl (by decide) | exact ev_add (a := 16) (b := 16) (c := 32) rfl (gn rfl) rfl rfl (by decide)
    simp only [nmx, seval]
    apply VE.cons
    · exact ev_assign rfl (gn rfl)
    simp only [nmx, seval]
    exact VE.nil _
  · kernel_rfl
  change VOk _ _ _ _ _
  refine vseq ?_
  refine vseq ?_
  apply vrp
  · apply VE.cons
    · exact ev_move rfl (gn rfl)
    simp only [nmx, seval]
    apply VE.cons
    · exact ev_move rfl (gn rfl)
    simp only [nmx, seval]
    apply VE.cons
    · first | exact ev_lss (p := true) rfl (gn rfl) rfl rfl (by decide) | exact ev_lss (p := false) rfl (gn rfl) rfl rfl (by decide)
    simp only [nmx, seval]
    exact VE.nil _
  · kernel_rfl
  change VOk _ _ _ _ _
  refine vcond_t rfl ?_
  refine vskip ?_
  change VOk _ _ _ _ _
  refine vblock ?_
  refine vseq ?_
  apply vrp
  · apply VE.cons
    · exact ev_move rfl (gn rfl)
    simp only [nmx, seval]
    apply VE.cons
    · exact ev_move rfl (gn rfl)
    simp only [nmx, seval]
    apply VE.cons
    · first | exact ev_min (a := 1) (b := 32) (c := 1) rfl (gn rfl) rfl rfl rfl | exact ev_min (a := 2) (b := 32) (c := 2) rfl (gn rfl) rfl rfl rfl | exact ev_min (a := 4) (b := 32) (c := 4) rfl (gn rfl) rfl rfl rfl | exact ev_min (a := 8) (b := 32) (c := 8) rfl (gn rfl) rfl rfl rfl | exact ev_min (a := 16) (b := 32) (c := 16) rfl (gn rfl) rfl rfl rfl
    simp only [nmx, seval]
    apply VE.cons
    · exact ev_assign rfl (gn rfl)
    simp only [nmx, seval]
    exact VE.nil _
  · kernel_rfl
  change VOk _ _ _ _ _
  apply vrd (by kernel_rfl)
  · apply VE.cons
    · exact ev_move rfl (gn rfl)
    simp only [nmx, seval]
    apply VE.cons
    · exact ev_move rfl (gn rfl)
    simp only [nmx, seval]
    apply VE.cons
    · exact ev_move rfl (gn rfl)
    simp only [nmx, seval]
    apply VE.cons
    · first | exact ev_cutP (a := 1) (b := 32) rfl (gn rfl) rfl rfl Tryd.underlying22 Tryd.sizeOf5 (by decide) rfl rfl (by decide) (by decide) | exact ev_cutP (a := 2) (b := 32) rfl (gn rfl) rfl rfl Tryd.underlying22 Tryd.sizeOf5 (by decide) rfl rfl (by decide) (by decide) | exact ev_cutP (a := 4) (b := 32) rfl (gn rfl) rfl rfl Tryd.underlying22 Tryd.sizeOf5 (by decide) rfl rfl (by decide) (by decide) | exact ev_cutP (a := 8) (b := 32) rfl (gn rfl) rfl rfl Tryd.underlying22 Tryd.sizeOf5 (by decide) rfl rfl (by decide) (by decide) | exact ev_cutP (a := 16) (b := 32) rfl (gn rfl) rfl rfl Tryd.underlying22 Tryd.sizeOf5 (by decide) rfl rfl (by decide) (by decide)
    simp only [nmx, seval]
    apply VE.cons
    · exact ev_move rfl (gn rfl)
    simp only [nmx, seval]
    apply VE.cons
    · exact ev_move rfl (gn rfl)
    simp only [nmx, seval]
    apply VE.cons
    · first | exact ev_cutP (a := 0) (b := 1) rfl (gn rfl) rfl rfl Tryd.underlying22 Tryd.sizeOf5 (by decide) rfl rfl (by decide) (by decide) | exact ev_cutP (a := 0) (b := 2) rfl (gn rfl) rfl rfl Tryd.underlying22 Tryd.sizeOf5 (by decide) rfl rfl (by decide) (by decide) | exact ev_cutP (a := 0) (b := 4) rfl (gn rfl) rfl rfl Tryd.underlying22 Tryd.sizeOf5 (by decide) rfl rfl (by decide) (by decide) | exact ev_cutP (a := 0) (b := 8) rfl (gn rfl) rfl rfl Tryd.underlying22 Tryd.sizeOf5 (by decide) rfl rfl (by decide) (by decide) | exact ev_cutP (a := 0) (b := 16) rfl (gn rfl) rfl rfl Tryd.underlying22 Tryd.sizeOf5 (by decide) rfl rfl (by decide) (by decide)
    simp only [nmx, seval]
    apply VE.cons
    · first | exact ev_copyP (a := 1) (k := 1) (p := fun xs => xs.take 1 = List.replicate 1 (Value.int .u8 1)) (q := fun xs => xs.take 2 = List.replicate 2 (Value.int .u8 1)) (news := List.replicate 1 (.int .u8 1)) rfl (gn rfl) rfl (.inr rfl) rfl rfl (rdg_cutP rfl (fun xs h _ => by rw [List.drop_zero]; exact h) (by decide) (by decide) rfl) Tryd.underlying22 info5 (by decide) (by decide) (by decide) (fun xs h hx => fill_step (by omega) h) | exact ev_copyP (a := 2) (k := 2) (p := fun xs => xs.take 2 = List.replicate 2 (Value.int .u8 1)) (q := fun xs => xs.take 4 = List.replicate 4 (Value.int .u8 1)) (news := List.replicate 2 (.int .u8 1)) rfl (gn rfl) rfl (.inr rfl) rfl rfl (rdg_cutP rfl (fun xs h _ => by rw [List.drop_zero]; exact h) (by decide) (by decide) rfl) Tryd.underlying22 info5 (by decide) (by decide) (by decide) (fun xs h hx => fill_step (by omega) h) | exact ev_copyP (a := 4) (k := 4) (p := fun xs => xs.take 4 = List.replicate 4 (Value.int .u8 1)) (q := fun xs => xs.take 8 = List.replicate 8 (Value.int .u8 1)) (news := List.replicate 4 (.int .u8 1)) rfl (gn rfl) rfl (.inr rfl) rfl rfl (rdg_cutP rfl (fun xs h _ => by rw [List.drop_zero]; exact h) (by decide) (by decide) rfl) Tryd.underlying22 info5 (by decide) (by decide) (by decide) (fun xs h hx => fill_step (by omega) h) | exact ev_copyP (a := 8) (k := 8) (p := fun xs => xs.take 8 = List.replicate 8 (Value.int .u8 1)) (q := fun xs => xs.take 16 = List.replicate 16 (Value.int .u8 1)) (news := List.replicate 8 (.int .u8 1)) rfl (gn rfl) rfl (.inr rfl) rfl rfl (rdg_cutP rfl (fun xs h _ => by rw [List.drop_zero]; exact h) (by decide) (by decide) rfl) Tryd.underlying22 info5 (by decide) (by decide) (by decide) (fun xs h hx => fill_step (by omega) h) | exact ev_copyP (a := 16) (k := 16) (p := fun xs => xs.take 16 = List.replicate 16 (Value.int .u8 1)) (q := fun xs => xs.take 32 = List.replicate 32 (Value.int .u8 1)) (news := List.replicate 16 (.int .u8 1)) rfl (gn rfl) rfl (.inr rfl) rfl rfl (rdg_cutP rfl (fun xs h _ => by rw [List.drop_zero]; exact h) (by decide) (by decide) rfl) Tryd.underlying22 info5 (by decide) (by decide) (by decide) (fun xs h hx => fill_step (by omega) h)
    simp only [nmx, seval]
    apply VE.cons
    · first | exact ev_add (a := 1) (b := 1) (c := 2) rfl (gn rfl) rfl rfl (by decide) | exact ev_add (a := 2) (b := 2) (c := 4) rfl (gn rfl) rfl rfl (by decide) | exact ev_add (a := 4) (b := 4) (c := 8) rfl (gn rfl) rfl rfl (by decide) | exact ev_add (a := 8) (b := 8) (c := 16) rfl (gn rfl) rfl rfl (by decide) | exact ev_add (a := 16) (b := 16) (c := 32) rfl (gn rfl) rfl rfl (by decide)
    simp only [nmx, seval]
    apply VE.cons
    · exact ev_assign rfl (gn rfl)
    simp only [nmx, seval]
    exact VE.nil _
  · kernel_rfl
  change VOk _ _ _ _ _
  refine vseq ?_
  refine vseq ?_
  apply vrp
  · apply VE.cons
    · exact ev_move rfl (gn rfl)
    simp only [nmx, seval]
    apply VE.cons
    · exact ev_move rfl (gn rfl)
    simp only [nmx, seval]
    apply VE.cons
    · first | exact ev_lss (p := true) rfl (gn rfl) rfl rfl (by decide) | exact ev_lss (p := false) rfl (gn rfl) rfl rfl (by decide)
    simp only [nmx, seval]
    exact VE.nil _
  · kernel_rfl
  change VOk _ _ _ _ _
  refine vcond_t rfl ?_
  refine vskip ?_
  change VOk _ _ _ _ _
  refine vblock ?_
  refine vseq ?_
  apply vrp
  · apply VE.cons
    · exact ev_move rfl (gn rfl)
    simp only [nmx, seval]
    apply VE.cons
    · exact ev_move rfl (gn rfl)
    simp only [nmx, seval]
    apply VE.cons
    · first | exact ev_min (a := 1) (b := 32) (c := 1) rfl (gn rfl) rfl rfl rfl | exact ev_min (a := 2) (b := 32) (c := 2) rfl (gn rfl) rfl rfl rfl | exact ev_min (a := 4) (b := 32) (c := 4) rfl (gn rfl) rfl rfl rfl | exact ev_min (a := 8) (b := 32) (c := 8) rfl (gn rfl) rfl rfl rfl | exact ev_min (a := 16) (b := 32) (c := 16) rfl (gn rfl) rfl rfl rfl
    simp only [nmx, seval]
    apply VE.cons
    · exact ev_assign rfl (gn rfl)
    simp only [nmx, seval]
    exact VE.nil _
  · kernel_rfl
  change VOk _ _ _ _ _
  apply vrd (by kernel_rfl)
  · apply VE.cons
    · exact ev_move rfl (gn rfl)
    simp only [nmx, seval]
    apply VE.cons
    · exact ev_move rfl (gn rfl)
    simp only [nmx, seval]
    apply VE.cons
    · exact ev_move rfl (gn rfl)
    simp only [nmx, seval]
    apply VE.cons
    · first | exact ev_cutP (a := 1) (b := 32) rfl (gn rfl) rfl rfl Tryd.underlying22 Tryd.sizeOf5 (by decide) rfl rfl (by decide) (by decide) | exact ev_cutP (a := 2) (b := 32) rfl (gn rfl) rfl rfl Tryd.underlying22 Tryd.sizeOf5 (by decide) rfl rfl (by decide) (by decide) | exact ev_cutP (a := 4) (b := 32) rfl (gn rfl) rfl rfl Tryd.underlying22 Tryd.sizeOf5 (by decide) rfl rfl (by decide) (by decide) | exact ev_cutP (a := 8) (b := 32) rfl (gn rfl) rfl rfl Tryd.underlying22 Tryd.sizeOf5 (by decide) rfl rfl (by decide) (by decide) | exact ev_cutP (a := 16) (b := 32) rfl (gn rfl) rfl rfl Tryd.underlying22 Tryd.sizeOf5 (by decide) rfl rfl (by decide) (by decide)
    simp only [nmx, seval]
    apply VE.cons
    · exact ev_move rfl (gn rfl)
    simp only [nmx, seval]
    apply VE.cons
    · exact ev_move rfl (gn rfl)
    simp only [nmx, seval]
    apply VE.cons
    · first | exact ev_cutP (a := 0) (b := 1) rfl (gn rfl) rfl rfl Tryd.underlying22 Tryd.sizeOf5 (by decide) rfl rfl (by decide) (by decide) | exact ev_cutP (a := 0) (b := 2) rfl (gn rfl) rfl rfl Tryd.underlying22 Tryd.sizeOf5 (by decide) rfl rfl (by decide) (by decide) | exact ev_cutP (a := 0) (b := 4) rfl (gn rfl) rfl rfl Tryd.underlying22 Tryd.sizeOf5 (by decide) rfl rfl (by decide) (by decide) | exact ev_cutP (a := 0) (b := 8) rfl (gn rfl) rfl rfl Tryd.underlying22 Tryd.sizeOf5 (by decide) rfl rfl (by decide) (by decide) | exact ev_cutP (a := 0) (b := 16) rfl (gn rfl) rfl rfl Tryd.underlying22 Tryd.sizeOf5 (by decide) rfl rfl (by decide) (by decide)
    simp only [nmx, seval]
    apply VE.cons
    · first | exact ev_copyP (a := 1) (k := 1) (p := fun xs => xs.take 1 = List.replicate 1 (Value.int .u8 1)) (q := fun xs => xs.take 2 = List.replicate 2 (Value.int .u8 1)) (news := List.replicate 1 (.int .u8 1)) rfl (gn rfl) rfl (.inr rfl) rfl rfl (rdg_cutP rfl (fun xs h _ => by rw [List.drop_zero]; exact h) (by decide) (by decide) rfl) Tryd.underlying22 info5 (by decide) (by decide) (by decide) (fun xs h hx => fill_step (by omega) h) | exact ev_copyP (a := 2) (k := 2) (p := fun xs => xs.take 2 = List.replicate 2 (Value.int .u8 1)) (q := fun xs => xs.take 4 = List.replicate 4 (Value.int .u8 1)) (news := List.replicate 2 (.int .u8 1)) rfl (gn rfl) rfl (.inr rfl) rfl rfl (rdg_cutP rfl (fun xs h _ => by rw [List.drop_zero]; exact h) (by decide) (by decide) rfl) Tryd.underlying22 info5 (by decide) (by decide) (by decide) (fun xs h hx => fill_step (by omega) h) | exact ev_copyP (a := 4) (k := 4) (p := fun xs => xs.take 4 = List.replicate 4 (Value.int .u8 1)) (q := fun xs => xs.take 8 = List.replicate 8 (Value.int .u8 1)) (news := List.replicate 4 (.int .u8 1)) rfl (gn rfl) rfl (.inr rfl) rfl rfl (rdg_cutP rfl (fun xs h _ => by rw [List.drop_zero]; exact h) (by decide) (by decide) rfl) Tryd.underlying22 info5 (by decide) (by decide) (by decide) (fun xs h hx => fill_step (by omega) h) | exact ev_copyP (a := 8) (k := 8) (p := fun xs => xs.take 8 = List.replicate 8 (Value.int .u8 1)) (q := fun xs => xs.take 16 = List.replicate 16 (Value.int .u8 1)) (news := List.replicate 8 (.int .u8 1)) rfl (gn rfl) rfl (.inr rfl) rfl rfl (rdg_cutP rfl (fun xs h _ => by rw [List.drop_zero]; exact h) (by decide) (by decide) rfl) Tryd.underlying22 info5 (by decide) (by decide) (by decide) (fun xs h hx => fill_step (by omega) h) | exact ev_copyP (a := 16) (k := 16) (p := fun xs => xs.take 16 = List.replicate 16 (Value.int .u8 1)) (q := fun xs => xs.take 32 = List.replicate 32 (Value.int .u8 1)) (news := List.replicate 16 (.int .u8 1)) rfl (gn rfl) rfl (.inr rfl) rfl rfl (rdg_cutP rfl (fun xs h _ => by rw [List.drop_zero]; exact h) (by decide) (by decide) rfl) Tryd.underlying22 info5 (by decide) (by decide) (by decide) (fun xs h hx => fill_step (by omega) h)
    simp only [nmx, seval]
    apply VE.cons
    · first | exact ev_add (a := 1) (b := 1) (c := 2) rfl (gn rfl) rfl rfl (by decide) | exact ev_add (a := 2) (b := 2) (c := 4) rfl (gn rfl) rfl rfl (by decide) | exact ev_add (a := 4) (b := 4) (c := 8) rfl (gn rfl) rfl rfl (by decide) | exact ev_add (a := 8) (b := 8) (c := 16) rfl (gn rfl) rfl rfl (by decide) | exact ev_add (a := 16) (b := 16) (c := 32) rfl (gn rfl) rfl rfl (by decide)
    simp only [nmx, seval]
    apply VE.cons
    · exact ev_assign rfl (gn rfl)
    simp only [nmx, seval]
    exact VE.nil _
  · kernel_rfl
  change VOk _ _ _ _ _
  refine vseq ?_
  refine vseq ?_
  apply vrp
  · apply VE.cons
    · exact ev_move rfl (gn rfl)
    simp only [nmx, seval]
    apply VE.cons
    · exact ev_move rfl (gn rfl)
    simp only [nmx, seval]
    apply VE.cons
    · first | exact ev_lss (p := true) rfl (gn rfl) rfl rfl (by decide) | exact ev_lss (p := false) rfl (gn rfl) rfl rfl (by decide)
    simp only [nmx, seval]
    exact VE.nil _
  · kernel_rfl
  change VOk _ _ _ _ _
  refine vcond_t rfl ?_
  refine vskip ?_
  change VOk _ _ _ _ _
  refine vblock ?_
  refine vseq ?_
  apply vrp
  · apply VE.cons
    · exact ev_move rfl (gn rfl)
    simp only [nmx, seval]
    apply VE.cons
    · exact ev_move rfl (gn rfl)
    simp only [nmx, seval]
    apply VE.cons
    · first | exact ev_min (a := 1) (b := 32) (c := 1) rfl (gn rfl) rfl rfl rfl | exact ev_min (a := 2) (b := 32) (c := 2) rfl (gn rfl) rfl rfl rfl | exact ev_min (a := 4) (b := 32) (c := 4) rfl (gn rfl) rfl rfl rfl | exact ev_min (a := 8) (b := 32) (c := 8) rfl (gn rfl) rfl rfl rfl | exact ev_min (a := 16) (b := 32) (c := 16) rfl (gn rfl) rfl rfl rfl
    simp only [nmx, seval]
    apply VE.cons
    · exact ev_assign rfl (gn rfl)
    simp only [nmx, seval]
    exact VE.nil _
  · kernel_rfl
  change VOk _ _ _ _ _
  apply vrd (by kernel_rfl)
  · apply VE.cons
    · exact ev_move rfl (gn rfl)
    simp only [nmx, seval]
    apply VE.cons
    · exact ev_move rfl (gn rfl)
    simp only [nmx, seval]
    apply VE.cons
    · exact ev_move rfl (gn rfl)
    simp only [nmx, seval]
    apply VE.cons
    · first | exact ev_cutP (a := 1) (b := 32) rfl (gn rfl) rfl rfl Tryd.underlying22 Tryd.sizeOf5 (by decide) rfl rfl (by decide) (by decide) | exact ev_cutP (a := 2) (b := 32) rfl (gn rfl) rfl rfl Tryd.underlying22 Tryd.sizeOf5 (by decide) rfl rfl (by decide) (by decide) | exact ev_cutP (a := 4) (b := 32) rfl (gn rfl) rfl rfl Tryd.underlying22 Tryd.sizeOf5 (by decide) rfl rfl (by decide) (by decide) | exact ev_cutP (a := 8) (b := 32) rfl (gn rfl) rfl rfl Tryd.underlying22 Tryd.sizeOf5 (by decide) rfl rfl (by decide) (by decide) | exact ev_cutP (a := 16) (b := 32) rfl (gn rfl) rfl rfl Tryd.underlying22 Tryd.sizeOf5 (by decide) rfl rfl (by decide) (by decide)
    simp only [nmx, seval]
    apply VE.cons
    · exact ev_move rfl (gn rfl)
    simp only [nmx, seval]
    apply VE.cons
    · exact ev_move rfl (gn rfl)
    simp only [nmx, seval]
    apply VE.cons
    · first | exact ev_cutP (a := 0) (b := 1) rfl (gn rfl) rfl rfl Tryd.underlying22 Tryd.sizeOf5 (by decide) rfl rfl (by decide) (by decide) | exact ev_cutP (a := 0) (b := 2) rfl (gn rfl) rfl rfl Tryd.underlying22 Tryd.sizeOf5 (by decide) rfl rfl (by decide) (by decide) | exact ev_cutP (a := 0) (b := 4) rfl (gn rfl) rfl rfl Tryd.underlying22 Tryd.sizeOf5 (by decide) rfl rfl (by decide) (by decide) | exact ev_cutP (a := 0) (b := 8) rfl (gn rfl) rfl rfl Tryd.underlying22 Tryd.sizeOf5 (by decide) rfl rfl (by decide) (by decide) | exact ev_cutP (a := 0) (b := 16) rfl (gn rfl) rfl rfl Tryd.underlying22 Tryd.sizeOf5 (by decide) rfl rfl (by decide) (by decide)
    simp only [nmx, seval]
    apply VE.cons
    · first | exact ev_copyP (a := 1) (k := 1) (p := fun xs => xs.take 1 = List.replicate 1 (Value.int .u8 1)) (q := fun xs => xs.take 2 = List.replicate 2 (Value.int .u8 1)) (news := List.replicate 1 (.int .u8 1)) rfl (gn rfl) rfl (.inr rfl) rfl rfl (rdg_cutP rfl (fun xs h _ => by rw [List.drop_zero]; exact h) (by decide) (by decide) rfl) Tryd.underlying22 info5 (by decide) (by decide) (by decide) (fun xs h hx => fill_step (by omega) h) | exact ev_copyP (a := 2) (k := 2) (p := fun xs => xs.take 2 = List.replicate 2 (Value.int .u8 1)) (q := fun xs => xs.take 4 = List.replicate 4 (Value.int .u8 1)) (news := List.replicate 2 (.int .u8 1)) rfl (gn rfl) rfl (.inr rfl) rfl rfl (rdg_cutP rfl (fun xs h _ => by rw [List.drop_zero]; exact h) (by decide) (by decide) rfl) Tryd.underlying22 info5 (by decide) (by decide) (by decide) (fun xs h hx => fill_step (by omega) h) | exact ev_copyP (a := 4) (k := 4) (p := fun xs => xs.take 4 = List.replicate 4 (Value.int .u8 1)) (q := fun xs => xs.take 8 = List.replicate 8 (Value.int .u8 1)) (news := List.replicate 4 (.int .u8 1)) rfl (gn rfl) rfl (.inr rfl) rfl rfl (rdg_cutP rfl (fun xs h _ => by rw [List.drop_zero]; exact h) (by decide) (by decide) rfl) Tryd.underlying22 info5 (by decide) (by decide) (by decide) (fun xs h hx => fill_step (by omega) h) | exact ev_copyP (a := 8) (k := 8) (p := fun xs => xs.take 8 = List.replicate 8 (Value.int .u8 1)) (q := fun xs => xs.take 16 = List.replicate 16 (Value.int .u8 1)) (news := List.replicate 8 (.int .u8 1)) rfl (gn rfl) rfl (.inr rfl) rfl rfl (rdg_cutP rfl (fun xs h _ => by rw [List.drop_zero]; exact h) (by decide) (by decide) rfl) Tryd.underlying22 info5 (by decide) (by decide) (by decide) (fun xs h hx => fill_step (by omega) h) | exact ev_copyP (a := 16) (k := 16) (p := fun xs => xs.take 16 = List.replicate 16 (Value.int .u8 1)) (q := fun xs => xs.take 32 = List.replicate 32 (Value.int .u8 1)) (news := List.replicate 16 (.int .u8 1)) rfl (gn rfl) rfl (.inr rfl) rfl rfl (rdg_cutP rfl (fun xs h _ => by rw [List.drop_zero]; exact h) (by decide) (by decide) rfl) Tryd.underlying22 info5 (by decide) (by decide) (by decide) (fun xs h hx => fill_step (by omega) h)
    simp only [nmx, seval]
    apply VE.cons
    · first | exact ev_add (a := 1) (b := 1) (c := 2) rfl (gn rfl) rfl rfl (by decide) | exact ev_add (a := 2) (b := 2) (c := 4) rfl (gn rfl) rfl rfl (by decide) | exact ev_add (a := 4) (b := 4) (c := 8) rfl (gn rfl) rfl rfl (by decide) | exact ev_add (a := 8) (b := 8) (c := 16) rfl (gn rfl) rfl rfl (by decide) | exact ev_add (a := 16) (b := 16) (c := 32) rfl (gn rfl) rfl rfl (by decide)
    simp only [nmx, seval]
    apply VE.cons
    · exact ev_assign rfl (gn rfl)
    simp only [nmx, seval]
    exact VE.nil _
  · kernel_rfl
  change VOk _ _ _ _ _
  refine vseq ?_
  refine vseq ?_
  apply vrp
  · apply VE.cons
    · exact ev_move rfl (gn rfl)
    simp only [nmx, seval]
    apply VE.cons
    · exact ev_move rfl (gn rfl)
    simp only [nmx, seval]
    apply VE.cons
    · first | exact ev_lss (p := true) rfl (gn rfl) rfl rfl (by decide) | exact ev_lss (p := false) rfl (gn rfl) rfl rfl (by decide)
    simp only [nmx, seval]
    exact VE.nil _
  · kernel_rfl
  change VOk _ _ _ _ _
  refine vcond_t rfl ?_
  refine vskip ?_
  change VOk _ _ _ _ _
  refine vblock ?_
  refine vseq ?_
  apply vrp
  · apply VE.cons
    · exact ev_move rfl (gn rfl)
    simp only [nmx, seval]
    apply VE.cons
    · exact ev_move rfl (gn rfl)
    simp only [nmx, seval]
    apply VE.cons
    · first | exact ev_min (a := 1) (b := 32) (c := 1) rfl (gn rfl) rfl rfl rfl | exact ev_min (a := 2) (b := 32) (c := 2) rfl (gn rfl) rfl rfl rfl | exact ev_min (a := 4) (b := 32) (c := 4) rfl (gn rfl) rfl rfl rfl | exact ev_min (a := 8) (b := 32) (c := 8) rfl (gn rfl) rfl rfl rfl | exact ev_min (a := 16) (b := 32) (c := 16) rfl (gn rfl) rfl rfl rfl
    simp only [nmx, seval]
    apply VE.cons
    · exact ev_assign rfl (gn rfl)
    simp only [nmx, seval]
    exact VE.nil _
  · kernel_rfl
  change VOk _ _ _ _ _
  apply vrd (by kernel_rfl)
  · apply VE.cons
    · exact ev_move rfl (gn rfl)
    simp only [nmx, seval]
    apply VE.cons
    · exact ev_move rfl (gn rfl)
    simp only [nmx, seval]
    apply VE.cons
    · exact ev_move rfl (gn rfl)
    simp only [nmx, seval]
    apply VE.cons
    · first | exact ev_cutP (a := 1) (b := 32) rfl (gn rfl) rfl rfl Tryd.underlying22 Tryd.sizeOf5 (by decide) rfl rfl (by decide) (by decide) | exact ev_cutP (a := 2) (b := 32) rfl (gn rfl) rfl rfl Tryd.underlying22 Tryd.sizeOf5 (by decide) rfl rfl (by decide) (by decide) | exact ev_cutP (a := 4) (b := 32) rfl (gn rfl) rfl rfl Tryd.underlying22 Tryd.sizeOf5 (by decide) rfl rfl (by decide) (by decide) | exact ev_cutP (a := 8) (b := 32) rfl (gn rfl) rfl rfl Tryd.underlying22 Tryd.sizeOf5 (by decide) rfl rfl (by decide) (by decide) | exact ev_cutP (a := 16) (b := 32) rfl (gn rfl) rfl rfl Tryd.underlying22 Tryd.sizeOf5 (by decide) rfl rfl (by decide) (by decide)
    simp only [nmx, seval]
    apply VE.cons
    · exact ev_move rfl (gn rfl)
    simp only [nmx, seval]
    apply VE.cons
    · exact ev_move rfl (gn rfl)
    simp only [nmx, seval]
    apply VE.cons
    · first | exact ev_cutP (a := 0) (b := 1) rfl (gn rfl) rfl rfl Tryd.underlying22 Tryd.sizeOf5 (by decide) rfl rfl (by decide) (by decide) | exact ev_cutP (a := 0) (b := 2) rfl (gn rfl) rfl rfl Tryd.underlying22 Tryd.sizeOf5 (by decide) rfl rfl (by decide) (by decide) | exact ev_cutP (a := 0) (b := 4) rfl (gn rfl) rfl rfl Tryd.underlying22 Tryd.sizeOf5 (by decide) rfl rfl (by decide) (by decide) | exact ev_cutP (a := 0) (b := 8) rfl (gn rfl) rfl rfl Tryd.underlying22 Tryd.sizeOf5 (by decide) rfl rfl (by decide) (by decide) | exact ev_cutP (a := 0) (b := 16) rfl (gn rfl) rfl rfl Tryd.underlying22 Tryd.sizeOf5 (by decide) rfl rfl (by decide) (by decide)
    simp only [nmx, seval]
    apply VE.cons
    · first | exact ev_copyP (a := 1) (k := 1) (p := fun xs => xs.take 1 = List.replicate 1 (Value.int .u8 1)) (q := fun xs => xs.take 2 = List.replicate 2 (Value.int .u8 1)) (news := List.replicate 1 (.int .u8 1)) rfl (gn rfl) rfl (.inr rfl) rfl rfl (rdg_cutP rfl (fun xs h _ => by rw [List.drop_zero]; exact h) (by decide) (by decide) rfl) Tryd.underlying22 info5 (by decide) (by decide) (by decide) (fun xs h hx => fill_step (by omega) h) | exact ev_copyP (a := 2) (k := 2) (p := fun xs => xs.take 2 = List.replicate 2 (Value.int .u8 1)) (q := fun xs => xs.take 4 = List.replicate 4 (Value.int .u8 1)) (news := List.replicate 2 (.int .u8 1)) rfl (gn rfl) rfl (.inr rfl) rfl rfl (rdg_cutP rfl (fun xs h _ => by rw [List.drop_zero]; exact h) (by decide) (by decide) rfl) Tryd.underlying22 info5 (by decide) (by decide) (by decide) (fun xs h hx => fill_step (by omega) h) | exact ev_copyP (a := 4) (k := 4) (p := fun xs => xs.take 4 = List.replicate 4 (Value.int .u8 1)) (q := fun xs => xs.take 8 = List.replicate 8 (Value.int .u8 1)) (news := List.replicate 4 (.int .u8 1)) rfl (gn rfl) rfl (.inr rfl) rfl rfl (rdg_cutP rfl (fun xs h _ => by rw [List.drop_zero]; exact h) (by decide) (by decide) rfl) Tryd.underlying22 info5 (by decide) (by decide) (by decide) (fun xs h hx => fill_step (by omega) h) | exact ev_copyP (a := 8) (k := 8) (p := fun xs => xs.take 8 = List.replicate 8 (Value.int .u8 1)) (q := fun xs => xs.take 16 = List.replicate 16 (Value.int .u8 1)) (news := List.replicate 8 (.int .u8 1)) rfl (gn rfl) rfl (.inr rfl) rfl rfl (rdg_cutP rfl (fun xs h _ => by rw [List.drop_zero]; exact h) (by decide) (by decide) rfl) Tryd.underlying22 info5 (by decide) (by decide) (by decide) (fun xs h hx => fill_step (by omega) h) | exact ev_copyP (a := 16) (k := 16) (p := fun xs => xs.take 16 = List.replicate 16 (Value.int .u8 1)) (q := fun xs => xs.take 32 = List.replicate 32 (Value.int .u8 1)) (news := List.replicate 16 (.int .u8 1)) rfl (gn rfl) rfl (.inr rfl) rfl rfl (rdg_cutP rfl (fun xs h _ => by rw [List.drop_zero]; exact h) (by decide) (by decide) rfl) Tryd.underlying22 info5 (by decide) (by decide) (by decide) (fun xs h hx => fill_step (by omega) h)
    simp only [nmx, seval]
    apply VE.cons
    · first | exact ev_add (a := 1) (b := 1) (c := 2) rfl (gn rfl) rfl rfl (by decide) | exact ev_add (a := 2) (b := 2) (c := 4) rfl (gn rfl) rfl rfl (by decide) | exact ev_add (a := 4) (b := 4) (c := 8) rfl (gn rfl) rfl rfl (by decide) | exact ev_add (a := 8) (b := 8) (c := 16) rfl (gn rfl) rfl rfl (by decide) | exact ev_add (a := 16) (b := 16) (c := 32) rfl (gn rfl) rfl rfl (by decide)
    simp only [nmx, seval]
    apply VE.cons
    · exact ev_assign rfl (gn rfl)
    simp only [nmx, seval]
    exact VE.nil _
  · kernel_rfl
  change VOk _ _ _ _ _
  refine vseq ?_
  refine vseq ?_
  apply vrp
  · apply VE.cons
    · exact ev_move rfl (gn rfl)
    simp only [nmx, seval]
    apply VE.cons
    · exact ev_move rfl (gn rfl)
    simp only [nmx, seval]
    apply VE.cons
    · first | exact ev_lss (p := true) rfl (gn rfl) rfl rfl (by decide) | exact ev_lss (p := false) rfl (gn rfl) rfl rfl (by decide)
    simp only [nmx, seval]
    exact VE.nil _
  · kernel_rfl
  change VOk _ _ _ _ _
  refine vcond_f rfl ?_
  refine vexit ?_
  change VOk _ _ _ _ _
  refine vseq ?_
  apply vrp
  · apply VE.cons
    · exact ev_move rfl (gn rfl)
    simp only [nmx, seval]
    apply VE.cons
    · exact ev_assign rfl (gn rfl)
    simp only [nmx, seval]
    exact VE.nil _
  · kernel_rfl
  change VOk _ _ _ _ _
  refine vret ?_
  refine post_ret (res1 Tryd.results64 (rv_tmp rfl)) ?_
  intro ρ w' hr
  exact ⟨_, rfl, ret_rowP hr rfl (fun xs h hx => by have h2 : xs.take 32 = _ := h; rw [List.take_of_length_le (by omega)] at h2; exact h2), hr.1⟩
end Go.Proofs.YtafbhakmkbehiaaDoor
end
section
namespace TollBy
def beV : List Nat → Nat → Nat
  | [], a => a
  | b :: l, a => beV l (a * 256 + b)
theorem beV_app : ∀ (l : List Nat) (a : Nat), beV l a = a * 256 ^ l.length + beV l 0
  | [], a => by simp [beV]
  | b :: l, a => by
    simp only [beV, List.length_cons]
    rw [beV_app l (a * 256 + b), beV_app l (0 * 256 + b), Nat.pow_succ, Nat.add_mul, Nat.zero_mul, Nat.zero_add, Nat.mul_assoc, Nat.mul_comm 256, Nat.add_assoc]
theorem beV_lt : ∀ (l : List Nat), (∀ x ∈ l, x < 256) → beV l 0 < 256 ^ l.length
  | [], _ => by decide
  | b :: l, h => by
    have ih := beV_lt l (fun x hx => h x (by simp [hx]))
    have hb := h b (by simp)
    simp only [beV, List.length_cons]
    rw [beV_app, Nat.zero_mul, Nat.zero_add, Nat.pow_succ]
    have : (b + 1) * 256 ^ l.length ≤ 256 * 256 ^ l.length := Nat.mul_le_mul_right _ (by omega)
    rw [Nat.add_mul, Nat.one_mul] at this
    rw [Nat.mul_comm (256 ^ l.length)]
    omega
theorem beV_get : ∀ (l : List Nat), (∀ x ∈ l, x < 256) → ∀ i, i < l.length → beV l 0 / 256 ^ (l.length - 1 - i) % 256 = l.getD i 0
  | [], _, i, h => by simp at h
  | b :: l, h, i, hi => by
    have hl := beV_lt l (fun x hx => h x (by simp [hx]))
    have hb := h b (by simp)
    simp only [beV]
    rw [beV_app, Nat.zero_mul, Nat.zero_add]
    cases i with
    | zero =>
      simp only [List.length_cons, Nat.add_sub_cancel, Nat.sub_zero, List.getD_cons_zero]
      rw [Nat.mul_comm b, Nat.mul_add_div (Nat.pow_pos (by decide)), Nat.div_eq_of_lt hl, Nat.add_zero, Nat.mod_eq_of_lt hb]
    | succ i =>
      simp only [List.length_cons, List.getD_cons_succ] at hi ⊢
      have hi' : i < l.length := by omega
      rw [show l.length + 1 - 1 - (i + 1) = l.length - 1 - i by omega, ← beV_get l (fun x hx => h x (by simp [hx])) i hi']
      have e : 256 ^ l.length = 256 ^ (l.length - 1 - i) * (256 * 256 ^ i) := by
        rw [← Nat.pow_succ', ← Nat.pow_add]; congr 1; omega
      rw [e, show b * (256 ^ (l.length - 1 - i) * (256 * 256 ^ i)) = 256 ^ (l.length - 1 - i) * (256 * (256 ^ i * b)) by
        rw [Nat.mul_comm b, Nat.mul_assoc, Nat.mul_assoc], Nat.mul_add_div (Nat.pow_pos (by decide)), Nat.mul_add_mod]
end TollBy
end
