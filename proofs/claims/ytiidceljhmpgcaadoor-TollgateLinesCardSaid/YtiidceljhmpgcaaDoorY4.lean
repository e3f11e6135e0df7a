import Derived.Laws.MakeOwn
import Derived.Lib.MakeNoZero
import Derived.Great.BuildSlice
import Derived.Test.YtiidceljhmpgcaaDoorY3
section
namespace Go.Proofs.YtiidceljhmpgcaaDoor
open Go.RowKit Go.Vx
open Go.Toll (Gw)
open TollSha
set_option maxHeartbeats 4000000
set_option maxRecDepth 100000
theorem frame_cell {w w' : World} {y : Value} {X S : Nat → Prop} {a : Addr} {x : Value} (h : (frameD w X).holds [y] w' S) (hx : w.cell? a = some x) (hX : ¬ X a.block) : w'.cell? a = some x := by
  have hb := World.block_lt_of_cell? _ _ hx
  have he := (h a.block hb hX).1
  rw [← hx]
  simp only [World.cell?, he]
theorem rdg_frame {w : World} {m : Mem} {X F : Nat → Prop} {id : Nat} {v : Value} {n size : Nat} {l : List Value} (hm : m id = some (.dat (frameD w X))) (h : SlAt w v n size l F) (hF : ∀ k, F k → ¬ X k) : Rdg (bare w) m [id] (.v v) n size l := fun ρ S w' hb hR => by
  have hD := relon_dat hR (List.mem_singleton.2 rfl) hm
  obtain ⟨ao, cap, h1, h2, h3, h4⟩ := h
  refine ⟨F, ao, cap, by simp only [SV.c]; exact h1, h2, h3, h4.imp _root_.id fun ⟨g, a, b, c⟩ => ⟨g, a, b, fun i x hx => ?_⟩⟩
  have e : (g.add i).block = g.block := by unfold Addr.add; split <;> rfl
  exact frame_cell hD (c i x hx) (by rw [e]; exact hF g.block b)
def PartsAt (w : World) (v : Value) (ls : List (List Nat)) (F : Nat → Prop) : Prop :=
  ∃ vs, SlAt w v ls.length 1 vs F ∧ ∀ (i : Nat) (l : List Nat), ls[i]? = some l → ∃ u, vs[i]? = some u ∧ SlAt w u l.length 1 (l.map b8) F ∧ ∀ x ∈ l, x < 256
def StOwn (w : World) (g gr : Nat) (wv : Value) (a : List Nat) : Prop :=
  w.heap[g]? = some (.cells (stCells a wv).toArray 61 (0, 0)) ∧ RowAt w 0 ⟨gr, wv⟩ (stW a).length 1 5 ((stW a).map b8) ∧ (wv ≠ nilV → gr ≠ g)
def StX (g gr : Nat) (wv : Value) (k : Nat) : Prop := k = g ∨ (wv ≠ nilV ∧ k = gr)
def putRho (g gr : Nat) (wv : Value) : Nat → Nm := fun k => if k = 801 then ⟨g, undef⟩ else if k = 802 then ⟨gr, wv⟩ else ⟨0, undef⟩
def putMem (w : World) (g gr : Nat) (wv : Value) (H : St) (wt : List Nat) (n r : Nat) : List (Nat × Blk) :=
  [(801, .cells [.v (uv H.a), .v (uv H.b), .v (uv H.c), .v (uv H.d), .v (uv H.e), .v (uv H.f), .v (uv H.g), .v (uv H.h), .d r, .v (.int .i64 (n : Nat))] 61), (r, .row wt.length 1 5 (.exact (wt.map b8))), (803, .dat (frameD w (StX g gr wv))), (804, .pin 801 g), (805, .floor w.heap.size)]
theorem put_rel {w : World} {g gr : Nat} {wv : Value} {a : List Nat} (h : StOwn w g gr wv a) (fr : List SV) : Rel (bare w) (putRho g gr wv) ⟨fr, memOf (putMem w g gr wv (stH a) (stW a) a.length 802)⟩ w := by
  obtain ⟨h1, h2, h3⟩ := h
  refine ⟨bw_bare w, fun i k => i = 803 ∧ k < w.heap.size ∧ ¬ StX g gr wv k, ?_⟩
  have cs : ∀ i b, memOf (putMem w g gr wv (stH a) (stW a) a.length 802) i = some b → (i = 801 ∧ b = .cells [.v (uv (stH a).a), .v (uv (stH a).b), .v (uv (stH a).c), .v (uv (stH a).d), .v (uv (stH a).e), .v (uv (stH a).f), .v (uv (stH a).g), .v (uv (stH a).h), .d 802, .v (.int .i64 (a.length : Nat))] 61) ∨
      (i = 802 ∧ b = .row (stW a).length 1 5 (.exact ((stW a).map b8))) ∨ (i = 803 ∧ b = .dat (frameD w (StX g gr wv))) ∨ (i = 804 ∧ b = .pin 801 g) ∨ (i = 805 ∧ b = .floor w.heap.size) := by
    intro i b hb
    simp only [putMem, memOf] at hb
    split at hb
    · injection hb with hb; exact .inl ⟨by assumption, hb.symm⟩
    · split at hb
      · injection hb with hb; exact .inr (.inl ⟨by assumption, hb.symm⟩)
      · split at hb
        · injection hb with hb; exact .inr (.inr (.inl ⟨by assumption, hb.symm⟩))
        · split at hb
          · injection hb with hb; exact .inr (.inr (.inr (.inl ⟨by assumption, hb.symm⟩)))
          · split at hb
            · injection hb with hb; exact .inr (.inr (.inr (.inr ⟨by assumption, hb.symm⟩)))
            · cases hb
  have hg : g < w.heap.size := (Array.getElem?_eq_some_iff.1 h1).1
  have hgr : wv ≠ nilV → gr < w.heap.size := fun hn => by
    rcases h2 with ⟨h2, _⟩ | ⟨off, cap, cur, fz, _, _, h4, _⟩
    · exact absurd h2 hn
    · exact (Array.getElem?_eq_some_iff.1 h4).1
  refine ⟨?_, ?_, ?_, ?_, ?_⟩
  · intro i b hb
    rcases cs i b hb with ⟨rfl, rfl⟩ | ⟨rfl, rfl⟩ | ⟨rfl, rfl⟩ | ⟨rfl, rfl⟩ | ⟨rfl, rfl⟩
    · refine ⟨Nat.zero_le _, ?_⟩
      show w.heap[g]? = _
      rw [h1]; rfl
    · exact ⟨(stW a).map b8, by simp, rfl, h2⟩
    · exact fun k hk hx => ⟨rfl, rfl, hk, hx⟩
    · rfl
    · exact Nat.le_refl _
  · rintro i k _ ⟨_, h, _⟩; exact h
  · rintro i k _ _; exact Nat.zero_le _
  · rintro i b j hi ho hj ⟨rfl, h4, h5⟩
    rcases cs i b hi with ⟨rfl, rfl⟩ | ⟨rfl, rfl⟩ | ⟨rfl, rfl⟩ | ⟨rfl, rfl⟩ | ⟨rfl, rfl⟩
    · exact h5 (.inl rfl)
    · exact h5 (.inr ⟨ho, rfl⟩)
    · exact ho
    · exact ho
    · exact ho
  · intro i b j c hi ho hj hc he
    rcases cs i b hi with ⟨rfl, rfl⟩ | ⟨rfl, rfl⟩ | ⟨rfl, rfl⟩ | ⟨rfl, rfl⟩ | ⟨rfl, rfl⟩
    · rcases cs j c hj with ⟨rfl, rfl⟩ | ⟨rfl, rfl⟩ | ⟨rfl, rfl⟩ | ⟨rfl, rfl⟩ | ⟨rfl, rfl⟩
      · rfl
      · exact absurd he.symm (h3 hc)
      · exact hc.elim
      · exact hc.elim
      · exact hc.elim
    · rcases cs j c hj with ⟨rfl, rfl⟩ | ⟨rfl, rfl⟩ | ⟨rfl, rfl⟩ | ⟨rfl, rfl⟩ | ⟨rfl, rfl⟩
      · exact absurd he (h3 ho)
      · rfl
      · exact hc.elim
      · exact hc.elim
      · exact hc.elim
    · exact ho.elim
    · exact ho.elim
    · exact ho.elim
theorem relon_mono {base : Nat} {ρ : Nat → Nm} {S : Nat → Nat → Prop} {w : World} {m : Mem} {rd : List Nat} (rd' : List Nat) (hs : ∀ i ∈ rd', i ∈ rd) (hR : RelOn base ρ S w (restr rd m)) : RelOn base ρ S w (restr rd' m) := by
  have e : restr rd' (restr rd m) = restr rd' m := by
    funext k
    unfold restr
    by_cases h : k ∈ rd'
    · rw [if_pos h, if_pos h, if_pos (hs k h)]
    · rw [if_neg h, if_neg h]
  rw [← e]
  exact hR.restr rd'
def aI (a : List Nat) (ls : List (List Nat)) (i : Nat) : List Nat := a ++ (ls.take i).flatten
def mO (w : World) (g gr : Nat) (wv : Value) (a : List Nat) (ls : List (List Nat)) (i : Nat) : List (Nat × Blk) := putMem w g gr wv (stH (aI a ls i)) (stW (aI a ls i)) (aI a ls i).length 802
theorem ev_ptrnil {w0 : World} {ops : Array Oper} {o : Oper} {s : VS} {r : TypeId} {x y : Operand} {id off : Nat} (ho : o.op = .binOp .eql 38 x y r) (hgd : Want ops o s) (hx : svEval s x = .p id off) (hy : svEval s y = .v (.pointer none)) : Ev Tryd.prog ops w0 o s ⟨.v (.bool false), [], [], [], []⟩ :=
  Ev.run _ _ hgd fun ρ S w hb hR => by
    have e1 := svEval_c s ρ x
    rw [hx] at e1
    have e2 := svEval_c s ρ y
    rw [hy] at e2
    simp only [SV.c] at e1 e2
    have h := ptr_nn ⟨(ρ id).g, off, none⟩ x y w
    simp only [execOp, ho, e1, e2, SV.c]
    rw [Sem.run_bind, h]
    rfl
theorem nb_app {a p : List Nat} : 64 * nb a ≤ (a ++ p).length := by have := nb_le a; rw [List.length_append]; omega
theorem K_frame {w w' : World} {g gr : Nat} {wv : Value} {S : Nat → Prop} {y : Value} (hL : LaidK w) (hX : ¬ StX g gr wv 1) (h : (frameD w (StX g gr wv)).holds [y] w' S) : LaidK w' := fun i hi => frame_cell h (hL i hi) hX
theorem Put_ok {w : World} {g gr : Nat} {wv v : Value} {a : List Nat} {ls : List (List Nat)} {F : Nat → Prop} (hL : LaidK w) (hX1 : ¬ StX g gr wv 1) (hs : StOwn w g gr wv a) (hp : PartsAt w v ls F) (hFX : ∀ k, F k → ¬ StX g gr wv k) (ha8 : ∀ x ∈ a, x < 256) (hlt : (a ++ ls.flatten).length < 1048576) (hln : ls.length ≤ 1048576) :
    Calls Tryd.prog 13 #[.pointer (some ⟨g, 0, none⟩), v] w fun e w' => e = .returned (.tuple #[]) ∧ Bw (bare w) w' ∧ ∃ gr' wv', StOwn w' g gr' wv' (a ++ ls.flatten) ∧ (∀ k, k < w.heap.size → ¬ StX g gr wv k → w'.heap[k]? = w.heap[k]?) ∧ (wv' ≠ nilV → StX g gr wv gr' ∨ w.heap.size ≤ gr') ∧ w.heap.size ≤ w'.heap.size := by
  obtain ⟨vs, hvs, hel⟩ := hp
  have hfl : ∀ i, ((ls.take i).flatten).length ≤ (ls.flatten).length := fun i => by
    have : ls.flatten = (ls.take i).flatten ++ (ls.drop i).flatten := by rw [← List.flatten_append, List.take_append_drop]
    rw [this, List.length_append]; omega
  have hlen : ∀ i, (aI a ls i).length < 1048576 := fun i => by have := hfl i; unfold aI; rw [List.length_append] at hlt ⊢; omega
  have hall : ∀ i, ∀ x ∈ aI a ls i, x < 256 := fun i x hx => by
    rcases List.mem_append.1 hx with hx | hx
    · exact ha8 x hx
    · obtain ⟨l, hl, hx⟩ := List.mem_flatten.1 hx
      obtain ⟨j, hj⟩ := List.getElem?_of_mem (List.mem_of_mem_take hl)
      obtain ⟨_, _, _, h8⟩ := hel j l hj
      exact h8 x hx
  go_enter Tryd.func13, Tryd.ntmps13
  refine ve_gob (putRho g gr wv) (by simp [SV.c, putRho]) (put_rel hs [.p 801 0, .v v, .v undef, .v undef, .v undef, .v undef, .v undef, .v undef, .v undef, .v undef, .v undef, .v undef, .v undef, .v undef, .v undef, .v undef, .v undef, .v undef, .v undef, .v undef, .v undef, .v undef, .v undef, .v undef, .v undef, .v undef, .v undef, .v undef, .v undef, .v undef, .v undef, .v undef, .v undef, .v undef, .v undef, .v undef, .v undef, .v undef, .v undef, .v undef, .v undef, .v undef, .v undef, .v undef, .v undef, .v undef, .v undef, .v undef, .v undef, .v undef, .v undef, .v undef, .v undef, .v undef, .v undef, .v undef, .v undef, .v undef, .v undef, .v undef]) ?_
  simp only [putMem]
  refine vseq ?_
  refine vseq ?_
  apply vrp
  · apply VE.cons
    · exact ev_move rfl (gn rfl)
    simp only [nm, seval]
    apply VE.cons
    · exact ev_ptrnil rfl (gn rfl) rfl rfl
    simp only [nm, seval]
    exact VE.nil _
  · kernel_rfl
  change VOk _ _ _ _ _
  refine vcond_f rfl ?_
  refine vskip ?_
  change VOk _ _ _ _ _
  refine vseq ?_
  apply vrp
  · apply VE.cons
    · exact ev_move rfl (gn rfl)
    simp only [nm, seval]
    apply VE.cons
    · exact ev_len rfl (gn rfl) rfl Tryd.underlying23 (rdg_frame (id := 803) rfl hvs hFX)
    simp only [nm, seval]
    apply VE.cons
    · exact ev_move rfl (gn rfl)
    simp only [nm, seval]
    exact VE.nil _
  · kernel_rfl
  change VOk _ _ _ _ _
  refine vblock ?_
  refine vloop_w (α := {x : Nat // x ≤ ls.length}) (fun (x : {x : Nat // x ≤ ls.length}) f => ⟨[.p 801 0, .v (f 1), .v (f 2), .v (f 3), .v (f 4), .v (f 5), .v (f 6), .v (f 7), .v v, .v (.int .i64 (ls.length : Nat)), .v (.int .i64 (x.1 : Nat)), .v (f 11), .v (f 12), .v (f 13), .v (f 14), .v (f 15), .v (f 16), .v (f 17), .v (f 18), .v (f 19), .v (f 20), .v (f 21), .v (f 22), .v (f 23), .v (f 24), .v (f 25), .v (f 26), .v (f 27), .v (f 28), .v (f 29), .v (f 30), .v (f 31), .v (f 32), .v (f 33), .v (f 34), .v (f 35), .v (f 36), .v (f 37), .v (f 38), .v (f 39), .v (f 40), .v (f 41), .v (f 42), .v (f 43), .v (f 44), .v (f 45), .v (f 46), .v (f 47), .v (f 48), .v (f 49), .v (f 50), .v (f 51), .v (f 52), .v (f 53), .v (f 54), .v (f 55), .v (f 56), .v (f 57), .v (f 58), .v (f 59)], memOf (mO w g gr wv a ls x.1)⟩) (fun x => ls.length - x.1) ?_ (⟨0, Nat.zero_le _⟩) ?_
  · rintro ⟨i, hi⟩ f
    obtain ⟨q, h_q⟩ : ∃ q, decide (i < ls.length) = q := ⟨_, rfl⟩
    have h_q' := (nat_lt i ls.length).trans h_q
    simp only [mO, putMem]
    change VOk _ _ _ _ _
    refine vseq ?_
    apply vrp
    · apply VE.cons
      · exact ev_lss rfl (gn rfl) rfl rfl h_q'
      simp only [nm, seval]
      exact VE.nil _
    · kernel_rfl
    change VOk _ _ _ _ _
    refine vseq ?_
    cases q
    · refine vcond_f rfl ?_
      have hie : i = ls.length := by have := of_decide_eq_false h_q; omega
      subst hie
      refine vexit ?_
      refine post_end (res0 Tryd.results13 ) ?_
      intro ρ w' hr
      refine ⟨rfl, hr.1, ?_⟩
      obtain ⟨hb, S1, hR⟩ := hr
      have g1 := hR.good 801 _ rfl
      have g2 := hR.good 802 _ rfl
      have g3 := hR.good 803 _ rfl
      have g4 : (ρ 801).g = g := hR.good 804 _ rfl
      have eA : aI a ls ls.length = a ++ ls.flatten := by unfold aI; rw [List.take_length]
      rw [eA] at g1 g2
      obtain ⟨xs, x1, x2, x3⟩ := g2
      have x2' : xs = _ := x2
      subst x2'
      refine ⟨(ρ 802).g, (ρ 802).val, ⟨?_, x3, fun hn he => ?_⟩, fun k hk hX => (g3 k hk hX).1, fun hn => ?_, hR.good 805 _ rfl⟩
      · have h := g1.2
        rw [g4] at h
        rw [h]
        rfl
      · exact absurd (hR.inj 802 _ 801 _ rfl hn rfl True.intro (he.trans g4.symm)) (by decide)
      · by_cases hX : StX g gr wv (ρ 802).g
        · exact .inl hX
        · right
          apply Classical.byContradiction
          intro hlt'
          exact hR.dis 802 _ 803 rfl hn rfl (g3 (ρ 802).g (by omega) hX).2
    · refine vcond_t rfl ?_
      have hlt : i < ls.length := of_decide_eq_true h_q
      obtain ⟨l, hl⟩ : ∃ l, ls[i]? = some l := ⟨ls[i], List.getElem?_eq_getElem hlt⟩
      obtain ⟨u, hu1, hu2, hu8⟩ := hel i l hl
      obtain ⟨Ai, hAi⟩ : ∃ Ai, (aI a ls i) = Ai := ⟨_, rfl⟩
      obtain ⟨Ab, hAb⟩ : ∃ Ab, Ai ++ l = Ab := ⟨_, rfl⟩
      have hnx : (aI a ls (i + 1)) = Ab := by rw [← hAb, ← hAi]; unfold aI; rw [take_get hl]; simp
      have hA8 : ∀ x ∈ Ab, x < 256 := by rw [← hnx]; exact hall _
      have hAl : Ab.length < 1048576 := by rw [← hnx]; exact hlen _
      have hAbl : Ab.length = Ai.length + l.length := by rw [← hAb, List.length_append]
      have hnbA : 64 * nb Ai ≤ Ab.length := by rw [← hAb]; exact nb_app
      have hst : stH Ai = pressN H0 Ab (nb Ai) := by rw [← hAb]; exact stH_app Ai l
      have hwt : (stW Ai).map b8 ++ l.map b8 = (Ab.drop (64 * nb Ai)).map b8 := by rw [← List.map_append, stW_app, hAb]
      have hwl : (stW Ai).length + l.length = Ab.length - 64 * nb Ai := by have := congrArg List.length hwt; simp only [List.length_append, List.length_map, List.length_drop] at this; exact this
      have hwlt := stW_lt Ai
      rw [hAi]
      refine vskip ?_
      change VOk _ _ _ _ _
      refine vseq ?_
      refine vblock ?_
      refine vseq ?_
      apply vrp
      · apply VE.cons
        · exact ev_idx (k := i) rfl (gn rfl) rfl rfl Tryd.underlying23 Tryd.sizeOf28 (rdg_frame (id := 803) rfl hvs hFX) (of_decide_eq_true h_q) (by decide)
        simp only [nm, seval]
        apply VE.cons
        · exact ev_loadi rfl (gn rfl) rfl Tryd.underlying28 rfl (rdg_frame (id := 803) rfl hvs hFX) hu1
        simp only [nm, seval]
        apply VE.cons
        · exact ev_assign rfl (gn rfl)
        simp only [nm, seval]
        exact VE.nil _
      · kernel_rfl
      change VOk _ _ _ _ _
      refine vseq ?_
      apply vrp
      · apply VE.cons
        · exact ev_move rfl (gn rfl)
        simp only [nm, seval]
        apply VE.cons
        · first | exact ev_nil rfl (gn rfl) rfl | exact ev_nilx rfl (gn rfl) rfl
        simp only [nm, seval]
        apply VE.cons
        · first | exact ev_field rfl (gn rfl) rfl Tryd.underlying61 rfl Tryd.sizeOf3 | exact ev_fieldx rfl (gn rfl) rfl Tryd.underlying61 rfl Tryd.sizeOf3
        simp only [nm, seval]
        apply VE.cons
        · first | exact ev_load1 rfl (gn rfl) rfl rfl Tryd.underlying3 rfl rfl | exact ev_loadx1 rfl (gn rfl) rfl Tryd.underlying3 rfl (by assumption)
        simp only [nm, seval]
        apply VE.cons
        · exact ev_move rfl (gn rfl)
        simp only [nm, seval]
        apply VE.cons
        · exact ev_len rfl (gn rfl) rfl Tryd.underlying28 (rdg_frame (id := 803) rfl hu2 hFX)
        simp only [nm, seval]
        apply VE.cons
        · exact ev_add (c := ((Ai.length + l.length : Nat) : Int)) rfl (gn rfl) rfl rfl (by rw [i64w (by omega) (by omega)]; omega)
        simp only [nm, seval]
        apply VE.cons
        · first | exact ev_nil rfl (gn rfl) rfl | exact ev_nilx rfl (gn rfl) rfl
        simp only [nm, seval]
        apply VE.cons
        · first | exact ev_field rfl (gn rfl) rfl Tryd.underlying61 rfl Tryd.sizeOf3 | exact ev_fieldx rfl (gn rfl) rfl Tryd.underlying61 rfl Tryd.sizeOf3
        simp only [nm, seval]
        apply VE.cons
        · exact ev_store rfl (gn rfl) rfl rfl rfl Tryd.sizeOf3 rfl (by simp) rfl
        simp only [nm, seval]
        exact VE.nil _
      · kernel_rfl
      change VOk _ _ _ _ _
      refine vseq ?_
      apply vrp
      · apply VE.cons
        · exact ev_move rfl (gn rfl)
        simp only [nm, seval]
        apply VE.cons
        · exact ev_move rfl (gn rfl)
        simp only [nm, seval]
        apply VE.cons
        · first | exact ev_nil rfl (gn rfl) rfl | exact ev_nilx rfl (gn rfl) rfl
        simp only [nm, seval]
        apply VE.cons
        · first | exact ev_field rfl (gn rfl) rfl Tryd.underlying61 rfl Tryd.sizeOf28 | exact ev_fieldx rfl (gn rfl) rfl Tryd.underlying61 rfl Tryd.sizeOf28
        simp only [nm, seval]
        apply VE.cons
        · first | exact ev_load1 rfl (gn rfl) rfl rfl Tryd.underlying28 rfl rfl | exact ev_loadx1 rfl (gn rfl) rfl Tryd.underlying28 rfl (by assumption)
        simp only [nm, seval]
        apply VE.cons
        · exact ev_move rfl (gn rfl)
        simp only [nm, seval]
        apply VE.cons
        · exact ev_append rfl rfl (gn rfl) rfl rfl rfl (rdg_frame (id := 803) rfl hu2 hFX) Tryd.underlying28 el5 (by decide) (by simp) (b8_all _) (by simp only [maxLen]; omega) (by omega) (by simp)
        simp only [nm, seval]
        apply VE.cons
        · first | exact ev_nil rfl (gn rfl) rfl | exact ev_nilx rfl (gn rfl) rfl
        simp only [nm, seval]
        apply VE.cons
        · first | exact ev_field rfl (gn rfl) rfl Tryd.underlying61 rfl Tryd.sizeOf28 | exact ev_fieldx rfl (gn rfl) rfl Tryd.underlying61 rfl Tryd.sizeOf28
        simp only [nm, seval]
        apply VE.cons
        · first | exact ev_storeR (vl := [.d 29]) [801, 29] rfl (gn rfl) rfl rfl rfl Tryd.sizeOf28 rfl (fun ρ S w' _ hR => by have hh := row_cells (id := 29) hR (by simp) rfl; exact ⟨hh.1, by simp [SV.cs, SV.c, hh.2]⟩) rfl (by simp) | exact ev_storeR (vl := [.d 56]) [801, 56] rfl (gn rfl) rfl rfl rfl Tryd.sizeOf28 rfl (fun ρ S w' _ hR => by have hh := row_cells (id := 56) hR (by simp) rfl; exact ⟨hh.1, by simp [SV.cs, SV.c, hh.2]⟩) rfl (by simp)
        simp only [nm, seval]
        exact VE.nil _
      · kernel_rfl
      change VOk _ _ _ _ _
      refine vblock ?_
      refine vloop_w (α := {x : Nat // 64 * x ≤ Ab.length}) (fun (x : {x : Nat // 64 * x ≤ Ab.length}) f => ⟨[.p 801 0, .v (f 1), .v (f 2), .v (f 3), .v (f 4), .v (f 5), .v (f 6), .v (f 7), .v v, .v (.int .i64 (ls.length : Nat)), .v (.int .i64 (i : Nat)), .v (f 11), .v (f 12), .v (f 13), .v (f 14), .v (f 15), .v (f 16), .v (f 17), .v (f 18), .v (f 19), .v (f 20), .v (f 21), .v (f 22), .v (f 23), .v (f 24), .v (f 25), .v (f 26), .v (f 27), .v (f 28), .v (f 29), .v (f 30), .v (f 31), .v (f 32), .v (f 33), .v (f 34), .v (f 35), .v (f 36), .v (f 37), .v (f 38), .v (f 39), .v (f 40), .v (f 41), .v (f 42), .v (f 43), .v (f 44), .v (f 45), .v (f 46), .v (f 47), .v (f 48), .v (f 49), .v (f 50), .v (f 51), .v (f 52), .v (f 53), .v (f 54), .v (f 55), .v (f 56), .v (f 57), .v (f 58), .v (f 59)], memOf [(801, .cells [.v (uv (pressN H0 Ab x.1).a), .v (uv (pressN H0 Ab x.1).b), .v (uv (pressN H0 Ab x.1).c), .v (uv (pressN H0 Ab x.1).d), .v (uv (pressN H0 Ab x.1).e), .v (uv (pressN H0 Ab x.1).f), .v (uv (pressN H0 Ab x.1).g), .v (uv (pressN H0 Ab x.1).h), .d 802, .v (.int .i64 (Ab.length : Nat))] 61), (802, .row (Ab.length - 64 * x.1) 1 5 (.exact ((Ab.drop (64 * x.1)).map b8))), (803, .dat (frameD w (StX g gr wv))), (804, .pin 801 g), (805, .floor w.heap.size)]⟩) (fun x => Ab.length - 64 * x.1) ?_ (⟨nb Ai, hnbA⟩) ?_
      · rintro ⟨m, hm2⟩ f
        obtain ⟨q2, h_q2⟩ : ∃ q, decide (((Ab.length - 64 * m : Nat) : Int) ≥ ((64 : Nat) : Int)) = q := ⟨_, rfl⟩
        obtain ⟨H, hH⟩ : ∃ H, pressN H0 Ab m = H := ⟨_, rfl⟩
        rw [hH]
        change VOk _ _ _ _ _
        refine vseq ?_
        refine vseq ?_
        apply vrp
        · apply VE.cons
          · exact ev_move rfl (gn rfl)
          simp only [nm, seval]
          apply VE.cons
          · first | exact ev_nil rfl (gn rfl) rfl | exact ev_nilx rfl (gn rfl) rfl
          simp only [nm, seval]
          apply VE.cons
          · first | exact ev_field rfl (gn rfl) rfl Tryd.underlying61 rfl Tryd.sizeOf28 | exact ev_fieldx rfl (gn rfl) rfl Tryd.underlying61 rfl Tryd.sizeOf28
          simp only [nm, seval]
          apply VE.cons
          · first | exact ev_load1 rfl (gn rfl) rfl rfl Tryd.underlying28 rfl rfl | exact ev_loadx1 rfl (gn rfl) rfl Tryd.underlying28 rfl (by assumption)
          simp only [nm, seval]
          apply VE.cons
          · exact ev_len rfl (gn rfl) rfl Tryd.underlying28 (rdg_row rfl)
          simp only [nm, seval]
          apply VE.cons
          · exact ev_geq rfl (gn rfl) rfl rfl h_q2
          simp only [nm, seval]
          exact VE.nil _
        · kernel_rfl
        change VOk _ _ _ _ _
        cases q2
        · refine vcond_f rfl ?_
          have hme : m = nb Ab := end_of hm2 (by rw [List.length_drop]; have := of_decide_eq_false h_q2; omega)
          subst hme
          have hHs : stH Ab = H := hH
          have hWs : stW Ab = Ab.drop (64 * nb Ab) := rfl
          refine vexit ?_
          change VOk _ _ _ _ _
          apply vrp
          · apply VE.cons
            · exact ev_add (c := ((i + 1 : Nat) : Int)) rfl (gn rfl) rfl rfl (by rw [i64w (by omega) (by omega)]; omega)
            simp only [nm, seval]
            apply VE.cons
            · exact ev_move rfl (gn rfl)
            simp only [nm, seval]
            exact VE.nil _
          · kernel_rfl
          refine ⟨⟨i + 1, by omega⟩, by show ls.length - (i + 1) < ls.length - i; omega, ?_⟩
          simp only [hnx, hHs, hWs, List.length_drop]
          exact weaker_forget (fun i => i == 0 || i == 8 || i == 9 || i == 10) []
        · refine vcond_t rfl ?_
          refine vskip ?_
          change VOk _ _ _ _ _
          refine vblock ?_
          refine vseq ?_
          apply vrd (by kernel_rfl)
          · apply VE.cons
            · exact ev_move rfl (gn rfl)
            simp only [nm, seval]
            apply VE.cons
            · exact ev_move rfl (gn rfl)
            simp only [nm, seval]
            apply VE.cons
            · first | exact ev_nil rfl (gn rfl) rfl | exact ev_nilx rfl (gn rfl) rfl
            simp only [nm, seval]
            apply VE.cons
            · first | exact ev_field rfl (gn rfl) rfl Tryd.underlying61 rfl Tryd.sizeOf59 | exact ev_fieldx rfl (gn rfl) rfl Tryd.underlying61 rfl Tryd.sizeOf59
            simp only [nm, seval]
            apply VE.cons
            · first | exact ev_load rfl (gn rfl) rfl rfl Tryd.underlying59 rfl Tryd.sizeOf59 rfl rfl | exact ev_loadx rfl (gn rfl) rfl Tryd.underlying59 rfl Tryd.sizeOf59 (by assumption) rfl | exact ev_loada rfl (gn rfl) rfl rfl Tryd.underlying59 rfl Tryd.sizeOf59 rfl
            simp only [nm, seval]
            apply VE.cons
            · exact ev_move rfl (gn rfl)
            simp only [nm, seval]
            apply VE.cons
            · first | exact ev_nil rfl (gn rfl) rfl | exact ev_nilx rfl (gn rfl) rfl
            simp only [nm, seval]
            apply VE.cons
            · first | exact ev_field rfl (gn rfl) rfl Tryd.underlying61 rfl Tryd.sizeOf28 | exact ev_fieldx rfl (gn rfl) rfl Tryd.underlying61 rfl Tryd.sizeOf28
            simp only [nm, seval]
            apply VE.cons
            · first | exact ev_load1 rfl (gn rfl) rfl rfl Tryd.underlying28 rfl rfl | exact ev_loadx1 rfl (gn rfl) rfl Tryd.underlying28 rfl (by assumption)
            simp only [nm, seval]
            apply VE.cons
            · exact ev_cut (a := 0) (b := 64) (size := 1) rfl (gn rfl) rfl Tryd.underlying28 Tryd.sizeOf5 (rdg_row rfl) rfl rfl (by decide) (show 64 ≤ Ab.length - 64 * m by have := of_decide_eq_true h_q2; omega)
            simp only [nm, seval]
            apply VE.cons
            · exact ev_callp (v := .agg #[uv (TollSha.press H ((Ab.drop (64 * m)).take 64)).a, uv (TollSha.press H ((Ab.drop (64 * m)).take 64)).b, uv (TollSha.press H ((Ab.drop (64 * m)).take 64)).c, uv (TollSha.press H ((Ab.drop (64 * m)).take 64)).d, uv (TollSha.press H ((Ab.drop (64 * m)).take 64)).e, uv (TollSha.press H ((Ab.drop (64 * m)).take 64)).f, uv (TollSha.press H ((Ab.drop (64 * m)).take 64)).g, uv (TollSha.press H ((Ab.drop (64 * m)).take 64)).h]) [802, 803] rfl (gn rfl) rfl (en_of Tryd.func25 (by kernel_rfl) rfl) (fun ρ S w' hb hR => by have hD := relon_dat (id := 803) hR (by simp) rfl; obtain ⟨S0, s0⟩ := rdg_sub (lo := 0) (hi := 64) (n' := 64) (l' := ((Ab.drop (64 * m)).take 64).map b8) (rdg_row (id := 802) rfl) (Nat.zero_le _) (show 64 ≤ Ab.length - 64 * m by have := of_decide_eq_true h_q2; omega) (by rw [Nat.mul_one, Nat.mul_one, List.drop_zero, Nat.sub_zero, List.map_take]) rfl ρ S w' hb (relon_mono [802] (by simp) hR); exact press_ok H w' (K_frame hL hX1 hD) s0 (by rw [List.length_take, List.length_drop]; have := (show 64 ≤ Ab.length - 64 * m by have := of_decide_eq_true h_q2; omega); omega) (fun x hx => hA8 x (List.mem_of_mem_drop (List.mem_of_mem_take hx))))
            simp only [nm, seval]
            apply VE.cons
            · first | exact ev_nil rfl (gn rfl) rfl | exact ev_nilx rfl (gn rfl) rfl
            simp only [nm, seval]
            apply VE.cons
            · first | exact ev_field rfl (gn rfl) rfl Tryd.underlying61 rfl Tryd.sizeOf59 | exact ev_fieldx rfl (gn rfl) rfl Tryd.underlying61 rfl Tryd.sizeOf59
            simp only [nm, seval]
            apply VE.cons
            · exact ev_store rfl (gn rfl) rfl rfl rfl Tryd.sizeOf59 rfl (by simp) rfl
            simp only [nm, seval]
            exact VE.nil _
          · kernel_rfl
          change VOk _ _ _ _ _
          apply vrp
          · apply VE.cons
            · exact ev_move rfl (gn rfl)
            simp only [nm, seval]
            apply VE.cons
            · exact ev_move rfl (gn rfl)
            simp only [nm, seval]
            apply VE.cons
            · first | exact ev_nil rfl (gn rfl) rfl | exact ev_nilx rfl (gn rfl) rfl
            simp only [nm, seval]
            apply VE.cons
            · first | exact ev_field rfl (gn rfl) rfl Tryd.underlying61 rfl Tryd.sizeOf28 | exact ev_fieldx rfl (gn rfl) rfl Tryd.underlying61 rfl Tryd.sizeOf28
            simp only [nm, seval]
            apply VE.cons
            · first | exact ev_load1 rfl (gn rfl) rfl rfl Tryd.underlying28 rfl rfl | exact ev_loadx1 rfl (gn rfl) rfl Tryd.underlying28 rfl (by assumption)
            simp only [nm, seval]
            apply VE.cons
            · exact ev_cuttail (a := 64) (m := Ab.length - 64 * (m + 1)) (l' := (Ab.drop (64 * (m + 1))).map b8) rfl rfl (gn rfl) rfl rfl Tryd.underlying28 Tryd.sizeOf5 rfl (show 64 ≤ Ab.length - 64 * m by have := of_decide_eq_true h_q2; omega) (by rw [← List.map_drop, drop_step]) (by simp) (by omega)
            simp only [nm, seval]
            apply VE.cons
            · first | exact ev_nil rfl (gn rfl) rfl | exact ev_nilx rfl (gn rfl) rfl
            simp only [nm, seval]
            apply VE.cons
            · first | exact ev_field rfl (gn rfl) rfl Tryd.underlying61 rfl Tryd.sizeOf28 | exact ev_fieldx rfl (gn rfl) rfl Tryd.underlying61 rfl Tryd.sizeOf28
            simp only [nm, seval]
            apply VE.cons
            · first | exact ev_storeR (vl := [.d 29]) [801, 29] rfl (gn rfl) rfl rfl rfl Tryd.sizeOf28 rfl (fun ρ S w' _ hR => by have hh := row_cells (id := 29) hR (by simp) rfl; exact ⟨hh.1, by simp [SV.cs, SV.c, hh.2]⟩) rfl (by simp) | exact ev_storeR (vl := [.d 56]) [801, 56] rfl (gn rfl) rfl rfl rfl Tryd.sizeOf28 rfl (fun ρ S w' _ hR => by have hh := row_cells (id := 56) hR (by simp) rfl; exact ⟨hh.1, by simp [SV.cs, SV.c, hh.2]⟩) rfl (by simp)
            simp only [nm, seval]
            exact VE.nil _
          · kernel_rfl
          have h64 : 64 ≤ Ab.length - 64 * m := by have := of_decide_eq_true h_q2; omega
          refine ⟨⟨m + 1, by omega⟩, by show Ab.length - 64 * (m + 1) < Ab.length - 64 * m; omega, ?_⟩
          have e3 : TollSha.press H ((Ab.drop (64 * m)).take 64) = pressN H0 Ab (m + 1) := by rw [← hH]; rfl
          rw [e3]
          exact (weaker_forget (fun i => i == 0 || i == 8 || i == 9 || i == 10) []).trans2 (fun f => Weaker.trans2 (weaker_swap (a := (56, _)) (b := (801, _)) (show (56 : Nat) ≠ 801 by decide)) (fun _ => weaker_ren 56 802 (by decide) rfl))
      · rw [hst, hwt, hwl, ← hAbl]
        exact (weaker_forget (fun i => i == 0 || i == 8 || i == 9 || i == 10) []).trans2 (fun f => Weaker.trans2 (weaker_swap (a := (29, _)) (b := (801, _)) (show (29 : Nat) ≠ 801 by decide)) (fun _ => weaker_ren 29 802 (by decide) rfl))
  · refine (weaker_forget (fun i => i == 0 || i == 8 || i == 9 || i == 10) []).trans2 (fun f => weaker_id (fun _ => undef) ?_)
    simp [forgetFr, memDel, mO, putMem, aI]
end Go.Proofs.YtiidceljhmpgcaaDoor
end
section
namespace Go.Proofs.YtiidceljhmpgcaaDoor
open Go.RowKit Go.Vx
open Go.Toll (Gw)
open TollSha
set_option maxHeartbeats 4000000
set_option maxRecDepth 100000
def LaidH (w : World) : Prop := ∀ j v, ([uv H0.a, uv H0.b, uv H0.c, uv H0.d, uv H0.e, uv H0.f, uv H0.g, uv H0.h] : List Value)[j]? = some v → w.cell? ⟨0, j, none⟩ = some v
theorem LaidH.bw {w w' : World} (h : LaidH w) (hb : Bw w w') : LaidH w' := fun j v hj => hb.cell (h j v hj)
theorem stH_nil : stH [] = H0 := rfl
theorem built42 (h : List Value) (hh : h = [uv H0.a, uv H0.b, uv H0.c, uv H0.d, uv H0.e, uv H0.f, uv H0.g, uv H0.h]) : Tryd.prog.built 61 [(0, .agg h.toArray)] = some #[uv H0.a, uv H0.b, uv H0.c, uv H0.d, uv H0.e, uv H0.f, uv H0.g, uv H0.h, .slice none 0 0, .int .i64 0] := by subst hh; kernel_rfl
def stL (H : St) (r n : Nat) : List SV := [.v (uv H.a), .v (uv H.b), .v (uv H.c), .v (uv H.d), .v (uv H.e), .v (uv H.f), .v (uv H.g), .v (uv H.h), .d r, .v (.int .i64 (n : Nat))]
section
variable {w0 : World} {ops : Array Oper} {o : Oper} {s : VS}
theorem ev_callnewst {id : Nat} (r : Nat) (hir : r ≠ id) (hL : LaidH w0) (hNew : ∀ w, LaidH w → Calls Tryd.prog 12 #[] w fun e w' => ∃ g, e = .returned (.pointer (some ⟨g, 0, none⟩)) ∧ w.heap.size ≤ g ∧ w'.heap[g]? = some (.cells (stCells [] nilV).toArray 61 (0, 0)) ∧ Bw w w')
    (_hd : o.dst = some id) (ho : o.op = .call { callee := .value (.func 12), args := #[], argTypes := #[] }) (hgd : Want ops o s) (_he : ∀ args w, (callFunc 12 args).run Tryd.prog w = .ok (.enter 12 args) w) :
    Ev Tryd.prog ops w0 o s ⟨.p id 0, [(id, .cells (stL H0 r 0) 61), (r, .row 0 1 5 (.exact []))], [], [id, r], []⟩ := by
  refine ⟨by simp [Eff.ok], .inr ⟨hgd, fun ρ S w hb hR => .inr (.inr ⟨12, #[], ?_, (hNew w (hL.bw hb)).mono fun e w' ⟨g, h1, h2, h3, h4⟩ => ⟨_, h1, fun k => if k = id then ⟨g, undef⟩ else if k = r then ⟨0, nilV⟩ else ρ k, fun _ _ => False, ?_⟩⟩)⟩⟩
  · obtain ⟨dst, op, type, pos, after, guard⟩ := o
    simp only at ho
    subst ho
    rw [execOp_call_go]
    simp
  · have cs : ∀ i b, memOf [(id, Blk.cells (stL H0 r 0) 61), (r, .row 0 1 5 (.exact []))] i = some b → (i = id ∧ b = .cells (stL H0 r 0) 61) ∨ (i = r ∧ b = .row 0 1 5 (.exact [])) := by
      intro i b h
      simp only [memOf] at h
      split at h
      · injection h with h; exact .inl ⟨by assumption, h.symm⟩
      · split at h
        · injection h with h; exact .inr ⟨by assumption, h.symm⟩
        · cases h
    refine ⟨by simp [SV.c], fun i hi => ?_, h4.os, h4.tape, h4.output, h4.size, fun k hk _ => h4.block k hk, ?_, fun _ _ _ h => h.elim, ?_, ?_⟩
    · simp only [List.mem_cons, List.not_mem_nil, or_false, not_or] at hi
      rw [if_neg hi.1, if_neg hi.2]
    · intro i b h
      rcases cs i b h with ⟨rfl, rfl⟩ | ⟨rfl, rfl⟩
      · refine ⟨by simp only [if_true]; exact Nat.le_trans hb.size h2, ?_⟩
        simp only [if_true]
        rw [h3]
        simp [cellsObj, stL, SV.cs, SV.c, stCells, hir, stH_nil]
      · exact ⟨[], rfl, rfl, .inl ⟨by simp [hir, nilV], rfl⟩⟩
    · intro i b h hob
      rcases cs i b h with ⟨rfl, rfl⟩ | ⟨rfl, rfl⟩
      · exact .inr ⟨by simp only [if_true]; exact h2, fun _ _ h => h⟩
      · exact absurd (by simp [hir, nilV]) hob
    · intro i b j c hi hob hj hoc _
      rcases cs i b hi with ⟨rfl, rfl⟩ | ⟨rfl, rfl⟩
      · rcases cs j c hj with ⟨rfl, rfl⟩ | ⟨rfl, rfl⟩
        · rfl
        · exact absurd (by simp [hir, nilV]) hoc
      · exact absurd (by simp [hir, nilV]) hob
theorem ev_callput {id r n wl : Nat} (r2 : Nat) {a : List Nat} {ls : List (List Nat)} {x y : Operand} {sy : SV} (rd : List Nat) (h2 : r2 ≠ id) (hL : LaidK w0) (hb1 : 1 < w0.heap.size)
    (ho : o.op = .call { callee := .value (.func 13), args := #[x, y], argTypes := #[38, 23] }) (hgd : Want ops o s) (_he : ∀ args w, (callFunc 13 args).run Tryd.prog w = .ok (.enter 13 args) w)
    (hx : svEval s x = .p id 0) (hy : svEval s y = sy) (hm1 : s.mem id = some (.cells (stL (stH a) r n) 61)) (hm2 : s.mem r = some (.row wl 1 5 (.exact ((stW a).map b8)))) (hn : n = a.length) (hw : wl = (stW a).length) (hi : id ∈ rd) (hr : r ∈ rd)
    (hp : ∀ ρ S w, Bw w0 w → RelOn w0.heap.size ρ S w (restr rd s.mem) → ∃ F, PartsAt w (sy.c ρ) ls F ∧ ∀ k, F k → k ≠ (ρ id).g ∧ ((ρ r).val ≠ nilV → k ≠ (ρ r).g))
    (ha8 : ∀ x ∈ a, x < 256) (hlt : (a ++ ls.flatten).length < 1048576) (hln : ls.length ≤ 1048576) :
    Ev Tryd.prog ops w0 o s ⟨.v (.tuple #[]), [(id, .cells (stL (stH (a ++ ls.flatten)) r2 (a ++ ls.flatten).length) 61), (r2, .row (stW (a ++ ls.flatten)).length 1 5 (.exact ((stW (a ++ ls.flatten)).map b8)))], [id, r], [r2], rd⟩ := by
  subst hn hw
  refine ⟨by simp [Eff.ok, hi, hr], .inr ⟨hgd, fun ρ S w hb hR => ?_⟩⟩
  obtain ⟨F, hP, hF⟩ := hp ρ S w hb hR
  have g1 := relon_get hR hm1 hi
  obtain ⟨xs, x1, x2, x3⟩ := relon_get hR hm2 hr
  have x2' : xs = (stW a).map b8 := x2
  subst x2'
  have hin : ∀ j, j ∈ rd → restr rd s.mem j = s.mem j := fun j hj => by unfold restr; rw [if_pos hj]
  have hne : (ρ r).val ≠ nilV → (ρ r).g ≠ (ρ id).g := fun hv he => by
    have := hR.inj r _ id _ ((hin r hr).trans hm2) hv ((hin id hi).trans hm1) True.intro he
    subst this
    rw [hm1] at hm2; cases hm2
  have hst : StOwn w (ρ id).g (ρ r).g (ρ r).val a := by
    refine ⟨?_, ?_, hne⟩
    · rw [g1.2]; rfl
    · rcases x3 with x3 | ⟨off, cap, cur, fz, a1, _, a3⟩
      · exact .inl x3
      · exact .inr ⟨off, cap, cur, fz, a1, Nat.zero_le _, a3⟩
  have hX1 : ¬ StX (ρ id).g (ρ r).g (ρ r).val 1 := by
    rintro (h | ⟨hv, h⟩)
    · have := g1.1; omega
    · rcases x3 with ⟨x3, _⟩ | ⟨_, _, _, _, _, a2, _⟩
      · exact hv x3
      · have : w0.heap.size ≤ (ρ r).g := a2
        omega
  refine .inr (.inr ⟨13, #[.pointer (some ⟨(ρ id).g, 0, none⟩), sy.c ρ], ?_, (Put_ok (hL.bw hb) hX1 hst hP (fun k hk hX => ?_) ha8 hlt hln).mono fun e w' ⟨h1, h3, gr', wv', h4, h5, h6, h7⟩ => ⟨_, h1, fun k => if k = r2 then ⟨gr', wv'⟩ else ρ k, fun _ _ => False, ?_⟩⟩)
  · have e1 := svEval_c s ρ x
    rw [hx] at e1
    have e2 := svEval_c s ρ y
    rw [hy] at e2
    obtain ⟨dst, op, type, pos, after, guard⟩ := o
    simp only at ho
    subst ho
    rw [execOp_call_go]
    simp [e1, e2, SV.c]
  · rcases hX with hX | ⟨hv, hX⟩
    · exact (hF k hk).1 hX
    · exact (hF k hk).2 hv hX
  · obtain ⟨A, hA⟩ : ∃ A, a ++ ls.flatten = A := ⟨_, rfl⟩
    rw [hA] at h4 ⊢
    have cs : ∀ i b, memOf [(id, Blk.cells (stL (stH A) r2 A.length) 61), (r2, .row (stW A).length 1 5 (.exact ((stW A).map b8)))] i = some b → (i = id ∧ b = .cells (stL (stH A) r2 A.length) 61) ∨ (i = r2 ∧ b = .row (stW A).length 1 5 (.exact ((stW A).map b8))) := by
      intro i b h
      simp only [memOf] at h
      split at h
      · injection h with h; exact .inl ⟨by assumption, h.symm⟩
      · split at h
        · injection h with h; exact .inr ⟨by assumption, h.symm⟩
        · cases h
    have hbase : wv' ≠ nilV → w0.heap.size ≤ gr' := fun hv => by
      rcases h6 hv with (h | ⟨hv2, h⟩) | h
      · rw [h]; exact g1.1
      · rcases x3 with ⟨x3, _⟩ | ⟨_, _, _, _, _, a2, _⟩
        · exact absurd x3 hv2
        · rw [h]; exact a2
      · exact Nat.le_trans hb.size h
    refine ⟨by simp [SV.c], fun i hi => ?_, h3.os, h3.tape, h3.output, h7, fun k hk hup => h5 k hk ?_, ?_, fun _ _ _ h => h.elim, ?_, ?_⟩
    · simp only [List.mem_singleton] at hi
      rw [if_neg hi]
    · rintro (h | ⟨hv, h⟩)
      · exact hup id (by simp) _ hm1 True.intro h.symm
      · exact hup r (by simp) _ hm2 hv h.symm
    · intro i b h
      rcases cs i b h with ⟨rfl, rfl⟩ | ⟨rfl, rfl⟩
      · refine ⟨by simp only [if_neg (Ne.symm h2)]; exact g1.1, ?_⟩
        simp only [if_neg (Ne.symm h2)]
        rw [h4.1]
        simp [cellsObj, stL, SV.cs, SV.c, stCells]
      · refine ⟨(stW A).map b8, by simp, rfl, ?_⟩
        simp only [if_true]
        rcases h4.2.1 with h | ⟨off, cap, cur, fz, a1, a2, a3⟩
        · exact .inl h
        · exact .inr ⟨off, cap, cur, fz, a1, hbase (by show wv' ≠ nilV; have : wv' = _ := a1; rw [this]; simp [nilV]), a3⟩
    · intro i b h hob
      rcases cs i b h with ⟨rfl, rfl⟩ | ⟨rfl, rfl⟩
      · exact .inl ⟨i, by simp, _, hm1, True.intro, by simp only [if_neg (Ne.symm h2)]⟩
      · have hv : wv' ≠ nilV := by simpa [Blk.owns, nilV] using hob
        simp only [if_true]
        rcases h6 hv with (h | ⟨hv2, h⟩) | h
        · exact absurd h (h4.2.2 hv)
        · exact .inl ⟨r, by simp, _, hm2, hv2, h.symm⟩
        · exact .inr ⟨h, fun _ _ h => h⟩
    · intro i b j c hi hob hj hoc he
      rcases cs i b hi with ⟨rfl, rfl⟩ | ⟨rfl, rfl⟩
      · rcases cs j c hj with ⟨rfl, rfl⟩ | ⟨rfl, rfl⟩
        · rfl
        · have hv : wv' ≠ nilV := by simpa [Blk.owns, nilV] using hoc
          simp only [if_true, if_neg (Ne.symm h2)] at he
          exact absurd he.symm (h4.2.2 hv)
      · rcases cs j c hj with ⟨rfl, rfl⟩ | ⟨rfl, rfl⟩
        · have hv : wv' ≠ nilV := by simpa [Blk.owns, nilV] using hob
          simp only [if_true, if_neg (Ne.symm h2)] at he
          exact absurd he (h4.2.2 hv)
        · rfl
end
theorem New_ok (w : World) (hH : LaidH w) : Calls Tryd.prog 12 #[] w fun e w' => ∃ g, e = .returned (.pointer (some ⟨g, 0, none⟩)) ∧ w.heap.size ≤ g ∧ w'.heap[g]? = some (.cells (stCells [] nilV).toArray 61 (0, 0)) ∧ Bw w w' := by
  go_enter Tryd.func12, Tryd.ntmps12
  refine ve_go ?_
  simp only [List.map_cons, List.map_nil]
  refine vseq ?_
  apply vrp
  · apply VE.cons
    · exact ev_assign rfl (gn rfl)
    simp only [nm, seval]
    exact VE.nil _
  · kernel_rfl
  change VOk _ _ _ _ _
  refine vseq ?_
  apply vrp
  · apply VE.cons
    · exact ev_loadx (vs := [uv H0.a, uv H0.b, uv H0.c, uv H0.d, uv H0.e, uv H0.f, uv H0.g, uv H0.h]) rfl (gn rfl) rfl Tryd.underlying59 rfl Tryd.sizeOf59 (fun j v hj => (by rw [Nat.zero_add]; exact hH j v hj)) rfl
    simp only [nm, seval]
    apply VE.cons
    · exact ev_build rfl (gn rfl) rfl (built42 _ rfl)
    simp only [nm, seval]
    apply VE.cons
    · exact ev_box rfl rfl (gn rfl) rfl
    simp only [nm, seval]
    apply VE.cons
    · exact ev_assign rfl (gn rfl)
    simp only [nm, seval]
    exact VE.nil _
  · kernel_rfl
  change VOk _ _ _ _ _
  refine vret ?_
  refine post_ret (res1 Tryd.results12 (rv_tmp rfl)) ?_
  intro ρ w' hr
  refine ⟨(ρ 3).g, rfl, ?_, ?_, hr.1⟩
  · obtain ⟨hb, S1, hR⟩ := hr
    exact (hR.good 3 _ rfl).1
  · obtain ⟨hb, S1, hR⟩ := hr
    exact (hR.good 3 _ rfl).2
end Go.Proofs.YtiidceljhmpgcaaDoor
end
section
namespace Go.Proofs.YtiidceljhmpgcaaDoor
open Go.RowKit Go.Vx
open Go.Toll (Gw)
open TollSha
set_option maxHeartbeats 4000000
set_option maxRecDepth 100000
theorem partsAt_bw {w w' : World} {v : Value} {ls : List (List Nat)} {F : Nat → Prop} (h : PartsAt w v ls F) (hb : Bw w w') : PartsAt w' v ls F := by
  obtain ⟨vs, h1, h2⟩ := h
  refine ⟨vs, sl_bw h1 hb, fun i l hl => ?_⟩
  obtain ⟨u, h3, h4, h5⟩ := h2 i l hl
  exact ⟨u, h3, sl_bw h4 hb, h5⟩
theorem c_sum {w w0 : World} {ρ : Nat → Nm} {S : Nat → Nat → Prop} {m : Mem} {rd : List Nat} {id r n wl : Nat} {a : List Nat} (hR : RelOn w0.heap.size ρ S w (restr rd m)) (hid : id ∈ rd) (hr : r ∈ rd) (hm1 : m id = some (.cells (stL (stH a) r n) 61)) (hm2 : m r = some (.row wl 1 5 (.exact ((stW a).map b8)))) (hn : n = a.length) (hw : wl = (stW a).length) (hL : LaidK w) (h8 : ∀ x ∈ a, x < 256) (hm : a.length < 1048576) :
    Calls Tryd.prog 14 (SV.cs ρ [.p id 0]).toArray w fun e w' => e = .returned (.agg ((sha a).map b8).toArray) ∧ Bw w w' := by
  subst hn hw
  have g1 := relon_get hR hm1 hid
  obtain ⟨xs, x1, x2, x3⟩ := relon_get hR hm2 hr
  have x2' : xs = (stW a).map b8 := x2
  subst x2'
  have hs : StAt w (ρ id).g (ρ r).val a := fun j v hj => cell_arr (l := stCells a (ρ r).val) (ty := 61) (by rw [g1.2]; rfl) hj
  simp only [SV.cs, SV.c]
  exact Sum_ok w hL hs (row_sl x3 x1) h8 hm
theorem below_own {base : Nat} {ρ : Nat → Nm} {S : Nat → Nat → Prop} {w : World} {m : Mem} {rd : List Nat} {id r : Nat} {l : List SV} {ty : TypeId} {n : Nat} {D : Dat} {F : Nat → Prop} (hR : RelOn base ρ S w (restr rd m)) (hid : id ∈ rd) (hr : r ∈ rd) (hm1 : m id = some (.cells l ty)) (hm2 : m r = some (.row n 1 5 D)) (hF : ∀ k, F k → k < base) : ∀ k, F k → k ≠ (ρ id).g ∧ ((ρ r).val ≠ nilV → k ≠ (ρ r).g) := fun k hk => by
  have h0 := hF k hk
  have g1 := (relon_get hR hm1 hid).1
  obtain ⟨xs, _, _, x3⟩ := relon_get hR hm2 hr
  refine ⟨fun h => by omega, fun hv h => ?_⟩
  rcases x3 with ⟨x3, _⟩ | ⟨_, _, _, _, _, a2, _⟩
  · exact hv x3
  · have : base ≤ (ρ r).g := a2
    omega
theorem flat_lt {w : World} {v : Value} {ls : List (List Nat)} {F : Nat → Prop} (h : PartsAt w v ls F) : ∀ x ∈ ls.flatten, x < 256 := fun x hx => by
  obtain ⟨vs, _, h2⟩ := h
  obtain ⟨l, hl, hx⟩ := List.mem_flatten.1 hx
  obtain ⟨j, hj⟩ := List.getElem?_of_mem hl
  obtain ⟨_, _, _, h8⟩ := h2 j l hj
  exact h8 x hx
theorem Of_ok {v : Value} {ls : List (List Nat)} {F : Nat → Prop} (w : World) (hL : LaidK w) (hH : LaidH w) (hb1 : 1 < w.heap.size) (hp : PartsAt w v ls F) (hF : ∀ k, F k → k < w.heap.size) (hlt : ls.flatten.length < 1048576) (hln : ls.length ≤ 1048576) : Calls Tryd.prog 5 #[v] w fun e w' => e = .returned (.agg ((sha ls.flatten).map b8).toArray) ∧ Bw w w' := by
  go_enter Tryd.func5, Tryd.ntmps5
  refine ve_go ?_
  simp only [List.map_cons, List.map_nil]
  refine vseq ?_
  apply vrp
  · apply VE.cons
    · exact ev_allocr (l := OL []) rfl rfl (gn rfl) Tryd.zeroValue22 rfl
    simp only [nm, seval]
    exact VE.nil _
  · kernel_rfl
  change VOk _ _ _ _ _
  refine vseq ?_
  apply vrp
  · apply VE.cons
    · exact ev_callnewst 700 (by decide) hH (fun w h => New_ok w h) rfl rfl (gn rfl) (en_of Tryd.func12 (by kernel_rfl) rfl)
    simp only [nm, seval]
    apply VE.cons
    · exact ev_assign rfl (gn rfl)
    simp only [nm, seval]
    exact VE.nil _
  · kernel_rfl
  change VOk _ _ _ _ _
  refine vseq ?_
  apply vrp
  · apply VE.cons
    · exact ev_move rfl (gn rfl)
    simp only [nm, seval]
    apply VE.cons
    · exact ev_move rfl (gn rfl)
    simp only [nm, seval]
    apply VE.cons
    · exact ev_callput (id := 4) (r := 700) (n := 0) (wl := 0) (a := []) (ls := ls) 701 [4, 700] (by decide) hL hb1 rfl (gn rfl) (en_of Tryd.func13 (by kernel_rfl) rfl) rfl rfl rfl rfl rfl rfl (by simp) (by simp) (fun ρ S w' hb hR => ⟨F, partsAt_bw hp hb, below_own (id := 4) (r := 700) hR (by simp) (by simp) rfl rfl hF⟩) (fun x hx => by cases hx) hlt hln
    simp only [nm, seval]
    exact VE.nil _
  · kernel_rfl
  change VOk _ _ _ _ _
  refine vseq ?_
  apply vrp
  · apply VE.cons
    · exact ev_move rfl (gn rfl)
    simp only [nm, seval]
    apply VE.cons
    · exact ev_callp (v := .agg ((sha ls.flatten).map b8).toArray) [4, 701] rfl (gn rfl) rfl (en_of Tryd.func14 (by kernel_rfl) rfl) (fun ρ S w' hb hR => c_sum (id := 4) (r := 701) (a := ls.flatten) hR (by simp) (by simp) rfl rfl rfl rfl (hL.bw hb) (flat_lt hp) hlt)
    simp only [nm, seval]
    apply VE.cons
    · exact ev_storer (l' := (sha ls.flatten).map b8) rfl (gn rfl) rfl rfl rfl Tryd.sizeOf22 (by simp [Value.cells, sha_len]) (by rw [OL_len (by simp)]; decide) (by show ((sha ls.flatten).map b8).toArray.toList.all _ = true; exact b8_all _) (by rw [List.take_zero, List.nil_append, List.drop_of_length_le (by rw [OL_len (by simp)]; decide), List.append_nil]; simp [Value.cells])
    simp only [nm, seval]
    exact VE.nil _
  · kernel_rfl
  change VOk _ _ _ _ _
  refine vret ?_
  refine post_ret (res1 Tryd.results5 (rv_cellr (vs := (sha ls.flatten).map b8) rfl rfl Tryd.underlying22 rfl Tryd.sizeOf22 (List.take_of_length_le (by simp [sha_len])) (by simp [sha_len]))) ?_
  intro ρ w' hr
  exact ⟨rfl, hr.1⟩
end Go.Proofs.YtiidceljhmpgcaaDoor
end
section
namespace Go.Vx
open Go.RowKit Go.Toll
section
variable {P : Program} {w0 : World} {ops : Array Oper} {o : Oper} {s : VS}
theorem ev_makeslice {t e : TypeId} {x y : Operand} {id k : Nat} {z : Value} (_hd : o.dst = some id) (ho : o.op = .makeSlice t x y) (hgd : Want ops o s)
    (hx : svEval s x = .v (.int .i64 (k : Nat))) (hy : svEval s y = .v (.int .i64 (k : Nat))) (ht : P.underlying t = some (.slice e)) (hI : ElInfo P e 1 1) (hz : ∀ w, (zeroValue e).run P w = .ok z w) (hzc : z.cells = #[z]) (hk : k ≤ 140737488355328) :
    Ev P ops w0 o s ⟨.d id, [(id, .row k 1 e (.exact (List.replicate k z)))], [], [id], []⟩ :=
  ⟨by simp [Eff.ok], .inr ⟨hgd, fun ρ S w hb hR => by
    obtain ⟨i, z', hi, hz', hsize, hby, hzs⟩ := hI.get
    have e1 := svEval_c s ρ x
    rw [hx] at e1
    have e2 := svEval_c s ρ y
    rw [hy] at e2
    simp only [SV.c] at e1 e2
    have hzz : z = z' := by
      have := hz w
      simp [zeroValue, typeInfo, hi, hz'] at this
      exact this.symm
    subst hzz
    have hzl : madeCells #[z] k = (List.replicate k z).toArray := by
      apply Array.ext
      · simp [madeCells]
      · intro j h1 h2; simp [madeCells, Nat.mod_one]
    have hr := run_make (P := P) w t e i z ht hi hz' .i64 .i64 (k : Int) (k : Int) (by omega) (by omega) (by rw [hby]; omega) (by omega)
    rw [hsize, hzc, Int.toNat_natCast, Nat.mul_one, hzl] at hr
    refine .inl ⟨.slice (some ⟨w.heap.size, 0, none⟩) k k, w.alloc (.cells (List.replicate k z).toArray e), ?_, fun j => if j = id then ⟨w.heap.size, .slice (some ⟨w.heap.size, 0, none⟩) k k⟩ else ρ j, fun _ _ => False, ?_⟩
    · simp only [execOp, ho, e1, e2]
      rw [Sem.run_bind, hr]
      rfl
    · have := out_row (t := s.mem) (ρ := ρ) (S := S) (val := .d id) (rd := []) (id := id) (n := k) (size := 1) (ty := e) (l := List.replicate k z) (w := w) (w' := w.alloc (.cells (List.replicate k z).toArray e)) (v := .slice (some ⟨w.heap.size, 0, none⟩) k k) (g := w.heap.size) hb.size
        ⟨rfl, rfl, rfl, by simp, fun k hk => heap_alloc_old w _ hk⟩ (by simp) (.inr ⟨0, k, (List.replicate k z).toArray, (0, 0), rfl, Nat.le_refl _, heap_alloc_new w _, .inl rfl, Nat.le_refl _, by simp only [maxLen]; omega, by simp, by simp⟩)
      simpa [SV.c] using this⟩⟩
end
end Go.Vx
end
section
namespace Go.Proofs.YtiidceljhmpgcaaDoor
open Go.RowKit Go.Vx
open Go.Toll (Gw)
open TollSha
set_option maxHeartbeats 4000000
set_option maxRecDepth 100000
theorem run_copy_nil (w : World) (dT sT ty elem : TypeId) (ad : Option Addr) (n cap : Nat) (ao : Option Addr) (sc : Nat) (hu : Tryd.prog.underlying dT = some (.slice elem)) (hs : (Tryd.prog.info? elem).map (·.size) = some 1) :
    (Builtin.copy_ #[dT, sT] ty #[.slice ad n cap, .slice ao 0 sc]).run Tryd.prog w = .ok (goInt 0) w := by
  cases hq : Tryd.prog.info? elem with
  | none => simp [hq] at hs
  | some i =>
    have hi : i.size = 1 := by simpa [hq] using hs
    cases ao <;> cases ad <;> simp [Builtin.copy_, run_underlying hu, Builtin.lenOf, Builtin.firstCells, sizeOf, typeInfo, hq, loadCells, loadCellsFrom, storeCells]
theorem ev_copy0 {w0 : World} {ops : Array Oper} {o : Oper} {s : VS} {dT sT e : TypeId} {x y : Operand} {id n : Nat} {l news : List Value} {v : Value} {S0 : Nat → Prop} (ho : o.op = .call { callee := .builtin .copy, args := #[x, y], argTypes := #[dT, sT] }) (hgd : Want ops o s)
    (hx : svEval s x = .d id) (hm : s.mem id = some (.row n 1 e (.exact l))) (hy : svEval s y = .v v) (hr : SlAt w0 v 0 1 news S0) (hu : Tryd.prog.underlying dT = some (.slice e)) (hs : (Tryd.prog.info? e).map (·.size) = some 1) (_hpos : 0 < n) :
    Ev Tryd.prog ops w0 o s ⟨.v (.int .i64 0), [], [], [], [id]⟩ :=
  Ev.run _ _ hgd fun ρ S w hb hR => by
    have e1 := svEval_c s ρ x
    rw [hx] at e1
    have e2 := svEval_c s ρ y
    rw [hy] at e2
    obtain ⟨xs, hxl, hxe, hrow⟩ := relon_get hR hm (by simp)
    obtain ⟨ao, sc, rfl, _, _, _⟩ := hr
    obtain ⟨ad, cap, h1, _⟩ := row_sl hrow hxl
    simp only [SV.c] at e1 e2
    rw [h1] at e1
    have hrun := run_copy_nil w dT sT o.type e ad n cap ao sc hu hs
    unfold execOp
    simp only [ho, resolve, invoke, builtin, Sem.run_bind, Sem.run_pure, Result.andThen_ok, List.map_toArray, List.map_cons, List.map_nil, e1, e2, hrun, SV.c, goInt]
theorem u8x (b c : Nat) (hb : b < 256) (hc : c < 256) : bits .xor .u8 (b : Int) (c : Int) = ((b ^^^ c : Nat) : Int) := by
  have h := Nat.xor_lt_two_pow (n := 8) (x := b) (y := c) (by omega) (by omega)
  show IntKind.u8.wrap ((BitVec.ofInt 8 (b : Int) ^^^ BitVec.ofInt 8 (c : Int)).toNat : Int) = _
  rw [BitVec.toNat_xor, BitVec.toNat_ofInt, BitVec.toNat_ofInt]
  have h1 : ((b : Int) % ((2 ^ 8 : Nat) : Int)).toNat = b := by omega
  have h2 : ((c : Int) % ((2 ^ 8 : Nat) : Int)).toNat = c := by omega
  rw [h1, h2, IntKind.wrap_u8']
  omega
theorem xor8 {b c : Nat} (hb : b < 256) (hc : c < 256) (p q : Operand) (w : World) : (do eqGuard .xor 5 p q (b8 b) (b8 c); binOp .xor 5 (b8 b) (b8 c) : Sem Value).run Tryd.prog w = .ok (b8 (b ^^^ c)) w := by
  have h := u8x b c hb hc
  unfold b8
  go_simp
  try exact h
def keyP (key : List Nat) : List Nat := key ++ List.replicate (64 - key.length) 0
theorem keyP_len {key : List Nat} (h : key.length ≤ 64) : (keyP key).length = 64 := by simp [keyP]; omega
theorem keyP_lt {key : List Nat} (h : ∀ x ∈ key, x < 256) : ∀ x ∈ keyP key, x < 256 := fun x hx => by
  rcases List.mem_append.1 hx with hx | hx
  · exact h x hx
  · rw [(List.mem_replicate.1 hx).2]; decide
def padI (K : List Nat) (x i : Nat) : List Nat := (K.take i).map (· ^^^ x) ++ K.drop i
theorem padI_get {K : List Nat} {x i : Nat} (h : i < K.length) : (padI K x i)[i]? = some (K.getD i 0) := by
  have e : ((K.take i).map (· ^^^ x)).length = i := by simp; omega
  unfold padI
  rw [List.getElem?_append_right (by omega), e, Nat.sub_self, List.getElem?_drop]
  simp [List.getD, h]
theorem padI_set {K : List Nat} {x i : Nat} (h : i < K.length) : (padI K x i).set i (K.getD i 0 ^^^ x) = padI K x (i + 1) := by
  have e : ((K.take i).map (· ^^^ x)).length = i := by simp; omega
  have e2 : K.drop i = K.getD i 0 :: K.drop (i + 1) := by rw [List.drop_eq_getElem_cons h]; simp [List.getD, h]
  have e3 : K.take (i + 1) = K.take i ++ [K.getD i 0] := take_get (by simp [List.getD, h])
  unfold padI
  rw [e2, e3, List.map_append, List.append_assoc, List.set_append_right _ _ (by omega), e, Nat.sub_self]
  rfl
theorem padK_eq {key : List Nat} {x : Nat} (h : key.length ≤ 64) : padI (keyP key) x 64 = padK key x := by
  have hl := keyP_len h
  unfold padI padK
  rw [List.take_of_length_le (by omega), List.drop_of_length_le (by omega), List.append_nil]
  apply List.ext_getElem?
  intro i
  rw [List.getElem?_map, List.getElem?_map]
  by_cases hi : i < 64
  · have h1 : (keyP key)[i]? = some (key.getD i 0) := by
      unfold keyP
      by_cases hk : i < key.length
      · rw [List.getElem?_append_left hk]; simp [List.getD, hk]
      · rw [List.getElem?_append_right (by omega), List.getElem?_replicate, if_pos (by omega)]
        simp [List.getD, List.getElem?_eq_none (show key.length ≤ i by omega)]
    rw [h1, List.getElem?_range hi]; rfl
  · rw [List.getElem?_eq_none (by omega), List.getElem?_eq_none (by simp; omega)]; rfl
def Z64 : List Value := List.replicate 64 (Value.int .u8 0)
theorem Z64_eq : Z64 = (List.replicate 64 0).map b8 := by rw [List.map_replicate]; rfl
theorem Z64_key {key : List Nat} {x : Nat} (_h : key.length ≤ 64) : key.map b8 ++ Z64.drop key.length = (padI (keyP key) x 0).map b8 := by
  rw [Z64_eq, ← List.map_drop, ← List.map_append, List.drop_replicate]
  rfl
theorem ev_makerow {w0 : World} {ops : Array Oper} {o : Oper} {s : VS} {t e : TypeId} {x y : Operand} {id k : Nat} {z : Value} (l : List Value) (hl : List.replicate k z = l) (hd : o.dst = some id) (ho : o.op = .makeSlice t x y) (hgd : Want ops o s)
    (hx : svEval s x = .v (.int .i64 (k : Nat))) (hy : svEval s y = .v (.int .i64 (k : Nat))) (ht : Tryd.prog.underlying t = some (.slice e)) (hI : ElInfo Tryd.prog e 1 1) (hz : ∀ w, (zeroValue e).run Tryd.prog w = .ok z w) (hzc : z.cells = #[z]) (hk : k ≤ 140737488355328) :
    Ev Tryd.prog ops w0 o s ⟨.d id, [(id, .row k 1 e (.exact l))], [], [id], []⟩ := by
  subst hl
  exact ev_makeslice hd ho hgd hx hy ht hI hz hzc hk
theorem b8_one (c : Nat) : (b8 c).cells = #[b8 c] := rfl
theorem pad_0 {v : Value} {key : List Nat} {S : Nat → Prop} {x : Nat} (w : World) (hv : SlAt w v key.length 1 (key.map b8) S) (hkl : key.length ≤ 64) (hk8 : ∀ y ∈ key, y < 256) (hx : x < 256) (h0 : key = []) : Calls Tryd.prog 51 #[v, b8 x] w fun e w' => ∃ v', e = .returned v' ∧ RetRow w w' v' 64 1 5 ((padK key x).map b8) ∧ Bw w w' := by
  have hKl := keyP_len hkl
  have hK8 := keyP_lt hk8
  go_enter Tryd.func51, Tryd.ntmps51
  refine ve_go ?_
  simp only [List.map_cons, List.map_nil]
  refine vseq ?_
  apply vrp
  · apply VE.cons
    · exact ev_assign rfl (gn rfl)
    simp only [nm, seval]
    exact VE.nil _
  · kernel_rfl
  change VOk _ _ _ _ _
  refine vseq ?_
  apply vrp
  · apply VE.cons
    · exact ev_makerow (k := 64) Z64 rfl rfl rfl (gn rfl) rfl rfl Tryd.underlying28 el5 Tryd.zeroValue5 rfl (by decide)
    simp only [nm, seval]
    apply VE.cons
    · exact ev_assign rfl (gn rfl)
    simp only [nm, seval]
    exact VE.nil _
  · kernel_rfl
  change VOk _ _ _ _ _
  refine vseq ?_
  apply vrp
  · apply VE.cons
    · exact ev_move rfl (gn rfl)
    simp only [nm, seval]
    apply VE.cons
    · exact ev_move rfl (gn rfl)
    simp only [nm, seval]
    apply VE.cons
    · exact ev_copy0 rfl (gn rfl) rfl rfl rfl (by rw [h0] at hv; exact hv) Tryd.underlying28 (by kernel_rfl) (by decide)
    simp only [nm, seval]
    exact VE.nil _
  · kernel_rfl
  change VOk _ _ _ _ _
  refine vseq ?_
  refine vseq ?_
  apply vrp
  · apply VE.cons
    · exact ev_move rfl (gn rfl)
    simp only [nm, seval]
    apply VE.cons
    · exact ev_len rfl (gn rfl) rfl Tryd.underlying28 (rdg_row rfl)
    simp only [nm, seval]
    apply VE.cons
    · exact ev_move rfl (gn rfl)
    simp only [nm, seval]
    exact VE.nil _
  · kernel_rfl
  change VOk _ _ _ _ _
  refine vblock ?_
  refine vloop_w (α := {y : Nat // y ≤ 64}) (fun (y : {y : Nat // y ≤ 64}) f => ⟨[.v (f 0), .v (b8 x), .v (f 2), .v (f 3), .v (f 4), .d 7, .v (f 6), .v (f 7), .v (f 8), .v (f 9), .v (f 10), .v (f 11), .v (.int .i64 64), .v (.int .i64 (y.1 : Nat)), .v (f 14), .v (f 15), .v (f 16), .v (f 17), .v (f 18), .v (f 19), .v (f 20), .v (f 21), .v (f 22), .v (f 23), .v (f 24)], memOf [(7, .row 64 1 5 (.exact ((padI (keyP key) x y.1).map b8)))]⟩) (fun y => 64 - y.1) ?_ (⟨0, Nat.zero_le _⟩) ?_
  · rintro ⟨i, hi⟩ f
    obtain ⟨q, h_q⟩ : ∃ q, decide (i < 64) = q := ⟨_, rfl⟩
    have h_q' := (nat_lt i 64).trans h_q
    change VOk _ _ _ _ _
    refine vseq ?_
    apply vrp
    · apply VE.cons
      · exact ev_lss rfl (gn rfl) rfl rfl h_q'
      simp only [nm, seval]
      exact VE.nil _
    · kernel_rfl
    change VOk _ _ _ _ _
    refine vseq ?_
    cases q
    · refine vcond_f rfl ?_
      have hi64 : i = 64 := by have := of_decide_eq_false h_q; omega
      subst hi64
      refine vexit ?_
      change VOk _ _ _ _ _
      refine vseq ?_
      apply vrp
      · apply VE.cons
        · exact ev_move rfl (gn rfl)
        simp only [nm, seval]
        apply VE.cons
        · exact ev_assign rfl (gn rfl)
        simp only [nm, seval]
        exact VE.nil _
      · kernel_rfl
      change VOk _ _ _ _ _
      refine vret ?_
      refine post_ret (res1 Tryd.results51 (rv_tmp rfl)) ?_
      intro ρ w' hr
      refine ⟨_, rfl, ?_, hr.1⟩
      have hh := ret_row (id := 7) hr rfl
      rw [padK_eq hkl] at hh
      exact hh
    · refine vcond_t rfl ?_
      have hlt : i < 64 := of_decide_eq_true h_q
      refine vskip ?_
      change VOk _ _ _ _ _
      refine vseq ?_
      refine vblock ?_
      refine vseq ?_
      apply vrp
      · apply VE.cons
        · exact ev_move rfl (gn rfl)
        simp only [nm, seval]
        apply VE.cons
        · exact ev_assign rfl (gn rfl)
        simp only [nm, seval]
        exact VE.nil _
      · kernel_rfl
      change VOk _ _ _ _ _
      apply vrp
      · apply VE.cons
        · exact ev_move rfl (gn rfl)
        simp only [nm, seval]
        apply VE.cons
        · exact ev_move rfl (gn rfl)
        simp only [nm, seval]
        apply VE.cons
        · exact ev_idx (k := i) rfl (gn rfl) rfl rfl Tryd.underlying28 Tryd.sizeOf5 (rdg_row rfl) (hlt) (by decide)
        simp only [nm, seval]
        apply VE.cons
        · exact ev_loadi rfl (gn rfl) rfl Tryd.underlying5 rfl (rdg_row rfl) (by rw [List.getElem?_map, padI_get (by rw [hKl]; exact hlt)]; rfl)
        simp only [nm, seval]
        apply VE.cons
        · exact ev_move rfl (gn rfl)
        simp only [nm, seval]
        apply VE.cons
        · exact ev_bin rfl (gn rfl) rfl rfl (fun w => xor8 (getD_lt hK8 _) hx _ _ w)
        simp only [nm, seval]
        apply VE.cons
        · exact ev_idx (k := i) rfl (gn rfl) rfl rfl Tryd.underlying28 Tryd.sizeOf5 (rdg_row rfl) (hlt) (by decide)
        simp only [nm, seval]
        apply VE.cons
        · exact ev_storei (l' := (padI (keyP key) x (i + 1)).map b8) rfl (gn rfl) rfl rfl rfl Tryd.sizeOf5 (b8_one _) rfl hlt (by rw [← padI_set (by rw [hKl]; exact hlt), List.map_set])
        simp only [nm, seval]
        exact VE.nil _
      · kernel_rfl
      change VOk _ _ _ _ _
      apply vrp
      · apply VE.cons
        · exact ev_add (c := ((i + 1 : Nat) : Int)) rfl (gn rfl) rfl rfl (by rw [i64w (by omega) (by omega)]; omega)
        simp only [nm, seval]
        apply VE.cons
        · exact ev_move rfl (gn rfl)
        simp only [nm, seval]
        exact VE.nil _
      · kernel_rfl
      refine ⟨⟨i + 1, by omega⟩, by show 64 - (i + 1) < 64 - i; omega, ?_⟩
      exact weaker_forget (fun i => i == 1 || i == 5 || i == 12 || i == 13) []
  · rw [show Z64 = (padI (keyP key) x 0).map b8 by subst h0; exact Z64_eq]
    exact weaker_forget (fun i => i == 1 || i == 5 || i == 12 || i == 13) []
theorem pad_p {v : Value} {key : List Nat} {S : Nat → Prop} {x : Nat} (w : World) (hv : SlAt w v key.length 1 (key.map b8) S) (hkl : key.length ≤ 64) (hk8 : ∀ y ∈ key, y < 256) (hx : x < 256) (h0 : 0 < key.length) : Calls Tryd.prog 51 #[v, b8 x] w fun e w' => ∃ v', e = .returned v' ∧ RetRow w w' v' 64 1 5 ((padK key x).map b8) ∧ Bw w w' := by
  have hKl := keyP_len hkl
  have hK8 := keyP_lt hk8
  go_enter Tryd.func51, Tryd.ntmps51
  refine ve_go ?_
  simp only [List.map_cons, List.map_nil]
  refine vseq ?_
  apply vrp
  · apply VE.cons
    · exact ev_assign rfl (gn rfl)
    simp only [nm, seval]
    exact VE.nil _
  · kernel_rfl
  change VOk _ _ _ _ _
  refine vseq ?_
  apply vrp
  · apply VE.cons
    · exact ev_makerow (k := 64) Z64 rfl rfl rfl (gn rfl) rfl rfl Tryd.underlying28 el5 Tryd.zeroValue5 rfl (by decide)
    simp only [nm, seval]
    apply VE.cons
    · exact ev_assign rfl (gn rfl)
    simp only [nm, seval]
    exact VE.nil _
  · kernel_rfl
  change VOk _ _ _ _ _
  refine vseq ?_
  apply vrp
  · apply VE.cons
    · exact ev_move rfl (gn rfl)
    simp only [nm, seval]
    apply VE.cons
    · exact ev_move rfl (gn rfl)
    simp only [nm, seval]
    apply VE.cons
    · exact ev_copyrow (l' := (padI (keyP key) x 0).map b8) rfl (gn rfl) rfl rfl rfl (rdg_arg hv) Tryd.underlying28 (by kernel_rfl) hkl h0 (by decide) (b8_all _) (Z64_key hkl)
    simp only [nm, seval]
    exact VE.nil _
  · kernel_rfl
  change VOk _ _ _ _ _
  refine vseq ?_
  refine vseq ?_
  apply vrp
  · apply VE.cons
    · exact ev_move rfl (gn rfl)
    simp only [nm, seval]
    apply VE.cons
    · exact ev_len rfl (gn rfl) rfl Tryd.underlying28 (rdg_row rfl)
    simp only [nm, seval]
    apply VE.cons
    · exact ev_move rfl (gn rfl)
    simp only [nm, seval]
    exact VE.nil _
  · kernel_rfl
  change VOk _ _ _ _ _
  refine vblock ?_
  refine vloop_w (α := {y : Nat // y ≤ 64}) (fun (y : {y : Nat // y ≤ 64}) f => ⟨[.v (f 0), .v (b8 x), .v (f 2), .v (f 3), .v (f 4), .d 7, .v (f 6), .v (f 7), .v (f 8), .v (f 9), .v (f 10), .v (f 11), .v (.int .i64 64), .v (.int .i64 (y.1 : Nat)), .v (f 14), .v (f 15), .v (f 16), .v (f 17), .v (f 18), .v (f 19), .v (f 20), .v (f 21), .v (f 22), .v (f 23), .v (f 24)], memOf [(7, .row 64 1 5 (.exact ((padI (keyP key) x y.1).map b8)))]⟩) (fun y => 64 - y.1) ?_ (⟨0, Nat.zero_le _⟩) ?_
  · rintro ⟨i, hi⟩ f
    obtain ⟨q, h_q⟩ : ∃ q, decide (i < 64) = q := ⟨_, rfl⟩
    have h_q' := (nat_lt i 64).trans h_q
    change VOk _ _ _ _ _
    refine vseq ?_
    apply vrp
    · apply VE.cons
      · exact ev_lss rfl (gn rfl) rfl rfl h_q'
      simp only [nm, seval]
      exact VE.nil _
    · kernel_rfl
    change VOk _ _ _ _ _
    refine vseq ?_
    cases q
    · refine vcond_f rfl ?_
      have hi64 : i = 64 := by have := of_decide_eq_false h_q; omega
      subst hi64
      refine vexit ?_
      change VOk _ _ _ _ _
      refine vseq ?_
      apply vrp
      · apply VE.cons
        · exact ev_move rfl (gn rfl)
        simp only [nm, seval]
        apply VE.cons
        · exact ev_assign rfl (gn rfl)
        simp only [nm, seval]
        exact VE.nil _
      · kernel_rfl
      change VOk _ _ _ _ _
      refine vret ?_
      refine post_ret (res1 Tryd.results51 (rv_tmp rfl)) ?_
      intro ρ w' hr
      refine ⟨_, rfl, ?_, hr.1⟩
      have hh := ret_row (id := 7) hr rfl
      rw [padK_eq hkl] at hh
      exact hh
    · refine vcond_t rfl ?_
      have hlt : i < 64 := of_decide_eq_true h_q
      refine vskip ?_
      change VOk _ _ _ _ _
      refine vseq ?_
      refine vblock ?_
      refine vseq ?_
      apply vrp
      · apply VE.cons
        · exact ev_move rfl (gn rfl)
        simp only [nm, seval]
        apply VE.cons
        · exact ev_assign rfl (gn rfl)
        simp only [nm, seval]
        exact VE.nil _
      · kernel_rfl
      change VOk _ _ _ _ _
      apply vrp
      · apply VE.cons
        · exact ev_move rfl (gn rfl)
        simp only [nm, seval]
        apply VE.cons
        · exact ev_move rfl (gn rfl)
        simp only [nm, seval]
        apply VE.cons
        · exact ev_idx (k := i) rfl (gn rfl) rfl rfl Tryd.underlying28 Tryd.sizeOf5 (rdg_row rfl) (hlt) (by decide)
        simp only [nm, seval]
        apply VE.cons
        · exact ev_loadi rfl (gn rfl) rfl Tryd.underlying5 rfl (rdg_row rfl) (by rw [List.getElem?_map, padI_get (by rw [hKl]; exact hlt)]; rfl)
        simp only [nm, seval]
        apply VE.cons
        · exact ev_move rfl (gn rfl)
        simp only [nm, seval]
        apply VE.cons
        · exact ev_bin rfl (gn rfl) rfl rfl (fun w => xor8 (getD_lt hK8 _) hx _ _ w)
        simp only [nm, seval]
        apply VE.cons
        · exact ev_idx (k := i) rfl (gn rfl) rfl rfl Tryd.underlying28 Tryd.sizeOf5 (rdg_row rfl) (hlt) (by decide)
        simp only [nm, seval]
        apply VE.cons
        · exact ev_storei (l' := (padI (keyP key) x (i + 1)).map b8) rfl (gn rfl) rfl rfl rfl Tryd.sizeOf5 (b8_one _) rfl hlt (by rw [← padI_set (by rw [hKl]; exact hlt), List.map_set])
        simp only [nm, seval]
        exact VE.nil _
      · kernel_rfl
      change VOk _ _ _ _ _
      apply vrp
      · apply VE.cons
        · exact ev_add (c := ((i + 1 : Nat) : Int)) rfl (gn rfl) rfl rfl (by rw [i64w (by omega) (by omega)]; omega)
        simp only [nm, seval]
        apply VE.cons
        · exact ev_move rfl (gn rfl)
        simp only [nm, seval]
        exact VE.nil _
      · kernel_rfl
      refine ⟨⟨i + 1, by omega⟩, by show 64 - (i + 1) < 64 - i; omega, ?_⟩
      exact weaker_forget (fun i => i == 1 || i == 5 || i == 12 || i == 13) []
  · exact weaker_forget (fun i => i == 1 || i == 5 || i == 12 || i == 13) []
theorem pad_ok {v : Value} {key : List Nat} {S : Nat → Prop} {x : Nat} (w : World) (hv : SlAt w v key.length 1 (key.map b8) S) (hkl : key.length ≤ 64) (hk8 : ∀ y ∈ key, y < 256) (hx : x < 256) : Calls Tryd.prog 51 #[v, b8 x] w fun e w' => ∃ v', e = .returned v' ∧ RetRow w w' v' 64 1 5 ((padK key x).map b8) ∧ Bw w w' := by
  by_cases h0 : 0 < key.length
  · exact pad_p w hv hkl hk8 hx h0
  · exact pad_0 w hv hkl hk8 hx (List.eq_nil_of_length_eq_zero (by omega))
end Go.Proofs.YtiidceljhmpgcaaDoor
end
section
namespace Go.Proofs.YtiidceljhmpgcaaDoor
open Go.RowKit Go.Vx
open Go.Toll (Gw)
open TollSha
set_option maxHeartbeats 4000000
set_option maxRecDepth 100000
def Hangs (base : Nat) (ρ : Nat → Nm) (S : Nat → Nat → Prop) (m : Mem) (rd : List Nat) (k : Nat) : Prop := k < base ∨ ∃ j ∈ rd, ∃ b, m j = some b ∧ ((b.owns (ρ j) ∧ k = (ρ j).g) ∨ S j k)
theorem sl_mono {w : World} {v : Value} {n size : Nat} {l : List Value} {S S' : Nat → Prop} (h : SlAt w v n size l S) (hs : ∀ k, S k → S' k) : SlAt w v n size l S' := by
  obtain ⟨ao, cap, h1, h2, h3, h4⟩ := h
  exact ⟨ao, cap, h1, h2, h3, h4.imp _root_.id fun ⟨a, b, c, d⟩ => ⟨a, b, hs _ c, d⟩⟩
theorem Hangs.mono {base : Nat} {ρ : Nat → Nm} {S : Nat → Nat → Prop} {m : Mem} {rd rd' : List Nat} {k : Nat} (h : Hangs base ρ S m rd k) (hs : ∀ j ∈ rd, j ∈ rd') : Hangs base ρ S m rd' k :=
  h.imp _root_.id fun ⟨j, a, b⟩ => ⟨j, hs j a, b⟩
def RdgF (w0 : World) (m : Mem) (rd : List Nat) (x : SV) (n : Nat) (l : List Value) : Prop :=
  ∀ ρ S w, Bw w0 w → RelOn w0.heap.size ρ S w (restr rd m) → SlAt w (x.c ρ) n 1 l (Hangs w0.heap.size ρ S m rd)
def PartsF (w0 : World) (m : Mem) (rd : List Nat) (x : SV) (ls : List (List Nat)) : Prop :=
  ∀ ρ S w, Bw w0 w → RelOn w0.heap.size ρ S w (restr rd m) → PartsAt w (x.c ρ) ls (Hangs w0.heap.size ρ S m rd)
section
variable {w0 : World} {m : Mem} {rd : List Nat}
theorem rdgf_rdg {x : SV} {n : Nat} {l : List Value} (h : RdgF w0 m rd x n l) : Rdg w0 m rd x n 1 l := fun ρ S w hb hR => ⟨_, h ρ S w hb hR⟩
theorem rdgf_arg {v : Value} {n : Nat} {l : List Value} {F : Nat → Prop} (h : SlAt w0 v n 1 l F) (hF : ∀ k, F k → k < w0.heap.size) : RdgF w0 m rd (.v v) n l := fun _ _ _ hb _ => sl_bw (sl_mono h fun k hk => .inl (hF k hk)) hb
theorem rdgf_argb {v : Value} {n : Nat} {l : List Value} {F : Nat → Prop} (h : SlAt w0 v n 1 l F) : ∃ F', SlAt w0 v n 1 l F' ∧ ∀ k, F' k → k < w0.heap.size := by
  obtain ⟨ao, cap, h1, h2, h3, h4⟩ := h
  rcases h4 with h4 | ⟨a, b, c, d⟩
  · exact ⟨fun _ => False, ⟨ao, cap, h1, h2, h3, .inl h4⟩, fun _ h => h.elim⟩
  · cases l with
    | nil => exact ⟨fun _ => False, ⟨ao, cap, h1, h2, h3, .inl rfl⟩, fun _ h => h.elim⟩
    | cons x l =>
      refine ⟨fun k => k = a.block, ⟨ao, cap, h1, h2, h3, .inr ⟨a, b, rfl, d⟩⟩, fun k hk => ?_⟩
      have := World.block_lt_of_cell? _ _ (d 0 x rfl)
      rw [add_block] at this
      omega
theorem rdgf_row {id n : Nat} {e : TypeId} {l : List Value} (hid : id ∈ rd) (hm : m id = some (.row n 1 e (.exact l))) : RdgF w0 m rd (.d id) n l := fun ρ S w hb hR => by
  obtain ⟨xs, x1, x2, x3⟩ := relon_get hR hm hid
  have x2' : xs = l := x2
  subst x2'
  by_cases hv : (ρ id).val = nilV
  · rcases x3 with ⟨_, h0⟩ | ⟨off, cap, cur, fz, a1, _⟩
    · subst h0
      exact ⟨none, 0, hv, Nat.le_refl _, x1, .inl (List.eq_nil_of_length_eq_zero (by simpa using x1))⟩
    · rw [hv] at a1; simp [nilV] at a1
  · exact sl_mono (row_sl x3 x1) fun k hk => .inr ⟨id, hid, _, hm, .inl ⟨hv, hk⟩⟩
theorem rdgf_arr {id len cap : Nat} {b : List Value} {ty : TypeId} (hid : id ∈ rd) (hm : m id = some (.arr b ty)) (hn : b.length = len) (hc : len ≤ cap) : RdgF w0 m rd (.s id 0 len cap) len b := fun ρ S w hb hR => by
  have h := relon_get hR hm hid
  refine ⟨_, cap, rfl, hc, by omega, .inr ⟨_, rfl, .inr ⟨id, hid, _, hm, .inl ⟨True.intro, rfl⟩⟩, fun i x hx => ?_⟩⟩
  rw [add_at, Nat.zero_add]
  exact cell_arr (by rw [h.2]) hx
theorem partsf_arg {v : Value} {ls : List (List Nat)} {F : Nat → Prop} (h : PartsAt w0 v ls F) (hF : ∀ k, F k → k < w0.heap.size) : PartsF w0 m rd (.v v) ls := fun ρ S w hb _ => by
  obtain ⟨vs, h1, h2⟩ := partsAt_bw h hb
  refine ⟨vs, sl_mono h1 fun k hk => .inl (hF k hk), fun i l hl => ?_⟩
  obtain ⟨u, h3, h4, h5⟩ := h2 i l hl
  exact ⟨u, h3, sl_mono h4 fun k hk => .inl (hF k hk), h5⟩
def AllF (w0 : World) (m : Mem) (rd : List Nat) : List SV → List (List Nat) → Prop
  | [], [] => True
  | y :: ys, l :: ls => (RdgF w0 m rd y l.length (l.map b8) ∧ ∀ x ∈ l, x < 256) ∧ AllF w0 m rd ys ls
  | _, _ => False
theorem allf_len : ∀ {ys : List SV} {ls : List (List Nat)}, AllF w0 m rd ys ls → ys.length = ls.length
  | [], [], _ => rfl
  | _ :: _, _ :: _, h => by simp [allf_len h.2]
  | [], _ :: _, h => h.elim
  | _ :: _, [], h => h.elim
theorem allf_get : ∀ {ys : List SV} {ls : List (List Nat)}, AllF w0 m rd ys ls → ∀ (i : Nat) (l : List Nat), ls[i]? = some l → ∃ y, ys[i]? = some y ∧ RdgF w0 m rd y l.length (l.map b8) ∧ ∀ x ∈ l, x < 256
  | [], [], _, i, l, hl => by simp at hl
  | y :: _, _ :: _, h, 0, l, hl => by
    simp only [List.getElem?_cons_zero, Option.some.injEq] at hl
    subst hl
    exact ⟨y, rfl, h.1⟩
  | _ :: _, _ :: _, h, i + 1, l, hl => by
    simp only [List.getElem?_cons_succ] at hl ⊢
    exact allf_get h.2 i l hl
  | [], _ :: _, h, _, _, _ => h.elim
  | _ :: _, [], h, _, _, _ => h.elim
theorem partsf_own {id n : Nat} {ys : List SV} {ty : TypeId} {ls : List (List Nat)} (hid : id ∈ rd) (hm : m id = some (.cells ys ty)) (hn : ls.length = n) (h : AllF w0 m rd ys ls) : PartsF w0 m rd (.s id 0 n n) ls := fun ρ S w hb hR => by
  have hc := relon_get hR hm hid
  subst hn
  refine ⟨SV.cs ρ ys, ⟨_, _, rfl, Nat.le_refl _, by rw [cs_map, List.length_map, Nat.mul_one, allf_len h], .inr ⟨_, rfl, .inr ⟨id, hid, _, hm, .inl ⟨True.intro, rfl⟩⟩, fun i x hx => ?_⟩⟩, fun i l hl => ?_⟩
  · rw [add_at, Nat.zero_add]
    rw [cs_map, List.getElem?_map] at hx
    cases hy : ys[i]? with
    | none => rw [hy] at hx; cases hx
    | some y => rw [hy] at hx; simp only [Option.map_some, Option.some.injEq] at hx; rw [← hx]; exact cell_own hc.2 hy
  · obtain ⟨y, h1, h2, h3⟩ := allf_get h i l hl
    exact ⟨y.c ρ, by rw [cs_map, List.getElem?_map, h1]; rfl, h2 ρ S w hb hR, h3⟩
theorem partsf_put {x : SV} {ls : List (List Nat)} {id r n : Nat} {l : List SV} {D : Dat} {ty : TypeId} (rd2 : List Nat) (h : PartsF w0 m rd2 x ls) (hs : ∀ j ∈ rd2, j ∈ rd) (hi : id ∈ rd) (hr : r ∈ rd) (hni : id ∉ rd2) (hnr : r ∉ rd2) (hm1 : m id = some (.cells l ty)) (hm2 : m r = some (.row n 1 5 D)) :
    ∀ ρ S w, Bw w0 w → RelOn w0.heap.size ρ S w (restr rd m) → ∃ F, PartsAt w (x.c ρ) ls F ∧ ∀ k, F k → k ≠ (ρ id).g ∧ ((ρ r).val ≠ nilV → k ≠ (ρ r).g) := fun ρ S w hb hR => by
  refine ⟨_, h ρ S w hb (relon_mono rd2 hs hR), fun k hk => ?_⟩
  have hin : ∀ j, j ∈ rd → restr rd m j = m j := fun j hj => by unfold restr; rw [if_pos hj]
  have one : ∀ q c, q ∈ rd → q ∉ rd2 → m q = some c → c.owns (ρ q) → k ≠ (ρ q).g := by
    rintro q c hq hn2 hm ho rfl
    rcases hk with hk | ⟨j, hj, b, hb', h1 | h1⟩
    · have := (Good.own (relon_get hR hm hq) ho).1
      omega
    · have := hR.inj q _ j _ ((hin q hq).trans hm) ho ((hin j (hs j hj)).trans hb') h1.1 h1.2
      subst this
      exact hn2 hj
    · exact hR.dis q c j ((hin q hq).trans hm) ho (by rw [hin j (hs j hj), hb']; rfl) h1
  exact ⟨one id _ hi hni hm1 True.intro, fun hv => one r _ hr hnr hm2 hv⟩
theorem hangs_lt {ρ : Nat → Nm} {S : Nat → Nat → Prop} {w : World} (hb : Bw w0 w) (hR : RelOn w0.heap.size ρ S w (restr rd m)) : ∀ k, Hangs w0.heap.size ρ S m rd k → k < w.heap.size := fun k hk => by
  have hin : ∀ j, j ∈ rd → restr rd m j = m j := fun j hj => by unfold restr; rw [if_pos hj]
  rcases hk with hk | ⟨j, hj, b, hb', h1 | h1⟩
  · exact Nat.lt_of_lt_of_le hk hb.size
  · rw [h1.2]; exact (Good.own (relon_get hR hb' hj) h1.1).2
  · exact hR.lt j k (by rw [hin j hj, hb']; rfl) h1
end
theorem size1 {a : Array Value} (h : a.size = 1) : ∃ c, a = #[c] := by
  have h' : a.toList.length = 1 := by simpa using h
  obtain ⟨c, hc⟩ := List.length_eq_one_iff.1 h'
  exact ⟨c, by apply Array.ext'; rw [hc]⟩
theorem bsl1 (v : Value) (w : World) (h : v.cells.size = 1) : (Instr.buildSlice 23 1 #[(0, v)]).run Tryd.prog w = .ok (.slice (some ⟨w.heap.size, 0, none⟩) 1 1) (w.alloc (.cells v.cells 28)) := by
  have hz : ∀ w, (zeroValue 28).run Tryd.prog w = .ok (.slice none 0 0) w := Tryd.zeroValue28
  have hs : ∀ w, (Go.sizeOf 28).run Tryd.prog w = .ok 1 w := Tryd.sizeOf28
  obtain ⟨c, hc⟩ := size1 h
  unfold Instr.buildSlice
  have hzc : Value.cells (.slice none 0 0) = #[.slice none 0 0] := rfl
  simp [run_underlying Tryd.underlying23, hs, hz, Instr.fill, hc, hzc, newRow, newObj]
  rw [show (Array.map (fun x => ([Value.slice none 0 0][x % 1]?).getD default) (Array.range 1)) = #[.slice none 0 0] from by kernel_rfl]
  rfl
theorem bsl2 (v u : Value) (w : World) (h : v.cells.size = 1) (h' : u.cells.size = 1) : (Instr.buildSlice 23 2 #[(0, v), (1, u)]).run Tryd.prog w = .ok (.slice (some ⟨w.heap.size, 0, none⟩) 2 2) (w.alloc (.cells (v.cells ++ u.cells) 28)) := by
  have hz : ∀ w, (zeroValue 28).run Tryd.prog w = .ok (.slice none 0 0) w := Tryd.zeroValue28
  have hs : ∀ w, (Go.sizeOf 28).run Tryd.prog w = .ok 1 w := Tryd.sizeOf28
  obtain ⟨c, hc⟩ := size1 h
  obtain ⟨d, hd⟩ := size1 h'
  unfold Instr.buildSlice
  have hzc : Value.cells (.slice none 0 0) = #[.slice none 0 0] := rfl
  simp [run_underlying Tryd.underlying23, hs, hz, Instr.fill, hc, hd, hzc, newRow, newObj]
  rw [show (Array.map (fun x => ([Value.slice none 0 0][x % 1]?).getD default) (Array.range 2)) = #[.slice none 0 0, .slice none 0 0] from by kernel_rfl]
  rfl
theorem bsl3 (v0 v1 v2 : Value) (w : World) (h0 : v0.cells = #[v0]) (h1 : v1.cells = #[v1]) (h2 : v2.cells = #[v2]) : (Instr.buildSlice 23 3 #[(0, v0), (1, v1), (2, v2)]).run Tryd.prog w = .ok (.slice (some ⟨w.heap.size, 0, none⟩) 3 3) (w.alloc (.cells #[v0, v1, v2] 28)) := by
  have hz : ∀ w, (zeroValue 28).run Tryd.prog w = .ok (.slice none 0 0) w := Tryd.zeroValue28
  have hs : ∀ w, (Go.sizeOf 28).run Tryd.prog w = .ok 1 w := Tryd.sizeOf28
  unfold Instr.buildSlice
  have hzc : Value.cells (.slice none 0 0) = #[.slice none 0 0] := rfl
  simp [run_underlying Tryd.underlying23, hs, hz, Instr.fill, h0, h1, h2, hzc, newRow, newObj]
  rw [show (Array.map (fun x => ([Value.slice none 0 0][x % 1]?).getD default) (Array.range 3)) = #[.slice none 0 0, .slice none 0 0, .slice none 0 0] from by kernel_rfl]
  rfl
theorem ev_buildsl2 {P : Program} {w0 : World} {ops : Array Oper} {o : Oper} {s : VS} {ty e : TypeId} {x y : Operand} {n id : Nat} {sv sv2 : SV} {l l2 : List SV} (rd : List Nat) (_hd : o.dst = some id) (ho : o.op = .buildSlice ty 2 #[(0, x), (1, y)]) (hgd : Want ops o s)
    (hx : svEval s x = sv) (hy : svEval s y = sv2) (hc : ∀ ρ S w, RelOn w0.heap.size ρ S w (restr rd s.mem) → (sv.c ρ).cells.toList = SV.cs ρ l ∧ (sv2.c ρ).cells.toList = SV.cs ρ l2) (hn : l.length = n) (hn2 : l2.length = n) (hid : SV.hasL id (l ++ l2) = false)
    (hb : ∀ v u w, v.cells.size = n → u.cells.size = n → (Instr.buildSlice ty 2 #[(0, v), (1, u)]).run P w = .ok (.slice (some ⟨w.heap.size, 0, none⟩) 2 2) (w.alloc (.cells (v.cells ++ u.cells) e))) : Ev P ops w0 o s ⟨.s id 0 2 2, [(id, .cells (l ++ l2) e)], [], [id], rd⟩ :=
  ⟨by simp [Eff.ok], .inr ⟨hgd, fun ρ S w hbw hR => by
    have e0 := svEval_c s ρ x
    rw [hx] at e0
    have e1 := svEval_c s ρ y
    rw [hy] at e1
    obtain ⟨hcs, hcs2⟩ := hc ρ S w hR
    have hsz : (sv.c ρ).cells.size = n := by rw [← Array.length_toList, hcs, cs_map, List.length_map]; exact hn
    have hsz2 : (sv2.c ρ).cells.size = n := by rw [← Array.length_toList, hcs2, cs_map, List.length_map]; exact hn2
    have hcells : (sv.c ρ).cells ++ (sv2.c ρ).cells = (SV.cs ρ (l ++ l2)).toArray := by apply Array.ext'; rw [Array.toList_append, hcs, hcs2]; simp [cs_map]
    have hrun := hb _ _ w hsz hsz2
    rw [hcells] at hrun
    refine .inl ⟨.slice (some ⟨w.heap.size, 0, none⟩) 2 2, w.alloc (.cells (SV.cs ρ (l ++ l2)).toArray e), ?_, fun j => if j = id then ⟨w.heap.size, undef⟩ else ρ j, fun _ _ => False, ?_⟩
    · simp only [execOp, ho, List.map_toArray, List.map_cons, List.map_nil, e0, e1]
      rw [Sem.run_bind, hrun]
      rfl
    · have := out_new (base := w0.heap.size) (t := s.mem) (ρ := ρ) (S := S) (w := w) (w' := w.alloc (.cells (SV.cs ρ (l ++ l2)).toArray e)) (val := .s id 0 2 2) (rd := rd) (up := []) (id := id) (b := .cells (l ++ l2) e) (m := ⟨w.heap.size, undef⟩) (S1 := fun _ => False)
        rfl rfl rfl (by simp) (fun k hk _ => heap_alloc_old w _ hk) (fun ρ' g1 g2 => by
          refine ⟨by rw [g1]; exact hbw.size, ?_⟩
          rw [g1]
          simp only [cellsObj]
          rw [cs_upd (nw := [id]) (fun i hi => g2 i (by simpa using hi)) (fun i hi => by simp at hi; rw [hi]; exact hid)]
          exact heap_alloc_new w _) (fun _ h => h.elim) (fun _ => .inr ⟨Nat.le_refl _, fun h => h⟩)
      simpa [SV.c] using this⟩⟩
theorem padK_len (k : List Nat) (x : Nat) : (padK k x).length = 64 := by simp [padK]
theorem padK_lt {k : List Nat} {x : Nat} (h : ∀ y ∈ k, y < 256) (hx : x < 256) : ∀ y ∈ padK k x, y < 256 := fun y hy => by
  simp only [padK, List.mem_map, List.mem_range] at hy
  obtain ⟨i, _, rfl⟩ := hy
  exact Nat.xor_lt_two_pow (n := 8) (getD_lt h i) hx
theorem sha_lt (s : List Nat) : ∀ x ∈ sha s, x < 256 := out_lt _
theorem hmac_eq {key s : List Nat} (h : key.length ≤ 64) : sha (padK key 92 ++ sha (padK key 54 ++ s)) = hmac key s := by
  unfold hmac TollSha.keyOf
  rw [if_neg (by omega)]
theorem hmac_len (k s : List Nat) : (hmac k s).length = 32 := sha_len _
theorem hmac_lt (k s : List Nat) : ∀ x ∈ hmac k s, x < 256 := sha_lt _
theorem macOf_ok {v u : Value} {key : List Nat} {ls : List (List Nat)} {F G : Nat → Prop} (w : World) (hL : LaidK w) (hH : LaidH w) (hb1 : 1 < w.heap.size) (hv : SlAt w v key.length 1 (key.map b8) G) (hkl : key.length ≤ 64) (hk8 : ∀ y ∈ key, y < 256) (hp : PartsAt w u ls F) (hF : ∀ k, F k → k < w.heap.size) (hlt : ls.flatten.length < 1040000) (hln : ls.length ≤ 1048576) : Calls Tryd.prog 36 #[v, u] w fun e w' => e = .returned (.agg ((hmac key ls.flatten).map b8).toArray) ∧ Bw w w' := by
  obtain ⟨I, hI⟩ : ∃ I, padK key 54 = I := ⟨_, rfl⟩
  obtain ⟨O, hO⟩ : ∃ O, padK key 92 = O := ⟨_, rfl⟩
  have hIl : I.length = 64 := by rw [← hI]; exact padK_len _ _
  have hOl : O.length = 64 := by rw [← hO]; exact padK_len _ _
  have hI8 : ∀ x ∈ I, x < 256 := by rw [← hI]; exact padK_lt hk8 (by decide)
  have hO8 : ∀ x ∈ O, x < 256 := by rw [← hO]; exact padK_lt hk8 (by decide)
  have hres : sha [O, sha ([I].flatten ++ ls.flatten)].flatten = hmac key ls.flatten := by rw [← hmac_eq hkl, hI, hO]; simp
  rw [← hres]
  go_enter Tryd.func36, Tryd.ntmps36
  refine ve_go ?_
  simp only [List.map_cons, List.map_nil]
  refine vseq ?_
  apply vrp
  · apply VE.cons
    · exact ev_allocr (l := OL []) rfl rfl (gn rfl) Tryd.zeroValue22 rfl
    simp only [nm, seval]
    exact VE.nil _
  · kernel_rfl
  change VOk _ _ _ _ _
  refine vseq ?_
  refine vseq ?_
  apply vrp
  · apply VE.cons
    · exact ev_move rfl (gn rfl)
    simp only [nm, seval]
    apply VE.cons
    · exact ev_len rfl (gn rfl) rfl Tryd.underlying28 (rdg_arg hv)
    simp only [nm, seval]
    apply VE.cons
    · exact ev_gtr (p := false) rfl (gn rfl) rfl rfl (decide_eq_false (by omega))
    simp only [nm, seval]
    exact VE.nil _
  · kernel_rfl
  change VOk _ _ _ _ _
  refine vcond_f rfl ?_
  refine vskip ?_
  change VOk _ _ _ _ _
  refine vseq ?_
  apply vrp
  · apply VE.cons
    · exact ev_callnewst 700 (by decide) hH (fun w h => New_ok w h) rfl rfl (gn rfl) (en_of Tryd.func12 (by kernel_rfl) rfl)
    simp only [nm, seval]
    apply VE.cons
    · exact ev_assign rfl (gn rfl)
    simp only [nm, seval]
    exact VE.nil _
  · kernel_rfl
  change VOk _ _ _ _ _
  refine vseq ?_
  apply vrp
  · apply VE.cons
    · exact ev_move rfl (gn rfl)
    simp only [nm, seval]
    apply VE.cons
    · exact ev_move rfl (gn rfl)
    simp only [nm, seval]
    apply VE.cons
    · exact ev_callrow [] rfl rfl (gn rfl) rfl (en_of Tryd.func51 (by kernel_rfl) rfl) (n := 64) (size := 1) (l := I.map b8) (by simp [hIl]) (fun ρ S w' hb hR => by rw [← hI]; exact pad_ok w' (sl_bw hv hb) hkl hk8 (by decide))
    simp only [nm, seval]
    apply VE.cons
    · exact ev_buildsl1 (n := 1) (l := [.d 18]) [18] rfl rfl (gn rfl) rfl (fun ρ S w' hR => by have hh := row_cells (id := 18) hR (by simp) rfl; exact hh.1) rfl rfl bsl1
    simp only [nm, seval]
    apply VE.cons
    · exact ev_callput (id := 15) (r := 700) (n := 0) (wl := 0) (a := []) (ls := [I]) 701 [15, 700, 18, 19] (by decide) hL hb1 rfl (gn rfl) (en_of Tryd.func13 (by kernel_rfl) rfl) rfl rfl rfl rfl rfl rfl (by simp) (by simp) (partsf_put [18, 19] (partsf_own (by simp) rfl rfl ⟨⟨by rw [hIl]; exact rdgf_row (by simp) rfl, hI8⟩, trivial⟩) (by simp) (by simp) (by simp) (by decide) (by decide) rfl rfl) (fun x hx => by cases hx) (by simp [hIl]) (by simp)
    simp only [nm, seval]
    exact VE.nil _
  · kernel_rfl
  change VOk _ _ _ _ _
  refine vseq ?_
  apply vrp
  · apply VE.cons
    · exact ev_move rfl (gn rfl)
    simp only [nm, seval]
    apply VE.cons
    · exact ev_move rfl (gn rfl)
    simp only [nm, seval]
    apply VE.cons
    · exact ev_callput (id := 15) (r := 701) (a := [I].flatten) (ls := ls) 702 [15, 701] (by decide) hL hb1 rfl (gn rfl) (en_of Tryd.func13 (by kernel_rfl) rfl) rfl rfl rfl rfl rfl rfl (by simp) (by simp) (partsf_put [] (partsf_arg hp hF) (by simp) (by simp) (by simp) (by decide) (by decide) rfl rfl) (by simpa using hI8) (by simp only [List.length_append, List.flatten_cons, List.flatten_nil, List.length_nil, hIl]; omega) hln
    simp only [nm, seval]
    exact VE.nil _
  · kernel_rfl
  change VOk _ _ _ _ _
  refine vseq ?_
  apply vrp
  · apply VE.cons
    · exact ev_move rfl (gn rfl)
    simp only [nm, seval]
    apply VE.cons
    · exact ev_callp (v := .agg ((sha ([I].flatten ++ ls.flatten)).map b8).toArray) [15, 702] rfl (gn rfl) rfl (en_of Tryd.func14 (by kernel_rfl) rfl) (fun ρ S w' hb hR => c_sum (id := 15) (a := [I].flatten ++ ls.flatten) hR (by simp) (by simp) rfl rfl rfl rfl (hL.bw hb) (fun x hx => by rcases List.mem_append.1 hx with hx | hx; exact hI8 x (by simpa using hx); exact flat_lt hp x hx) (by simp only [List.length_append, List.flatten_cons, List.flatten_nil, List.length_nil, hIl]; omega))
    simp only [nm, seval]
    apply VE.cons
    · exact ev_allocr (l := OL []) rfl rfl (gn rfl) Tryd.zeroValue22 rfl
    simp only [nm, seval]
    apply VE.cons
    · first | exact ev_storer (l' := (sha ([I].flatten ++ ls.flatten)).map b8) rfl (gn rfl) rfl rfl rfl Tryd.sizeOf22 (by simp [Value.cells, sha_len]) (by rw [OL_len (by simp)]; decide) (by show ((sha ([I].flatten ++ ls.flatten)).map b8).toArray.toList.all _ = true; exact b8_all _) (by rw [List.take_zero, List.nil_append, List.drop_of_length_le (by rw [OL_len (by simp)]; decide), List.append_nil]; simp [Value.cells]) | exact ev_storer (l' := (sha [O, sha ([I].flatten ++ ls.flatten)].flatten).map b8) rfl (gn rfl) rfl rfl rfl Tryd.sizeOf22 (by simp [Value.cells, sha_len]) (by rw [OL_len (by simp)]; decide) (by show ((sha [O, sha ([I].flatten ++ ls.flatten)].flatten).map b8).toArray.toList.all _ = true; exact b8_all _) (by rw [List.take_zero, List.nil_append, List.drop_of_length_le (by rw [OL_len (by simp)]; decide), List.append_nil]; simp [Value.cells])
    simp only [nm, seval]
    exact VE.nil _
  · kernel_rfl
  change VOk _ _ _ _ _
  refine vseq ?_
  apply vrd (by kernel_rfl)
  · apply VE.cons
    · exact ev_move rfl (gn rfl)
    simp only [nm, seval]
    apply VE.cons
    · exact ev_callrow [] rfl rfl (gn rfl) rfl (en_of Tryd.func51 (by kernel_rfl) rfl) (n := 64) (size := 1) (l := O.map b8) (by simp [hOl]) (fun ρ S w' hb hR => by rw [← hO]; exact pad_ok w' (sl_bw hv hb) hkl hk8 (by decide))
    simp only [nm, seval]
    apply VE.cons
    · exact ev_slicea rfl (gn rfl) rfl Tryd.underlying22 Tryd.sizeOf5
    simp only [nm, seval]
    apply VE.cons
    · exact ev_buildsl2 (n := 1) (l := [.d 27]) (l2 := [.s 7 0 32 32]) [27] rfl rfl (gn rfl) rfl rfl (fun ρ S w' hR => by have hh := row_cells (id := 27) hR (by simp) rfl; exact ⟨hh.1, rfl⟩) rfl rfl rfl bsl2
    simp only [nm, seval]
    apply VE.cons
    · exact ev_callp (v := .agg ((sha [O, sha ([I].flatten ++ ls.flatten)].flatten).map b8).toArray) [7, 27, 29] rfl (gn rfl) rfl (en_of Tryd.func5 (by kernel_rfl) rfl) (fun ρ S w' hb hR => Of_ok w' (hL.bw hb) (hH.bw hb) (Nat.lt_of_lt_of_le hb1 hb.size) (partsf_own (id := 29) (n := 2) (ls := [O, sha ([I].flatten ++ ls.flatten)]) (by simp) (by rfl) rfl (by exact ⟨⟨by rw [hOl]; exact rdgf_row (by simp) rfl, hO8⟩, ⟨by rw [sha_len]; exact rdgf_arr (by simp) rfl (by simp [sha_len]) (by decide), sha_lt _⟩, trivial⟩) ρ S w' hb hR) (hangs_lt hb hR) (by simp [hOl, sha_len]) (by simp))
    simp only [nm, seval]
    apply VE.cons
    · first | exact ev_storer (l' := (sha ([I].flatten ++ ls.flatten)).map b8) rfl (gn rfl) rfl rfl rfl Tryd.sizeOf22 (by simp [Value.cells, sha_len]) (by rw [OL_len (by simp)]; decide) (by show ((sha ([I].flatten ++ ls.flatten)).map b8).toArray.toList.all _ = true; exact b8_all _) (by rw [List.take_zero, List.nil_append, List.drop_of_length_le (by rw [OL_len (by simp)]; decide), List.append_nil]; simp [Value.cells]) | exact ev_storer (l' := (sha [O, sha ([I].flatten ++ ls.flatten)].flatten).map b8) rfl (gn rfl) rfl rfl rfl Tryd.sizeOf22 (by simp [Value.cells, sha_len]) (by rw [OL_len (by simp)]; decide) (by show ((sha [O, sha ([I].flatten ++ ls.flatten)].flatten).map b8).toArray.toList.all _ = true; exact b8_all _) (by rw [List.take_zero, List.nil_append, List.drop_of_length_le (by rw [OL_len (by simp)]; decide), List.append_nil]; simp [Value.cells])
    simp only [nm, seval]
    exact VE.nil _
  · kernel_rfl
  change VOk _ _ _ _ _
  refine vret ?_
  refine post_ret (res1 Tryd.results36 (rv_cellr (vs := (sha [O, sha ([I].flatten ++ ls.flatten)].flatten).map b8) rfl rfl Tryd.underlying22 rfl Tryd.sizeOf22 (List.take_of_length_le (by simp [sha_len])) (by simp [sha_len]))) ?_
  intro ρ w' hr
  exact ⟨rfl, hr.1⟩
end Go.Proofs.YtiidceljhmpgcaaDoor
end
section
namespace Go.Proofs.YtiidceljhmpgcaaDoor
open Go.RowKit Go.Vx
open Go.Toll (Gw)
open TollSha
set_option maxHeartbeats 4000000
set_option maxRecDepth 100000
theorem weaker_arrow {w0 : World} (a n : Nat) {fr fr' : List SV} {l : List Value} {ty : TypeId} {m : List (Nat × Blk)} (hn : l.length = n) (hml : n ≤ maxLen) (hm : m.all (fun x => x.1 != a && !x.2.has a) = true)
    (hfr : ∀ ρ ρ' : Nat → Nm, (∀ k, (ρ' k).g = (ρ k).g) → (∀ k, k ≠ a → ρ' k = ρ k) → (ρ' a).val = .slice (some ⟨(ρ a).g, 0, none⟩) n n → SV.cs ρ' fr' = SV.cs ρ fr) :
    Weaker w0 ⟨fr, memOf ((a, .arr l ty) :: m)⟩ (fun _ => ⟨fr', memOf ((a, .row n 1 ty (.exact l)) :: m)⟩) := fun ρ w hr => by
  obtain ⟨hb, S, hR⟩ := hr
  obtain ⟨ρ', hρ'⟩ : ∃ ρ' : Nat → Nm, ρ' = fun k => if k = a then ⟨(ρ a).g, .slice (some ⟨(ρ a).g, 0, none⟩) n n⟩ else ρ k := ⟨_, rfl⟩
  have hv : (ρ' a).val = .slice (some ⟨(ρ a).g, 0, none⟩) n n := by rw [hρ']; simp
  have hs : ∀ k, k ∉ [a] → ρ' k = ρ k := fun k hk => by rw [hρ']; simp at hk; simp [hk]
  have hg : ∀ k, (ρ' k).g = (ρ k).g := fun k => by rw [hρ']; by_cases h : k = a <;> simp [h]
  have hma : ∀ k b, memOf m k = some b → k ≠ a ∧ b.has a = false := fun k b h => by
    have hmem : ∀ (m : List (Nat × Blk)), memOf m k = some b → (k, b) ∈ m := by
      intro m
      induction m with
      | nil => intro h; cases h
      | cons x m ih =>
        intro h
        simp only [memOf] at h
        split at h
        · rename_i e; injection h with h; subst h; rw [e]; exact List.mem_cons_self
        · exact List.mem_cons_of_mem _ (ih h)
    have := List.all_eq_true.1 hm _ (hmem m h)
    simpa using this
  have back : ∀ k b, memOf ((a, Blk.row n 1 ty (.exact l)) :: m) k = some b → (k = a ∧ b = .row n 1 ty (.exact l)) ∨ (k ≠ a ∧ memOf m k = some b ∧ memOf ((a, Blk.arr l ty) :: m) k = some b) := by
    intro k b h
    simp only [memOf] at h ⊢
    split at h
    · rename_i e; injection h with h; exact .inl ⟨e, h.symm⟩
    · rename_i e; exact .inr ⟨e, h, by rw [if_neg e]; exact h⟩
  have old : memOf ((a, Blk.arr l ty) :: m) a = some (.arr l ty) := by simp [memOf]
  have some' : ∀ k, (memOf ((a, Blk.row n 1 ty (.exact l)) :: m) k).isSome → (memOf ((a, Blk.arr l ty) :: m) k).isSome := fun k h => by
    simp only [memOf] at h ⊢
    split
    · rfl
    · rename_i e; rw [if_neg e] at h; exact h
  have go := hR.good a _ old
  have own : ∀ k b, memOf ((a, Blk.row n 1 ty (.exact l)) :: m) k = some b → b.owns (ρ' k) → ∃ c, memOf ((a, Blk.arr l ty) :: m) k = some c ∧ c.owns (ρ k) := fun k b h ho => by
    rcases back k b h with ⟨rfl, rfl⟩ | ⟨e, h1, h2⟩
    · exact ⟨_, old, True.intro⟩
    · exact ⟨b, h2, by rw [← hs k (by simpa using e)]; exact ho⟩
  refine ⟨fun _ => undef, ρ', ⟨hb, S, ?_⟩, ?_⟩
  · refine ⟨?_, fun id k h => hR.lt id k (some' id h), fun id k h => hR.fr id k (some' id h), ?_, ?_⟩
    · intro k b h
      rcases back k b h with ⟨rfl, rfl⟩ | ⟨e, h1, h2⟩
      · refine ⟨l, by omega, rfl, .inr ⟨0, n, l.toArray, (0, 0), ?_, ?_, ?_, .inl rfl, Nat.le_refl _, hml, by simp; omega, ?_⟩⟩
        · rw [hv, hg]
        · rw [hg]; exact go.1
        · rw [hg]; exact go.2
        · simp [List.take_of_length_le (show l.length ≤ n by omega)]
      · have hhas := (hma k b h1).2
        exact (hR.good k b h2).keep (ρ' := ρ') (hs k (by simpa using e)) (fun l' ty' hbl => cs_upd hs fun j hj => by
          simp at hj; subst hj; rw [hbl] at hhas; exact hhas) (fun j g hbl => hs j (by
            simp only [List.mem_singleton]
            rintro rfl
            rw [hbl] at hhas; simp [Blk.has, SV.hasL, SV.has] at hhas)) (Nat.le_refl _) (fun _ _ => rfl) (fun _ => rfl)
    · intro i b j hi ho hj hk
      obtain ⟨c, h1, h2⟩ := own i b hi ho
      rw [hg] at hk
      exact hR.dis i c j h1 h2 (some' j hj) hk
    · intro i b j c hi ho hj hoc he
      obtain ⟨b', h1, h2⟩ := own i b hi ho
      obtain ⟨c', h3, h4⟩ := own j c hj hoc
      rw [hg, hg] at he
      exact hR.inj i b' j c' h1 h2 h3 h4 he
  · simp only [VS.act]
    rw [← cs_map, ← cs_map, hfr ρ ρ' hg (fun k hk => hs k (by simpa using hk)) hv]
theorem expN_len (k info : List Nat) : ∀ i, (expN k info i).1.length = 32 * i ∧ (expN k info i).2.length ≤ 32 ∧ (∀ x ∈ (expN k info i).1, x < 256) ∧ ∀ x ∈ (expN k info i).2, x < 256
  | 0 => ⟨rfl, Nat.zero_le _, by simp [expN], by simp [expN]⟩
  | i + 1 => by
    obtain ⟨h1, h2, h3, h4⟩ := expN_len k info i
    simp only [expN]
    refine ⟨by rw [List.length_append, h1, hmac_len]; omega, by rw [hmac_len]; exact Nat.le_refl _, fun x hx => ?_, hmac_lt _ _⟩
    rcases List.mem_append.1 hx with hx | hx
    · exact h3 x hx
    · exact hmac_lt _ _ x hx
def expand (k info : List Nat) (n : Nat) : List Nat := (expN k info ((n + 31) / 32)).1.take n
theorem expand_len (k info : List Nat) (n : Nat) : (expand k info n).length = n := by
  unfold expand
  rw [List.length_take, (expN_len k info _).1]; omega
theorem expand_lt (k info : List Nat) (n : Nat) : ∀ x ∈ expand k info n, x < 256 := fun x hx => (expN_len k info _).2.2.1 x (List.mem_of_mem_take hx)
theorem Expand_ok {u : Value} {key info : List Nat} {n : Nat} {F : Nat → Prop} (w : World) (hL : LaidK w) (hH : LaidH w) (hb1 : 1 < w.heap.size) (hkl : key.length = 32) (hk8 : ∀ y ∈ key, y < 256) (hu : SlAt w u info.length 1 (info.map b8) F) (hu8 : ∀ y ∈ info, y < 256) (hul : info.length < 1000000) (hn : n ≤ 8160) : Calls Tryd.prog 24 #[.agg (key.map b8).toArray, u, .int .i64 (n : Nat)] w fun e w' => ∃ v', e = .returned (.tuple #[v', .int .i64 0]) ∧ RetRow w w' v' n 1 5 ((expand key info n).map b8) ∧ Bw w w' := by
  obtain ⟨F', hu', hF'⟩ := rdgf_argb hu
  go_enter Tryd.func24, Tryd.ntmps24
  refine ve_go ?_
  simp only [List.map_cons, List.map_nil]
  refine vseq ?_
  apply vrp
  · apply VE.cons
    · exact ev_boxr (l := key.map b8) rfl rfl (gn rfl) rfl rfl
    simp only [nm, seval]
    apply VE.cons
    · exact ev_assign rfl (gn rfl)
    simp only [nm, seval]
    apply VE.cons
    · exact ev_assign rfl (gn rfl)
    simp only [nm, seval]
    exact VE.nil _
  · kernel_rfl
  change VOk _ _ _ _ _
  refine vseq ?_
  refine vseq ?_
  apply vrp
  · apply VE.cons
    · exact ev_move rfl (gn rfl)
    simp only [nm, seval]
    apply VE.cons
    · exact ev_lss (p := false) rfl (gn rfl) rfl rfl (decide_eq_false (by omega))
    simp only [nm, seval]
    apply VE.cons
    · exact ev_move rfl (gn rfl)
    simp only [nm, seval]
    apply VE.cons
    · first | exact Ev.skip (fun _ => rfl) | exact ev_move rfl (fun _ => rfl)
    simp only [nm, seval]
    apply VE.cons
    · first | exact Ev.skip (fun _ => rfl) | exact ev_gtr (p := false) rfl (fun _ => rfl) rfl rfl (decide_eq_false (by omega))
    simp only [nm, seval]
    apply VE.cons
    · first | exact ev_pick_t rfl (gn rfl) rfl rfl | exact ev_pick_f rfl (gn rfl) rfl rfl
    simp only [nm, seval]
    exact VE.nil _
  · kernel_rfl
  change VOk _ _ _ _ _
  refine vcond_f rfl ?_
  refine vskip ?_
  change VOk _ _ _ _ _
  refine vseq ?_
  apply vrp
  · apply VE.cons
    · exact ev_assign rfl (gn rfl)
    simp only [nm, seval]
    apply VE.cons
    · exact ev_assign rfl (gn rfl)
    simp only [nm, seval]
    exact VE.nil _
  · kernel_rfl
  change VOk _ _ _ _ _
  refine vseq ?_
  refine vseq ?_
  apply vrp
  · apply VE.cons
    · exact ev_assign rfl (gn rfl)
    simp only [nm, seval]
    exact VE.nil _
  · kernel_rfl
  change VOk _ _ _ _ _
  refine vblock ?_
  refine vloop_w (α := {x : Nat // 32 * x < n + 32}) (fun (x : {x : Nat // 32 * x < n + 32}) f => ⟨[.v (f 0), .v u, .v (.int .i64 (n : Nat)), .p 3 0, .v (f 4), .v (f 5), .v (f 6), .v (f 7), .d 900, .d 901, .v (b8 ((x.1 + 1) % 256)), .v (f 11), .v (f 12), .v (f 13), .v (f 14), .v (f 15), .v (f 16), .v (f 17), .v (f 18), .v (f 19), .v (f 20), .v (f 21), .v (f 22), .v (f 23), .v (f 24), .v (f 25), .v (f 26), .v (f 27), .v (f 28), .v (f 29), .v (f 30), .v (f 31), .v (f 32), .v (f 33), .v (f 34), .v (f 35), .v (f 36), .v (f 37)], memOf [(900, .row (32 * x.1) 1 5 (.exact ((expN key info x.1).1.map b8))), (901, .row (expN key info x.1).2.length 1 22 (.exact ((expN key info x.1).2.map b8))), (3, .arr (key.map b8) 22)]⟩) (fun x => n + 32 - 32 * x.1) ?_ (⟨0, by omega⟩) ?_
  · rintro ⟨i, hi⟩ f
    obtain ⟨q, h_q⟩ : ∃ q, decide (32 * i < n) = q := ⟨_, rfl⟩
    have h_q' := (nat_lt (32 * i) n).trans h_q
    obtain ⟨hAl, hTl, hA8, hT8⟩ := expN_len key info i
    have hnx : expN key info (i + 1) = ((expN key info i).1 ++ hmac key ((expN key info i).2 ++ info ++ [(i + 1) % 256]), hmac key ((expN key info i).2 ++ info ++ [(i + 1) % 256])) := rfl
    obtain ⟨A, hA⟩ : ∃ A, (expN key info i).1 = A := ⟨_, rfl⟩
    obtain ⟨T, hT⟩ : ∃ T, (expN key info i).2 = T := ⟨_, rfl⟩
    rw [hA] at hAl hA8
    rw [hT] at hTl hT8
    rw [hA, hT] at hnx
    rw [hA, hT]
    change VOk _ _ _ _ _
    refine vseq ?_
    refine vseq ?_
    apply vrp
    · apply VE.cons
      · exact ev_move rfl (gn rfl)
      simp only [nm, seval]
      apply VE.cons
      · exact ev_len rfl (gn rfl) rfl Tryd.underlying28 (rdg_row rfl)
      simp only [nm, seval]
      apply VE.cons
      · exact ev_move rfl (gn rfl)
      simp only [nm, seval]
      apply VE.cons
      · exact ev_lss rfl (gn rfl) rfl rfl h_q'
      simp only [nm, seval]
      exact VE.nil _
    · kernel_rfl
    change VOk _ _ _ _ _
    cases q
    · refine vcond_f rfl ?_
      have hge : n ≤ 32 * i := by have := of_decide_eq_false h_q; omega
      refine vexit ?_
      change VOk _ _ _ _ _
      refine vseq ?_
      apply vrp
      · apply VE.cons
        · exact ev_move rfl (gn rfl)
        simp only [nm, seval]
        apply VE.cons
        · exact ev_move rfl (gn rfl)
        simp only [nm, seval]
        apply VE.cons
        · exact ev_cutrow (b := n) (l' := (A.take n).map b8) rfl rfl (gn rfl) rfl rfl Tryd.underlying28 Tryd.sizeOf5 rfl rfl (by have := of_decide_eq_false h_q; omega) (by rw [Nat.mul_one, List.map_take]) (by simp [hAl])
        simp only [nm, seval]
        apply VE.cons
        · exact ev_assign rfl (gn rfl)
        simp only [nm, seval]
        apply VE.cons
        · exact ev_assign rfl (gn rfl)
        simp only [nm, seval]
        exact VE.nil _
      · kernel_rfl
      change VOk _ _ _ _ _
      refine vret ?_
      refine post_ret (res2 Tryd.results24 (rv_tmp rfl) (rv_tmp rfl)) ?_
      intro ρ w' hr
      refine ⟨_, rfl, ?_, hr.1⟩
      have hh := ret_row (id := 37) hr rfl
      have hie : (n + 31) / 32 = i := by omega
      unfold expand
      rw [hie, hA]
      exact hh
    · refine vcond_t rfl ?_
      have hlt : 32 * i < n := of_decide_eq_true h_q
      refine vskip ?_
      change VOk _ _ _ _ _
      refine vseq ?_
      refine vblock ?_
      refine vseq ?_
      apply vrp
      · apply VE.cons
        · exact ev_slicea rfl (gn rfl) rfl Tryd.underlying22 Tryd.sizeOf5
        simp only [nm, seval]
        apply VE.cons
        · exact ev_move rfl (gn rfl)
        simp only [nm, seval]
        apply VE.cons
        · exact ev_move rfl (gn rfl)
        simp only [nm, seval]
        apply VE.cons
        · exact ev_move rfl (gn rfl)
        simp only [nm, seval]
        apply VE.cons
        · exact ev_buildslice rfl rfl (gn rfl) rfl (e := 5) (l := [b8 ((i + 1) % 256)]) rfl (by decide) (fun _ => by kernel_rfl)
        simp only [nm, seval]
        apply VE.cons
        · exact ev_buildsl3 [901, 28] rfl rfl (gn rfl) rfl rfl rfl (rdgf_rdg (rdgf_row (l := T.map b8) (by simp) rfl)) (rdgf_rdg (rdgf_arg hu' hF')) (rdgf_rdg (rdgf_row (n := 1) (l := [b8 ((i + 1) % 256)]) (by simp) rfl)) rfl bsl3
        simp only [nm, seval]
        apply VE.cons
        · exact ev_callp (v := .agg ((hmac key [T, info, [(i + 1) % 256]].flatten).map b8).toArray) [3, 901, 28, 29] rfl (gn rfl) rfl (en_of Tryd.func36 (by kernel_rfl) rfl) (fun ρ S w' hb hR => macOf_ok w' (hL.bw hb) (hH.bw hb) (Nat.lt_of_lt_of_le hb1 hb.size) (by rw [hkl]; exact rdgf_arr (id := 3) (len := 32) (b := key.map b8) (by simp) (by rfl) (by simp [hkl]) (by decide) ρ S w' hb hR) (by omega) hk8 (partsf_own (id := 29) (n := 3) (ls := [T, info, [(i + 1) % 256]]) (by simp) (by rfl) rfl (by exact ⟨⟨rdgf_row (by simp) rfl, hT8⟩, ⟨rdgf_arg hu' hF', hu8⟩, ⟨rdgf_row (by simp) rfl, by simp; omega⟩, trivial⟩) ρ S w' hb hR) (hangs_lt hb hR) (by simp; omega) (by simp))
        simp only [nm, seval]
        apply VE.cons
        · exact ev_allocr (l := OL []) rfl rfl (gn rfl) Tryd.zeroValue22 rfl
        simp only [nm, seval]
        apply VE.cons
        · exact ev_storer (l' := (hmac key [T, info, [(i + 1) % 256]].flatten).map b8) rfl (gn rfl) rfl rfl rfl Tryd.sizeOf22 (by simp [Value.cells, hmac_len]) (by rw [OL_len (by simp)]; decide) (by show ((hmac key [T, info, [(i + 1) % 256]].flatten).map b8).toArray.toList.all _ = true; exact b8_all _) (by rw [List.take_zero, List.nil_append, List.drop_of_length_le (by rw [OL_len (by simp)]; decide), List.append_nil]; simp [Value.cells])
        simp only [nm, seval]
        exact VE.nil _
      · kernel_rfl
      change VOk _ _ _ _ _
      refine vseq ?_
      apply vrp
      · apply VE.cons
        · exact ev_slicea rfl (gn rfl) rfl Tryd.underlying22 Tryd.sizeOf5
        simp only [nm, seval]
        apply VE.cons
        · exact ev_assign rfl (gn rfl)
        simp only [nm, seval]
        exact VE.nil _
      · kernel_rfl
      change VOk _ _ _ _ _
      apply vrp
      · apply VE.cons
        · exact ev_move rfl (gn rfl)
        simp only [nm, seval]
        apply VE.cons
        · exact ev_move rfl (gn rfl)
        simp only [nm, seval]
        apply VE.cons
        · exact ev_append rfl rfl (gn rfl) rfl rfl rfl (rdgf_rdg (rdgf_arr (rd := [11]) (by simp) rfl (by rw [List.length_map, hmac_len]) (by decide))) Tryd.underlying28 el5 (by decide) (by rw [List.length_map, hAl, Nat.mul_one]) (b8_all _) (by simp only [maxLen]; omega) (by omega) (by rw [List.length_map, hmac_len])
        simp only [nm, seval]
        apply VE.cons
        · exact ev_assign rfl (gn rfl)
        simp only [nm, seval]
        exact VE.nil _
      · kernel_rfl
      change VOk _ _ _ _ _
      apply vrp
      · apply VE.cons
        · exact ev_move rfl (gn rfl)
        simp only [nm, seval]
        apply VE.cons
        · exact ev_add (c := (((i + 1 + 1) % 256 : Nat) : Int)) rfl (gn rfl) rfl rfl (by rw [IntKind.wrap_u8']; omega)
        simp only [nm, seval]
        apply VE.cons
        · exact ev_assign rfl (gn rfl)
        simp only [nm, seval]
        exact VE.nil _
      · kernel_rfl
      have hfl : [T, info, [(i + 1) % 256]].flatten = T ++ info ++ [(i + 1) % 256] := by simp
      rw [hfl]
      obtain ⟨M, hM⟩ : ∃ M, hmac key (T ++ info ++ [(i + 1) % 256]) = M := ⟨_, rfl⟩
      rw [hM] at hnx ⊢
      have hMl : M.length = 32 := by rw [← hM]; exact hmac_len _ _
      have e1 : (expN key info (i + 1)).1 = A ++ M := by rw [hnx]
      have e2 : (expN key info (i + 1)).2 = M := by rw [hnx]
      rw [← List.map_append, show 32 * i + 32 = 32 * (i + 1) by omega]
      refine ⟨⟨i + 1, by omega⟩, by show n + 32 - 32 * (i + 1) < n + 32 - 32 * i; omega, ?_⟩
      show Weaker w _ (fun f => ⟨[.v (f 0), .v u, .v (.int .i64 (n : Nat)), .p 3 0, .v (f 4), .v (f 5), .v (f 6), .v (f 7), .d 900, .d 901, .v (b8 ((i + 1 + 1) % 256)), .v (f 11), .v (f 12), .v (f 13), .v (f 14), .v (f 15), .v (f 16), .v (f 17), .v (f 18), .v (f 19), .v (f 20), .v (f 21), .v (f 22), .v (f 23), .v (f 24), .v (f 25), .v (f 26), .v (f 27), .v (f 28), .v (f 29), .v (f 30), .v (f 31), .v (f 32), .v (f 33), .v (f 34), .v (f 35), .v (f 36), .v (f 37)], memOf [(900, .row (32 * (i + 1)) 1 5 (.exact ((expN key info (i + 1)).1.map b8))), (901, .row (expN key info (i + 1)).2.length 1 22 (.exact ((expN key info (i + 1)).2.map b8))), (3, .arr (key.map b8) 22)]⟩)
      rw [e1, e2, hMl]
      refine (weaker_forget (fun i => i == 1 || i == 2 || i == 3 || i == 8 || i == 9 || i == 10) [901, 28, 29]).trans2 (fun f => ?_)
      refine (weaker_swap (a := (34, _)) (b := (11, _)) (show (34 : Nat) ≠ 11 by decide)).trans2 (fun _ => (weaker_arrow 11 32 (fr' := [.v (f 0), .v u, .v (.int .i64 (n : Nat)), .p 3 0, .v (f 4), .v (f 5), .v (f 6), .v (f 7), .d 34, .d 11, .v (b8 ((i + 1 + 1) % 256)), .v (f 11), .v (f 12), .v (f 13), .v (f 14), .v (f 15), .v (f 16), .v (f 17), .v (f 18), .v (f 19), .v (f 20), .v (f 21), .v (f 22), .v (f 23), .v (f 24), .v (f 25), .v (f 26), .v (f 27), .v (f 28), .v (f 29), .v (f 30), .v (f 31), .v (f 32), .v (f 33), .v (f 34), .v (f 35), .v (f 36), .v (f 37)]) (by simp [hMl]) (by decide) rfl (fun ρ ρ' h1 h2 h3 => ?_)).trans2 (fun _ => (weaker_swap (a := (11, _)) (b := (34, _)) (show (11 : Nat) ≠ 34 by decide)).trans2 (fun _ => (weaker_ren 34 900 (by decide) rfl).trans2 (fun _ => weaker_ren 11 901 (by decide) rfl))))
      simp [forgetFr, SV.cs, SV.c, h3, h1, h2 34 (by decide), b8]
  · refine (weaker_forget (fun i => i == 1 || i == 2 || i == 3 || i == 8 || i == 9 || i == 10) []).trans2 (fun f => (weaker_name 901 1 22 (.exact []) (fun w => rfl) (fr' := [.v (f 0), .v u, .v (.int .i64 (n : Nat)), .p 3 0, .v (f 4), .v (f 5), .v (f 6), .v (f 7), .v (.slice none 0 0), .d 901, .v (b8 1), .v (f 11), .v (f 12), .v (f 13), .v (f 14), .v (f 15), .v (f 16), .v (f 17), .v (f 18), .v (f 19), .v (f 20), .v (f 21), .v (f 22), .v (f 23), .v (f 24), .v (f 25), .v (f 26), .v (f 27), .v (f 28), .v (f 29), .v (f 30), .v (f 31), .v (f 32), .v (f 33), .v (f 34), .v (f 35), .v (f 36), .v (f 37)]) (m' := [(3, .arr (key.map b8) 22)]) rfl rfl (fun ρ hv => ?_) (fun ρ hv => ?_)).trans2 (fun f2 => weaker_name 900 1 5 (.exact []) (fun w => rfl) (m' := [(901, .row 0 1 22 (.exact [])), (3, .arr (key.map b8) 22)]) rfl rfl (fun ρ hv => ?_) (fun ρ hv => ?_)))
    · simp [forgetFr, SV.cs, SV.c, hv, nilV, b8]
    · simp [memSim, memDel, Blk.sim]
    · simp [SV.cs, SV.c, hv, nilV, b8]
    · simp [memSim, Blk.sim]
end Go.Proofs.YtiidceljhmpgcaaDoor
end
section
namespace Go.Proofs.YtiidceljhmpgcaaDoor
open Go.RowKit Go.Vx
open Go.Toll (Gw)
open TollSha
set_option maxHeartbeats 4000000
set_option maxRecDepth 100000
theorem row_get {base : Nat} {ρ : Nat → Nm} {S : Nat → Nat → Prop} {w : World} {m : Mem} {rd : List Nat} {id n size : Nat} {ty : TypeId} {l : List Value} (hR : RelOn base ρ S w (restr rd m)) (hid : id ∈ rd) (hm : m id = some (.row n size ty (.exact l))) : SlAt w (SV.c ρ (.d id)) n size l (fun k => k = (ρ id).g) := by
  obtain ⟨xs, x1, x2, x3⟩ := relon_get hR hm hid
  have x2' : xs = l := x2
  subst x2'
  exact row_sl x3 x1
theorem ev_copyarr {w0 : World} {ops : Array Oper} {o : Oper} {s : VS} {P : Program} {dT sT e : TypeId} {x y : Operand} {id off len cap k : Nat} {l l' : List Value} {bt : TypeId} {news : List Value} {sv : SV} {rd : List Nat} (ho : o.op = .call { callee := .builtin .copy, args := #[x, y], argTypes := #[dT, sT] }) (hgd : Want ops o s)
    (hx : svEval s x = .s id off len cap) (hm : s.mem id = some (.arr l bt)) (hy : svEval s y = sv) (hr : Rdg w0 s.mem rd sv k 1 news) (hu : P.underlying dT = some (.slice e)) (hs : (P.info? e).map (·.size) = some 1)
    (hlen : news.length = len) (hk : k = len) (hfit : off + len ≤ l.length) (h1 : news.all (·.oneCell') = true) (hpos : 0 < len) (hl' : l.take off ++ news ++ l.drop (off + len) = l') :
    Ev P ops w0 o s ⟨.v (.int .i64 (len : Nat)), [(id, .arr l' bt)], [id], [], id :: rd⟩ :=
  Ev.wrv id _ _ _ _ hgd hm (by simp) fun ρ S w hb hR => by
    have e1 := svEval_c s ρ x
    rw [hx] at e1
    have e2 := svEval_c s ρ y
    rw [hy] at e2
    obtain ⟨hg0, hg⟩ := relon_get hR hm (by simp)
    have hR2 : RelOn w0.heap.size ρ S w (restr rd s.mem) := by
      have := hR.restr rd
      have e : restr rd (restr (id :: rd) s.mem) = restr rd s.mem := by
        funext j; unfold restr
        by_cases h : j ∈ rd <;> simp [h]
      rwa [e] at this
    obtain ⟨S1, ao, cp, h3, h4, h5, h6⟩ := hr ρ S w hb hR2
    rcases h6 with h6 | ⟨a, rfl, _, h6⟩
    · exfalso; rw [h6] at hlen; simp at hlen; omega
    · rw [h3] at e2
      simp only [SV.c] at e1
      have hrun := run_copy_row (P := P) w dT sT o.type e (ρ id).g off len cap a k cp l.toArray bt news hu hs hg (by rw [hlen, hk]; simp) h6 (by rw [hlen]; simp; omega) (fun u hu => List.all_eq_true.1 h1 u hu)
      refine ⟨True.intro, w.setRow (ρ id).g (l.toArray.toList.take off ++ news ++ l.toArray.toList.drop (off + news.length)).toArray, ?_, ⟨rfl, rfl, rfl, by simp, fun k hk => setRow_other w _ k _ hk⟩, hg0, (setRow_heap w (ρ id).g _ _ _ _ hg).trans ?_⟩
      · unfold execOp
        simp only [ho, resolve, invoke, builtin, Sem.run_bind, Sem.run_pure, Result.andThen_ok, List.map_toArray, List.map_cons, List.map_nil, e1, e2, hrun, SV.c, goInt, hlen]
      · rw [← hl', hlen]
theorem shr8 {n : Nat} (hn : n ≤ 8160) (p q : Operand) (w : World) : (do eqGuard .shr 3 p q (.int .i64 (n : Nat)) (.int .u64 8); binOp .shr 3 (.int .i64 (n : Nat)) (.int .u64 8) : Sem Value).run Tryd.prog w = .ok (.int .i64 ((n / 256 : Nat) : Int)) w := by
  have e : IntKind.i64.wrap ((n : Int) / 256) = ((n / 256 : Nat) : Int) := by rw [i64w (by omega) (by omega)]; omega
  go_simp
  try exact e
theorem cv35 (x : Nat) (w : World) : (convert 3 5 (.int .i64 (x : Nat))).run Tryd.prog w = .ok (b8 (x % 256)) w := by
  have e : IntKind.u8.wrap (x : Int) = ((x % 256 : Nat) : Int) := by rw [IntKind.wrap_u8']; omega
  unfold b8
  go_simp
  try exact e
def hkinfo (lab ctx : List Nat) (n : Nat) : List Nat := [n / 256 % 256, n % 256, ([116, 108, 115, 49, 51, 32] ++ lab).length % 256] ++ ([116, 108, 115, 49, 51, 32] ++ lab) ++ [ctx.length % 256] ++ ctx
theorem hkinfo_lt {lab ctx : List Nat} {n : Nat} (h1 : ∀ x ∈ lab, x < 256) (h2 : ∀ x ∈ ctx, x < 256) : ∀ x ∈ hkinfo lab ctx n, x < 256 := fun x hx => by
  simp only [hkinfo, List.mem_append, List.mem_cons, List.not_mem_nil, or_false] at hx
  rcases hx with ((hx | hx) | hx) | hx
  · omega
  · rcases hx with hx | hx
    · omega
    · exact h1 x hx
  · omega
  · exact h2 x hx
theorem Label_ok {u : Value} {key lab ctx : List Nat} {n : Nat} {F : Nat → Prop} (w : World) (hL : LaidK w) (hH : LaidH w) (hb1 : 1 < w.heap.size) (hkl : key.length = 32) (hk8 : ∀ y ∈ key, y < 256) (hu : SlAt w u ctx.length 1 (ctx.map b8) F) (hc8 : ∀ y ∈ ctx, y < 256) (hcl : ctx.length ≤ 255) (hl8 : ∀ y ∈ lab, y < 256) (hll : lab.length ≤ 249) (hn : n ≤ 8160) : Calls Tryd.prog 11 #[.agg (key.map b8).toArray, .string (bstr lab), u, .int .i64 (n : Nat)] w fun e w' => ∃ v', e = .returned (.tuple #[v', .int .i64 0]) ∧ RetRow w w' v' n 1 5 ((expand key (hkinfo lab ctx n) n).map b8) ∧ Bw w w' := by
  obtain ⟨X, hX⟩ : ∃ X, [116, 108, 115, 49, 51, 32] ++ lab = X := ⟨_, rfl⟩
  have hXl : X.length = 6 + lab.length := by rw [← hX, List.length_append]; rfl
  have hX8 : ∀ x ∈ X, x < 256 := by rw [← hX]; intro x hx; rcases List.mem_append.1 hx with hx | hx; simp at hx; omega; exact hl8 x hx
  have hkX : hkinfo lab ctx n = [n / 256 % 256, n % 256, X.length % 256] ++ X ++ [ctx.length % 256] ++ ctx := by unfold hkinfo; rw [hX]
  have hkL : (hkinfo lab ctx n).length = 3 + X.length + 1 + ctx.length := by rw [hkX]; simp; omega
  have hkM : (hkinfo lab ctx n).map b8 = [b8 (n / 256 % 256), b8 (n % 256), b8 (X.length % 256)] ++ X.map b8 ++ [b8 (ctx.length % 256)] ++ ctx.map b8 := by rw [hkX]; simp
  go_enter Tryd.func11, Tryd.ntmps11
  refine ve_go ?_
  simp only [List.map_cons, List.map_nil]
  refine vseq ?_
  apply vrp
  · apply VE.cons
    · exact ev_boxr (l := key.map b8) rfl rfl (gn rfl) rfl rfl
    simp only [nm, seval]
    apply VE.cons
    · exact ev_assign rfl (gn rfl)
    simp only [nm, seval]
    apply VE.cons
    · exact ev_assign rfl (gn rfl)
    simp only [nm, seval]
    exact VE.nil _
  · kernel_rfl
  change VOk _ _ _ _ _
  refine vseq ?_
  apply vrp
  · apply VE.cons
    · exact ev_move rfl (gn rfl)
    simp only [nm, seval]
    apply VE.cons
    · exact ev_bin (a := .string (bstr [116, 108, 115, 49, 51, 32])) (b := .string (bstr lab)) (c := .string (bstr X)) rfl (gn rfl) rfl rfl (fun w => by rw [← hX]; exact str_add _ _ (by simp; omega) _ _ w)
    simp only [nm, seval]
    apply VE.cons
    · exact ev_assign rfl (gn rfl)
    simp only [nm, seval]
    exact VE.nil _
  · kernel_rfl
  change VOk _ _ _ _ _
  refine vseq ?_
  refine vseq ?_
  apply vrp
  · apply VE.cons
    · exact ev_move rfl (gn rfl)
    simp only [nm, seval]
    apply VE.cons
    · exact ev_lss (p := false) rfl (gn rfl) rfl rfl (decide_eq_false (by omega))
    simp only [nm, seval]
    apply VE.cons
    · exact ev_move rfl (gn rfl)
    simp only [nm, seval]
    apply VE.cons
    · first | exact Ev.skip (fun _ => rfl) | exact ev_move rfl (fun _ => rfl)
    simp only [nm, seval]
    apply VE.cons
    · first | exact Ev.skip (fun _ => rfl) | exact ev_gtr (p := false) rfl (fun _ => rfl) rfl rfl (decide_eq_false (by omega))
    simp only [nm, seval]
    apply VE.cons
    · first | exact ev_pick_t rfl (gn rfl) rfl rfl | exact ev_pick_f rfl (gn rfl) rfl rfl
    simp only [nm, seval]
    apply VE.cons
    · exact ev_move rfl (gn rfl)
    simp only [nm, seval]
    apply VE.cons
    · first | exact Ev.skip (fun _ => rfl) | exact ev_move rfl (fun _ => rfl)
    simp only [nm, seval]
    apply VE.cons
    · first | exact Ev.skip (fun _ => rfl) | exact ev_lenb rfl (fun _ => rfl) rfl Tryd.underlying9
    simp only [nm, seval]
    apply VE.cons
    · first | exact Ev.skip (fun _ => rfl) | exact ev_gtr (p := false) rfl (fun _ => rfl) rfl rfl (decide_eq_false (by simp; omega))
    simp only [nm, seval]
    apply VE.cons
    · first | exact ev_pick_t rfl (gn rfl) rfl rfl | exact ev_pick_f rfl (gn rfl) rfl rfl
    simp only [nm, seval]
    apply VE.cons
    · exact ev_move rfl (gn rfl)
    simp only [nm, seval]
    apply VE.cons
    · first | exact Ev.skip (fun _ => rfl) | exact ev_move rfl (fun _ => rfl)
    simp only [nm, seval]
    apply VE.cons
    · first | exact Ev.skip (fun _ => rfl) | exact ev_len rfl (fun _ => rfl) rfl Tryd.underlying28 (rdg_arg hu)
    simp only [nm, seval]
    apply VE.cons
    · first | exact Ev.skip (fun _ => rfl) | exact ev_gtr (p := false) rfl (fun _ => rfl) rfl rfl (decide_eq_false (by omega))
    simp only [nm, seval]
    apply VE.cons
    · first | exact ev_pick_t rfl (gn rfl) rfl rfl | exact ev_pick_f rfl (gn rfl) rfl rfl
    simp only [nm, seval]
    exact VE.nil _
  · kernel_rfl
  change VOk _ _ _ _ _
  refine vcond_f rfl ?_
  refine vskip ?_
  change VOk _ _ _ _ _
  refine vseq ?_
  apply vrp
  · apply VE.cons
    · exact ev_move rfl (gn rfl)
    simp only [nm, seval]
    apply VE.cons
    · exact ev_bin rfl (gn rfl) rfl rfl (fun w => shr8 hn _ _ w)
    simp only [nm, seval]
    apply VE.cons
    · exact ev_conv rfl (gn rfl) rfl (fun w => cv35 _ w)
    simp only [nm, seval]
    apply VE.cons
    · exact ev_move rfl (gn rfl)
    simp only [nm, seval]
    apply VE.cons
    · exact ev_conv rfl (gn rfl) rfl (fun w => cv35 _ w)
    simp only [nm, seval]
    apply VE.cons
    · exact ev_move rfl (gn rfl)
    simp only [nm, seval]
    apply VE.cons
    · exact ev_lenb rfl (gn rfl) rfl Tryd.underlying9
    simp only [nm, seval]
    apply VE.cons
    · exact ev_conv rfl (gn rfl) rfl (fun w => cv35 _ w)
    simp only [nm, seval]
    apply VE.cons
    · exact ev_buildslice rfl rfl (gn rfl) rfl (e := 5) (l := [b8 (n / 256 % 256), b8 (n % 256), b8 (X.length % 256)]) rfl (by decide) (fun _ => by kernel_rfl)
    simp only [nm, seval]
    apply VE.cons
    · exact ev_move rfl (gn rfl)
    simp only [nm, seval]
    apply VE.cons
    · exact ev_appendstr8 (b := X) rfl rfl (gn rfl) rfl rfl rfl Tryd.underlying28 Tryd.underlying9 el5 rfl (by omega) hX8
    simp only [nm, seval]
    apply VE.cons
    · exact ev_assign rfl (gn rfl)
    simp only [nm, seval]
    exact VE.nil _
  · kernel_rfl
  change VOk _ _ _ _ _
  refine vseq ?_
  apply vrd (by kernel_rfl)
  · apply VE.cons
    · exact ev_loadr (vs := key.map b8) rfl (gn rfl) rfl rfl Tryd.underlying22 rfl Tryd.sizeOf22 (List.take_of_length_le (by simp [hkl])) (by simp [hkl])
    simp only [nm, seval]
    apply VE.cons
    · exact ev_move rfl (gn rfl)
    simp only [nm, seval]
    apply VE.cons
    · exact ev_move rfl (gn rfl)
    simp only [nm, seval]
    apply VE.cons
    · exact ev_len rfl (gn rfl) rfl Tryd.underlying28 (rdg_arg hu)
    simp only [nm, seval]
    apply VE.cons
    · exact ev_conv rfl (gn rfl) rfl (fun w => cv35 _ w)
    simp only [nm, seval]
    apply VE.cons
    · exact ev_buildslice rfl rfl (gn rfl) rfl (e := 5) (l := [b8 (ctx.length % 256)]) rfl (by decide) (fun _ => by kernel_rfl)
    simp only [nm, seval]
    apply VE.cons
    · exact ev_append rfl rfl (gn rfl) rfl rfl rfl (rdg_row rfl) Tryd.underlying28 el5 (by decide) (by simp; omega) rfl (by simp only [maxLen]; omega) (by omega) (by simp)
    simp only [nm, seval]
    apply VE.cons
    · exact ev_move rfl (gn rfl)
    simp only [nm, seval]
    apply VE.cons
    · exact ev_append rfl rfl (gn rfl) rfl rfl rfl (rdg_arg hu) Tryd.underlying28 el5 (by decide) (by simp; omega) (b8_all _) (by simp only [maxLen]; omega) (by omega) (by simp)
    simp only [nm, seval]
    apply VE.cons
    · exact ev_move rfl (gn rfl)
    simp only [nm, seval]
    apply VE.cons
    · exact ev_callrowt [49] rfl rfl (gn rfl) rfl (en_of Tryd.func24 (by kernel_rfl) rfl) (n := n) (size := 1) (l := (expand key (hkinfo lab ctx n) n).map b8) (y := .int .i64 0) (by simp [expand_len]) (fun ρ S w' hb hR => Expand_ok w' (hL.bw hb) (hH.bw hb) (Nat.lt_of_lt_of_le hb1 hb.size) hkl hk8 (info := hkinfo lab ctx n) (by rw [hkL, hkM]; exact row_get (id := 49) hR (by simp) rfl) (hkinfo_lt hl8 hc8) (by simp [hkinfo]; omega) hn)
    simp only [nm, seval]
    apply VE.cons
    · first | exact ev_extract rfl (gn rfl) rfl rfl | exact ev_extractt rfl (gn rfl) rfl rfl
    simp only [nm, seval]
    apply VE.cons
    · first | exact ev_extract rfl (gn rfl) rfl rfl | exact ev_extractt rfl (gn rfl) rfl rfl
    simp only [nm, seval]
    apply VE.cons
    · exact ev_assign rfl (gn rfl)
    simp only [nm, seval]
    apply VE.cons
    · exact ev_assign rfl (gn rfl)
    simp only [nm, seval]
    exact VE.nil _
  · kernel_rfl
  change VOk _ _ _ _ _
  refine vret ?_
  refine post_ret (res2 Tryd.results11 (rv_tmp rfl) (rv_tmp rfl)) ?_
  intro ρ w' hr
  refine ⟨_, rfl, ?_, hr.1⟩
  exact ret_row (id := 51) hr rfl
theorem Derive_ok {key lab ctx : List Nat} (w : World) (hL : LaidK w) (hH : LaidH w) (hb1 : 1 < w.heap.size) (hkl : key.length = 32) (hk8 : ∀ y ∈ key, y < 256) (hc8 : ∀ y ∈ ctx, y < 256) (hcl : ctx.length = 32) (hl8 : ∀ y ∈ lab, y < 256) (hll : lab.length ≤ 249) : Calls Tryd.prog 4 #[.agg (key.map b8).toArray, .string (bstr lab), .agg (ctx.map b8).toArray] w fun e w' => e = .returned (.agg ((expand key (hkinfo lab ctx 32) 32).map b8).toArray) ∧ Bw w w' := by
  go_enter Tryd.func4, Tryd.ntmps4
  refine ve_go ?_
  simp only [List.map_cons, List.map_nil]
  refine vseq ?_
  apply vrp
  · apply VE.cons
    · exact ev_boxr (l := key.map b8) rfl rfl (gn rfl) rfl rfl
    simp only [nm, seval]
    apply VE.cons
    · exact ev_boxr (l := ctx.map b8) rfl rfl (gn rfl) rfl rfl
    simp only [nm, seval]
    apply VE.cons
    · exact ev_allocr (l := OL []) rfl rfl (gn rfl) Tryd.zeroValue22 rfl
    simp only [nm, seval]
    exact VE.nil _
  · kernel_rfl
  change VOk _ _ _ _ _
  refine vseq ?_
  apply vrp
  · apply VE.cons
    · exact ev_allocr (l := OL []) rfl rfl (gn rfl) Tryd.zeroValue22 rfl
    simp only [nm, seval]
    exact VE.nil _
  · kernel_rfl
  change VOk _ _ _ _ _
  refine vseq ?_
  apply vrd (by kernel_rfl)
  · apply VE.cons
    · exact ev_loadr (vs := key.map b8) rfl (gn rfl) rfl rfl Tryd.underlying22 rfl Tryd.sizeOf22 (List.take_of_length_le (by simp [hkl])) (by simp [hkl])
    simp only [nm, seval]
    apply VE.cons
    · exact ev_move rfl (gn rfl)
    simp only [nm, seval]
    apply VE.cons
    · exact ev_slicea rfl (gn rfl) rfl Tryd.underlying22 Tryd.sizeOf5
    simp only [nm, seval]
    apply VE.cons
    · exact ev_callrowt [5] rfl rfl (gn rfl) rfl (en_of Tryd.func11 (by kernel_rfl) rfl) (n := 32) (size := 1) (l := (expand key (hkinfo lab ctx 32) 32).map b8) (y := .int .i64 0) (by simp [expand_len]) (fun ρ S w' hb hR => Label_ok w' (hL.bw hb) (hH.bw hb) (Nat.lt_of_lt_of_le hb1 hb.size) hkl hk8 (by rw [hcl]; exact rdgf_arr (id := 5) (len := 32) (b := ctx.map b8) (by simp) (by rfl) (by simp [hcl]) (by decide) ρ S w' hb hR) hc8 (by omega) hl8 hll (by decide))
    simp only [nm, seval]
    apply VE.cons
    · exact ev_move rfl (gn rfl)
    simp only [nm, seval]
    apply VE.cons
    · first | exact ev_extract rfl (gn rfl) rfl rfl | exact ev_extractt rfl (gn rfl) rfl rfl
    simp only [nm, seval]
    apply VE.cons
    · first | exact ev_extract rfl (gn rfl) rfl rfl | exact ev_extractt rfl (gn rfl) rfl rfl
    simp only [nm, seval]
    apply VE.cons
    · exact ev_assign rfl (gn rfl)
    simp only [nm, seval]
    apply VE.cons
    · exact ev_assign rfl (gn rfl)
    simp only [nm, seval]
    exact VE.nil _
  · kernel_rfl
  change VOk _ _ _ _ _
  refine vseq ?_
  apply vrp
  · apply VE.cons
    · exact ev_slicea rfl (gn rfl) rfl Tryd.underlying22 Tryd.sizeOf5
    simp only [nm, seval]
    apply VE.cons
    · exact ev_move rfl (gn rfl)
    simp only [nm, seval]
    apply VE.cons
    · exact ev_copyarr (l' := (expand key (hkinfo lab ctx 32) 32).map b8) rfl (gn rfl) rfl rfl rfl (rdg_row rfl) Tryd.underlying28 (by kernel_rfl) (by simp [expand_len]) rfl (by decide) (b8_all _) (by decide) (by rw [List.take_zero, List.nil_append, List.drop_of_length_le (by decide), List.append_nil])
    simp only [nm, seval]
    exact VE.nil _
  · kernel_rfl
  change VOk _ _ _ _ _
  refine vseq ?_
  apply vrp
  · apply VE.cons
    · exact ev_loadr (vs := (expand key (hkinfo lab ctx 32) 32).map b8) rfl (gn rfl) rfl rfl Tryd.underlying22 rfl Tryd.sizeOf22 (List.take_of_length_le (by simp [expand_len])) (by simp [expand_len])
    simp only [nm, seval]
    apply VE.cons
    · exact ev_storer (l' := ((expand key (hkinfo lab ctx 32) 32)).map b8) rfl (gn rfl) rfl rfl rfl Tryd.sizeOf22 (by simp [Value.cells, expand_len]) (by rw [OL_len (by simp)]; decide) (by show (((expand key (hkinfo lab ctx 32) 32)).map b8).toArray.toList.all _ = true; exact b8_all _) (by rw [List.take_zero, List.nil_append, List.drop_of_length_le (by rw [OL_len (by simp)]; decide), List.append_nil]; simp [Value.cells])
    simp only [nm, seval]
    exact VE.nil _
  · kernel_rfl
  change VOk _ _ _ _ _
  refine vret ?_
  refine post_ret (res1 Tryd.results4 (rv_cellr (vs := (expand key (hkinfo lab ctx 32) 32).map b8) rfl rfl Tryd.underlying22 rfl Tryd.sizeOf22 (List.take_of_length_le (by simp [expand_len])) (by simp [expand_len]))) ?_
  intro ρ w' hr
  exact ⟨rfl, hr.1⟩
end Go.Proofs.YtiidceljhmpgcaaDoor
end
section
namespace Go.Proofs.YtiidceljhmpgcaaDoor
open Go.RowKit Go.Vx
open Go.Toll (Gw)
open TollSha
set_option maxHeartbeats 4000000
set_option maxRecDepth 100000
section
variable {P : Program} {w0 : World}
def WOk (P : Program) (w0 : World) (s : VS) (c : Code) (R : Exit → Act → World → Prop) : Prop := ∀ ρ w, Rel w0 ρ s w → c.wp P R (s.act ρ) w
theorem wgo {c : Code} {l : List Value} {w : World} {R : Exit → Act → World → Prop} (h : WOk P w ⟨l.map .v, memOf []⟩ c R) : c.wp P R ⟨l.toArray, []⟩ w := by
  have h1 : (⟨l.toArray, []⟩ : Act) = (⟨l.map .v, memOf []⟩ : VS).act (fun _ => default) := by
    simp [VS.act, SV.c, Function.comp_def]
  rw [h1]
  exact h _ w (rel_start l w _)
theorem wseq {c d : Code} {s : VS} {R : Exit → Act → World → Prop} (h : VOk P w0 s c fun e s' => e = .normal ∧ WOk P w0 s' d R) : WOk P w0 s (.seq c d) R := fun ρ w hr => by
  refine wp_seq (h ρ w _ hr ?_)
  rintro e ρ' s' w' ⟨rfl, hq⟩ hr'
  exact hq ρ' w' hr'
theorem wend {fn : Func} {c : Code} {s : VS} {R R' : Ending → World → Prop} (hR : ∀ e w', R e w' → R' e w') (h : VOk P w0 s c (QB P fn w0 R)) : WOk P w0 s c (bodyPost P fn R') := fun ρ w hr => h ρ w _ hr fun e ρ' s' w' hq hr' => by
  have h1 := hq ρ' w' hr'
  cases e with
  | normal => exact ⟨h1.1, h1.2.imp fun v h => ⟨h.1, hR _ _ h.2⟩⟩
  | ret => exact ⟨h1.1, h1.2.imp fun v h => ⟨h.1, hR _ _ h.2⟩⟩
  | panic chain => exact ⟨h1.1, hR _ _ h1.2⟩
  | outgrown => exact hR _ _ h1
  | _ => exact h1
end
section
variable {P : Program} {w0 : World} {ops : Array Oper} {o : Oper} {s : VS}
theorem ev_convown {t e : TypeId} {x : Operand} {id n : Nat} {l : List Value} (ho : o.op = .convert t t x) (hgd : Want ops o s) (hx : svEval s x = .d id) (hm : s.mem id = some (.row n 1 e (.exact l))) (hn : 0 < n)
    (ht : P.underlying t = some (.slice e)) (he : P.underlying e = some (.int .u8)) : Ev P ops w0 o s ⟨.d id, [(id, .row n 1 e (.exact l))], [id], [], [id]⟩ :=
  Ev.wrv id _ _ _ _ hgd hm (by simp) fun ρ S w hb hR => by
    have e1 := svEval_c s ρ x
    rw [hx] at e1
    obtain ⟨xs, hxl, hxe, hrow⟩ := relon_get hR hm (by simp)
    rcases hrow with ⟨_, h⟩ | ⟨off, cap, cur, fz, h1', h2', h3', h4', h5', h6', h7', h8'⟩
    · omega
    · have hsh : w.shape? (ρ id).g = some (e, cur.size) := by unfold World.shape?; rw [h3']
      have hlt := (Array.getElem?_eq_some_iff.1 h3').1
      have hfz : (w.freeze ⟨(ρ id).g, cur.size, none⟩ 1).heap[(ρ id).g]? = some (.cells cur e (cur.size, cur.size + 1)) := by
        unfold World.freeze
        rw [if_neg (by decide)]
        simp only [Array.getElem?_modify, if_true, h3', Option.map_some]
        rcases h4' with rfl | rfl
        · simp
        · simp
      refine ⟨by simp only [Blk.owns]; rw [h1']; simp, w.freeze ⟨(ρ id).g, cur.size, none⟩ 1, ?_, ⟨?_, ?_, ?_, ?_, fun j hj => ?_⟩, xs, hxl, hxe, .inr ⟨off, cap, cur, _, h1', h2', hfz, .inr rfl, h5', h6', h7', h8'⟩⟩
      · simp only [execOp, ho, e1, SV.c, h1']
        simp [convert, run_underlying ht, run_underlying he, markStringish, hsh]
      · unfold World.freeze; rw [if_neg (by decide)]
      · unfold World.freeze; rw [if_neg (by decide)]
      · unfold World.freeze; rw [if_neg (by decide)]
      · unfold World.freeze; rw [if_neg (by decide)]; simp
      · unfold World.freeze
        rw [if_neg (by decide)]
        simp only [Array.getElem?_modify]
        rw [if_neg (Ne.symm hj)]
end
theorem sha_abc0 : ((sha [[97, 98, 99]].flatten).map b8)[0]? = some (b8 186) := by
  have h : (sha [[97, 98, 99]].flatten)[0]? = some 186 := by decide +kernel
  rw [List.getElem?_map, h]; rfl
theorem sha_abc31 : ((sha [[97, 98, 99]].flatten).map b8)[31]? = some (b8 173) := by
  have h : (sha [[97, 98, 99]].flatten)[31]? = some 173 := by decide +kernel
  rw [List.getElem?_map, h]; rfl
theorem stands_ok (w : World) (hL : LaidK w) (hH : LaidH w) (hb1 : 1 < w.heap.size) : Calls Tryd.prog 9 #[] w fun e w' => e = .returned (.bool true) ∧ Bw w w' := by
  go_enter Tryd.func9, Tryd.ntmps9
  refine ve_go ?_
  simp only [List.map_cons, List.map_nil]
  refine vseq ?_
  apply vrp
  · apply VE.cons
    · exact ev_assign rfl (gn rfl)
    simp only [nm, seval]
    exact VE.nil _
  · kernel_rfl
  change VOk _ _ _ _ _
  refine vseq ?_
  apply vrp
  · apply VE.cons
    · exact ev_buildslice rfl rfl (gn rfl) rfl (e := 5) (l := [b8 (97), b8 (98), b8 (99)]) rfl (by decide) (fun _ => by kernel_rfl)
    simp only [nm, seval]
    apply VE.cons
    · exact ev_convown (id := 2) rfl (gn rfl) rfl rfl (by decide) Tryd.underlying28 Tryd.underlying5
    simp only [nm, seval]
    apply VE.cons
    · exact ev_buildsl1 (n := 1) (l := [.d 2]) [2] rfl rfl (gn rfl) rfl (fun ρ S w' hR => by have hh := row_cells (id := 2) hR (by simp) rfl; exact hh.1) rfl rfl bsl1
    simp only [nm, seval]
    apply VE.cons
    · exact ev_callp (v := .agg ((sha [[97, 98, 99]].flatten).map b8).toArray) [2, 4] rfl (gn rfl) rfl (en_of Tryd.func5 (by kernel_rfl) rfl) (fun ρ S w' hb hR => Of_ok w' (hL.bw hb) (hH.bw hb) (Nat.lt_of_lt_of_le hb1 hb.size) (partsf_own (id := 4) (n := 1) (ls := [[97, 98, 99]]) (by simp) (by rfl) rfl (by exact ⟨⟨rdgf_row (by simp) rfl, by decide⟩, trivial⟩) ρ S w' hb hR) (hangs_lt hb hR) (by decide) (by decide))
    simp only [nm, seval]
    apply VE.cons
    · exact ev_allocr (l := OL []) rfl rfl (gn rfl) Tryd.zeroValue22 rfl
    simp only [nm, seval]
    apply VE.cons
    · exact ev_storer (l' := (sha [[97, 98, 99]].flatten).map b8) rfl (gn rfl) rfl rfl rfl Tryd.sizeOf22 (by simp [Value.cells, sha_len]) (by rw [OL_len (by simp)]; decide) (by show ((sha [[97, 98, 99]].flatten).map b8).toArray.toList.all _ = true; exact b8_all _) (by rw [List.take_zero, List.nil_append, List.drop_of_length_le (by rw [OL_len (by simp)]; decide), List.append_nil]; simp [Value.cells])
    simp only [nm, seval]
    exact VE.nil _
  · kernel_rfl
  change VOk _ _ _ _ _
  refine vseq ?_
  apply vrp
  · apply VE.cons
    · exact ev_indexn (k := 0) (j := 0) rfl (gn rfl) rfl rfl Tryd.underlying22 Tryd.sizeOf5 (by omega) (by omega)
    simp only [nm, seval]
    apply VE.cons
    · exact ev_load1r (v := b8 186) rfl (gn rfl) rfl rfl Tryd.underlying5 rfl sha_abc0
    simp only [nm, seval]
    apply VE.cons
    · exact ev_eql (p := true) rfl (gn rfl) rfl rfl (by decide)
    simp only [nm, seval]
    apply VE.cons
    · exact ev_move rfl (gn rfl)
    simp only [nm, seval]
    apply VE.cons
    · first | exact Ev.skip (fun _ => rfl) | exact ev_indexn (k := 31) (j := 31) rfl (fun _ => rfl) rfl rfl Tryd.underlying22 Tryd.sizeOf5 (by omega) (by omega)
    simp only [nm, seval]
    apply VE.cons
    · first | exact Ev.skip (fun _ => rfl) | exact ev_load1r (v := b8 173) rfl (fun _ => rfl) rfl rfl Tryd.underlying5 rfl sha_abc31
    simp only [nm, seval]
    apply VE.cons
    · first | exact Ev.skip (fun _ => rfl) | exact ev_eql (p := true) rfl (fun _ => rfl) rfl rfl (by decide)
    simp only [nm, seval]
    apply VE.cons
    · exact ev_pick_t rfl (gn rfl) rfl rfl
    simp only [nm, seval]
    apply VE.cons
    · exact ev_assign rfl (gn rfl)
    simp only [nm, seval]
    exact VE.nil _
  · kernel_rfl
  change VOk _ _ _ _ _
  refine vret ?_
  refine post_ret (res1 Tryd.results9 (rv_tmp rfl)) ?_
  intro ρ w' hr
  exact ⟨rfl, hr.1⟩
end Go.Proofs.YtiidceljhmpgcaaDoor
end
section
namespace Go.Vx
open Go.RowKit Go.Toll
section
variable {P : Program} {w0 : World} {ops : Array Oper} {o : Oper} {s : VS}
theorem cut_run' {ty e : TypeId} {x : Operand} {lo hi : Option Operand} {a b n size : Nat} {y : SV} {rd : List Nat} (ho : o.op = .slice ty x lo hi none) (hx : svEval s x = y)
    (hu : P.underlying ty = some (.slice e)) (hs : ∀ w, (Go.sizeOf e).run P w = .ok size w) (hr : ∀ ρ S w, Bw w0 w → RelOn w0.heap.size ρ S w (restr rd s.mem) → ∃ ao cap, y.c ρ = .slice ao n cap ∧ n ≤ cap)
    (hlo : (match lo with | none => SV.v (.int .i64 (0 : Nat)) | some z => svEval s z) = .v (.int .i64 (a : Nat))) (hhi : (match hi with | none => SV.v (.int .i64 (n : Nat)) | some z => svEval s z) = .v (.int .i64 (b : Nat))) (h1 : a ≤ b) (h2 : b ≤ n) :
    ∀ ρ S w, Bw w0 w → RelOn w0.heap.size ρ S w (restr rd s.mem) → (execOp (s.act ρ).eval o).run P w = .ok (.value ((SV.fn (cutV a b size) y).c ρ)) w := fun ρ S w hb hR => by
    have e1 := svEval_c s ρ x
    rw [hx] at e1
    obtain ⟨ao, cap, h3, h4⟩ := hr ρ S w hb hR
    rw [h3] at e1
    have hbd : ∀ (k m : Nat) (c : BoundsCode), k ≤ m → (Instr.sliceBound (.int .i64 (k : Nat)) m c).run P w = .ok k w := by
      intro k m c hk
      unfold Instr.sliceBound
      rw [Sem.run_bind]
      simp only [asIntOf, Sem.run_pure, Result.andThen_ok]
      rw [if_pos ⟨by omega, by omega⟩]
      rfl
    have e2 : ∀ z, lo = some z → (s.act ρ).eval z = .int .i64 (a : Nat) := fun z hz => by rw [svEval_c]; rw [hz] at hlo; simp only at hlo; rw [hlo]; simp [SV.c]
    have e3 : ∀ z, hi = some z → (s.act ρ).eval z = .int .i64 (b : Nat) := fun z hz => by rw [svEval_c]; rw [hz] at hhi; simp only at hhi; rw [hhi]; simp [SV.c]
    have ea : lo = none → a = 0 := fun hz => by
      rw [hz] at hlo; simp only [SV.v.injEq, Value.int.injEq, true_and] at hlo; omega
    have eb : hi = none → b = n := fun hz => by
      rw [hz] at hhi; simp only [SV.v.injEq, Value.int.injEq, true_and] at hhi; omega
    have key : (Instr.sliceBounds true n cap (lo.map (s.act ρ).eval) (hi.map (s.act ρ).eval) none).run P w = .ok (a, b, cap) w := by
      unfold Instr.sliceBounds
      cases hi with
      | none =>
        have := eb rfl; subst this
        cases lo with
        | none => have := ea rfl; subst this; simp
        | some z => simp [e2 z rfl, hbd a b _ h1]
      | some y' =>
        cases lo with
        | none => have := ea rfl; subst this; simp [e3 y' rfl, hbd b cap _ (by omega)]
        | some z => simp [e2 z rfl, e3 y' rfl, hbd a b _ h1, hbd b cap _ (by omega)]
    simp [execOp, ho, e1, Instr.sliceAt, Instr.slice, run_underlying hu, hs, key, SV.c, h3, cutV]
theorem set_fold (off : Nat) : ∀ (cs : List Value) (j : Nat) (l : List Value), off + j + cs.length ≤ l.length →
    (cs.zipIdx j).foldl (fun (a : Array Value) (x : Value × Nat) => a.setIfInBounds (off + x.2) x.1) l.toArray = (l.take (off + j) ++ cs ++ l.drop (off + j + cs.length)).toArray
  | [], j, l, h => by simp
  | c :: cs, j, l, h => by
    simp only [List.zipIdx_cons, List.foldl_cons, List.length_cons] at h ⊢
    rw [List.setIfInBounds_toArray, set_fold off cs (j + 1) _ (by simp; omega)]
    congr 1
    rw [List.take_set, List.drop_set, if_pos (by omega)]
    have e1 : (l.take (off + (j + 1))).set (off + j) c = l.take (off + j) ++ [c] := by
      rw [show off + (j + 1) = off + j + 1 by omega, List.take_add_one, List.set_append_right _ _ (by simp; omega)]
      have : (l.take (off + j)).length = off + j := by simp; omega
      rw [this, Nat.sub_self, List.getElem?_eq_getElem (by omega)]
      rfl
    rw [e1, show off + (j + 1) + cs.length = off + j + (cs.length + 1) by omega]
    simp
theorem fill_gen (size : Nat) : ∀ (vs : List Value) (k : Nat) (pre rest : List Value), (∀ v ∈ vs, v.cells.size = size) → pre.length = k * size → rest.length = vs.length * size →
    Instr.fill (fun i => some (i * size, size)) (pre ++ rest).toArray ((vs.zipIdx k).map fun x => (x.2, x.1)) = some (pre ++ vs.flatMap (·.cells.toList)).toArray
  | [], k, pre, rest, _, _, hr => by
    simp at hr
    subst hr
    simp [Instr.fill]
  | v :: vs, k, pre, rest, hv, hp, hr => by
    have hsz := hv v (by simp)
    simp only [List.zipIdx_cons, List.map_cons, Instr.fill, List.length_cons, Nat.add_mul, Nat.one_mul] at hr ⊢
    rw [if_neg (by simp [hsz]; omega)]
    have hf := set_fold (k * size) v.cells.toList 0 (pre ++ rest) (by simp [hsz]; omega)
    have hz : Array.foldl (fun cs (x : Value × Nat) => match x with | (c, j) => cs.setIfInBounds (k * size + j) c) (pre ++ rest).toArray v.cells.zipIdx = (pre ++ v.cells.toList ++ rest.drop size).toArray := by
      have e0 : v.cells.zipIdx.toList = v.cells.toList.zipIdx 0 := by simp
      rw [← Array.foldl_toList, e0]
      refine Eq.trans ?_ (hf.trans ?_)
      · rfl
      · congr 1
        have hvl : v.cells.toList.length = size := by rw [Array.length_toList]; exact hsz
        rw [Nat.add_zero, ← hp, List.take_left, hvl, List.drop_append, List.drop_of_length_le (by omega), List.nil_append, Nat.add_sub_cancel_left]
    rw [hz]
    have := fill_gen size vs (k + 1) (pre ++ v.cells.toList) (rest.drop size) (fun u hu => hv u (by simp [hu])) (by simp [hsz, hp, Nat.add_mul]) (by simp; omega)
    rw [this]
    simp
theorem ev_bsl {ty e : TypeId} {n size id : Nat} {parts : Array (Nat × Operand)} {ys : List SV} {ls : List (List SV)} {l : List SV} (rd : List Nat) (_hd : o.dst = some id) (ho : o.op = .buildSlice ty n parts) (hgd : Want ops o s)
    (hp : parts.toList.map (·.1) = List.range' 0 n) (hx : parts.toList.map (fun p => svEval s p.2) = ys) (hls : ys.length = ls.length)
    (hc : ∀ ρ S w, Bw w0 w → RelOn w0.heap.size ρ S w (restr rd s.mem) → ∀ (j : Nat) (y : SV) (lj : List SV), ys[j]? = some y → ls[j]? = some lj → (y.c ρ).cells.toList = SV.cs ρ lj)
    (hn : ∀ lj ∈ ls, lj.length = size) (hl : ls.flatten = l) (hid : SV.hasL id l = false)
    (hu : P.underlying ty = some (.slice e)) (hsz : (P.info? e).map (·.size) = some size) (hz : ((P.info? e).bind (·.zero)).isSome = true) (hpos : 0 < n * size) (hsm : n * size ≤ 2 ^ 24) :
    Ev P ops w0 o s ⟨.s id 0 n n, [(id, .cells l e)], [], [id], rd⟩ :=
  ⟨by simp [Eff.ok], .inr ⟨hgd, fun ρ S w hbw hR => by
    have hyn : ys.length = n := by
      have := congrArg List.length hp
      rw [List.length_map, List.length_range'] at this
      rw [← hx, List.length_map, this]
    have hvs : ∀ v ∈ ys.map (SV.c ρ), v.cells.size = size := by
      intro v hv
      obtain ⟨y, hy, rfl⟩ := List.mem_map.1 hv
      obtain ⟨j, hj, rfl⟩ := List.getElem_of_mem hy
      have hjl : j < ls.length := by omega
      have := hc ρ S w hbw hR j ys[j] ls[j] (List.getElem?_eq_getElem hj) (List.getElem?_eq_getElem hjl)
      rw [← Array.length_toList, this, cs_map, List.length_map]
      exact hn _ (List.getElem_mem hjl)
    have hflat : (ys.map (SV.c ρ)).flatMap (·.cells.toList) = SV.cs ρ l := by
      rw [← hl, cs_map, List.map_flatten]
      rw [List.flatMap_def, List.map_map]
      congr 1
      apply List.ext_getElem (by simp [hls])
      intro j h1 h2
      simp only [List.length_map] at h1 h2
      have := hc ρ S w hbw hR j ys[j] ls[j] (List.getElem?_eq_getElem h1) (List.getElem?_eq_getElem h2)
      simp [this, cs_map]
    have hparts : (parts.map fun (p : Nat × Operand) => (p.1, (s.act ρ).eval p.2)).toList = ((ys.map (SV.c ρ)).zipIdx 0).map fun x => (x.2, x.1) := by
      apply List.ext_getElem?
      intro j
      have hpl : parts.toList.length = n := by have := congrArg List.length hp; simpa using this
      rw [Array.toList_map]
      by_cases hj : j < n
      · have hjp : j < parts.toList.length := by omega
        have h1 : (parts.toList[j]).1 = j := by
          have h2 := congrArg (fun (q : List Nat) => q[j]?) hp
          simp only [List.getElem?_map, List.getElem?_eq_getElem hjp, Option.map_some] at h2
          rw [List.getElem?_range' hj] at h2
          simp at h2
          simpa using h2
        have hjy : j < ys.length := by omega
        have h3 : svEval s (parts.toList[j]).2 = ys[j] := by
          have h2 := congrArg (fun (q : List SV) => q[j]?) hx
          simp only [List.getElem?_map, List.getElem?_eq_getElem hjp, Option.map_some, List.getElem?_eq_getElem hjy, Option.some.injEq] at h2
          exact h2
        rw [List.getElem?_map, List.getElem?_eq_getElem hjp, Option.map_some, List.getElem?_map, List.getElem?_zipIdx, List.getElem?_map, List.getElem?_eq_getElem hjy]
        simp only [Option.map_some, h1, svEval_c, h3, Nat.zero_add]
      · rw [List.getElem?_eq_none (by simp at hpl ⊢; omega), List.getElem?_eq_none (by simp; omega)]
    cases hie : P.info? e with
    | none => simp [hie] at hsz
    | some ie =>
      have hsz' : ie.size = size := by simpa [hie] using hsz
      simp only [hie, Option.bind_some] at hz
      obtain ⟨z, hzz⟩ := Option.isSome_iff_exists.1 hz
      have hrun := run_buildSlice (P := P) w ty e n (parts.map fun (p : Nat × Operand) => (p.1, (s.act ρ).eval p.2)) (SV.cs ρ l).toArray ie z hu hie hzz (by rw [hsz']; omega) (by rw [hsz']; omega) (by
        rw [hparts, hsz']
        have := fill_gen size (ys.map (SV.c ρ)) 0 [] ((Array.range (n * size)).map (z.cells[· % z.cells.size]!)).toList hvs (by simp) (by simp [hyn])
        rw [List.nil_append, Array.toArray_toList, List.nil_append, hflat] at this
        exact this)
      refine .inl ⟨.slice (some ⟨w.heap.size, 0, none⟩) n n, w.alloc (.cells (SV.cs ρ l).toArray e), ?_, fun j => if j = id then ⟨w.heap.size, undef⟩ else ρ j, fun _ _ => False, ?_⟩
      · simp only [execOp, ho]
        rw [Sem.run_bind, hrun]
        rfl
      · have := out_new (base := w0.heap.size) (t := s.mem) (ρ := ρ) (S := S) (w := w) (w' := w.alloc (.cells (SV.cs ρ l).toArray e)) (val := .s id 0 n n) (rd := rd) (up := []) (id := id) (b := .cells l e) (m := ⟨w.heap.size, undef⟩) (S1 := fun _ => False)
          rfl rfl rfl (by simp) (fun k hk _ => heap_alloc_old w _ hk) (fun ρ' g1 g2 => by
            refine ⟨by rw [g1]; exact hbw.size, ?_⟩
            rw [g1]
            simp only [cellsObj]
            rw [cs_upd (nw := [id]) (fun i hi => g2 i (by simpa using hi)) (fun i hi => by simp at hi; rw [hi]; exact hid)]
            exact heap_alloc_new w _) (fun _ h => h.elim) (fun _ => .inr ⟨Nat.le_refl _, fun h => h⟩)
        simpa [SV.c] using this⟩⟩
theorem ev_convown {t e : TypeId} {x : Operand} {id n : Nat} {l : List Value} (ho : o.op = .convert t t x) (hgd : Want ops o s) (hx : svEval s x = .d id) (hm : s.mem id = some (.row n 1 e (.exact l))) (hn : 0 < n)
    (ht : P.underlying t = some (.slice e)) (he : P.underlying e = some (.int .u8)) : Ev P ops w0 o s ⟨.d id, [(id, .row n 1 e (.exact l))], [id], [], [id]⟩ :=
  Ev.wrv id _ _ _ _ hgd hm (by simp) fun ρ S w hb hR => by
    have e1 := svEval_c s ρ x
    rw [hx] at e1
    obtain ⟨xs, hxl, hxe, hrow⟩ := relon_get hR hm (by simp)
    rcases hrow with ⟨_, h⟩ | ⟨off, cap, cur, fz, h1', h2', h3', h4', h5', h6', h7', h8'⟩
    · omega
    · have hsh : w.shape? (ρ id).g = some (e, cur.size) := by unfold World.shape?; rw [h3']
      have hlt := (Array.getElem?_eq_some_iff.1 h3').1
      have hfz : (w.freeze ⟨(ρ id).g, cur.size, none⟩ 1).heap[(ρ id).g]? = some (.cells cur e (cur.size, cur.size + 1)) := by
        unfold World.freeze
        rw [if_neg (by decide)]
        simp only [Array.getElem?_modify, if_true, h3', Option.map_some]
        rcases h4' with rfl | rfl
        · simp
        · simp
      refine ⟨by simp only [Blk.owns]; rw [h1']; simp, w.freeze ⟨(ρ id).g, cur.size, none⟩ 1, ?_, ⟨?_, ?_, ?_, ?_, fun j hj => ?_⟩, xs, hxl, hxe, .inr ⟨off, cap, cur, _, h1', h2', hfz, .inr rfl, h5', h6', h7', h8'⟩⟩
      · simp only [execOp, ho, e1, SV.c, h1']
        simp [convert, run_underlying ht, run_underlying he, markStringish, hsh]
      · unfold World.freeze; rw [if_neg (by decide)]
      · unfold World.freeze; rw [if_neg (by decide)]
      · unfold World.freeze; rw [if_neg (by decide)]
      · unfold World.freeze; rw [if_neg (by decide)]; simp
      · unfold World.freeze
        rw [if_neg (by decide)]
        simp only [Array.getElem?_modify]
        rw [if_neg (Ne.symm hj)]
end
end Go.Vx
end
