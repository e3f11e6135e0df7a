import Derived.Test.YtdhklekkpkbfeaaDoorSe
namespace Go.Proofs.YtdhklekkpkbfeaaDoor
open Go.RowKit Go.Vx
open Go.Toll (Gw)
open TollSha
set_option maxHeartbeats 4000000
set_option maxRecDepth 100000
/-- what can be read through a slice of the caller's, while the caller's state is turned. -/
theorem frame_cell {w w' : World} {y : Value} {X S : Nat → Prop} {a : Addr} {x : Value} (h : (frameD w X).holds [y] w' S) (hx : w.cell? a = some x) (hX : ¬ X a.block) : w'.cell? a = some x := by
  have hb := World.block_lt_of_cell? _ _ hx
  have he := (h a.block hb hX).1
  rw [← hx]
  simp only [World.cell?, he]
theorem rdg_frame {w : World} {m : Mem} {X F : Nat → Prop} {id : Nat} {v : Value} {n size : Nat} {l : List Value} (hm : m id = some (.dat (frameD w X))) (h : SlAt w v n size l F) (hF : ∀ k, F k → ¬ X k) : Rdg (bare w) m [id] (.v v) n size l := fun ρ S w' hb hR => by
  have hD := relon_dat hR (List.mem_singleton.2 rfl) hm
  obtain ⟨ao, cap, h1, h2, h3, h4⟩ := h
  refine ⟨F, ao, cap, by simp only [SV.c]; exact h1, h2, h3, h4.imp _root_.id fun ⟨g, a, b, c⟩ => ⟨g, a, b, fun i x hx => ?_⟩⟩
  have e : (g.add i).block = g.block := by unfold Addr.add; split <;> rfl
  exact frame_cell hD (c i x hx) (by rw [e]; exact hF g.block b)
/-- slices of bytes, in a slice. -/
def PartsAt (w : World) (v : Value) (ls : List (List Nat)) (F : Nat → Prop) : Prop :=
  ∃ vs, SlAt w v ls.length 1 vs F ∧ ∀ (i : Nat) (l : List Nat), ls[i]? = some l → ∃ u, vs[i]? = some u ∧ SlAt w u l.length 1 (l.map b8) F ∧ ∀ x ∈ l, x < 256
/-- a state of the caller's, with what waits. -/
def StOwn (w : World) (g gr : Nat) (wv : Value) (a : List Nat) : Prop :=
  w.heap[g]? = some (.cells (stCells a wv).toArray 42 (0, 0)) ∧ RowAt w 0 ⟨gr, wv⟩ (stW a).length 1 5 ((stW a).map b8) ∧ (wv ≠ nilV → gr ≠ g)
def StX (g gr : Nat) (wv : Value) (k : Nat) : Prop := k = g ∨ (wv ≠ nilV ∧ k = gr)
def putRho (g gr : Nat) (wv : Value) : Nat → Nm := fun k => if k = 801 then ⟨g, undef⟩ else if k = 802 then ⟨gr, wv⟩ else ⟨0, undef⟩
def H8 (H : St) : List SV := [.v (uv H.a), .v (uv H.b), .v (uv H.c), .v (uv H.d), .v (uv H.e), .v (uv H.f), .v (uv H.g), .v (uv H.h)]
def putMem (w : World) (g gr : Nat) (wv : Value) (H : St) (wt : List Nat) (n r : Nat) : List (Nat × Blk) :=
  [(801, .cells [.v (uv H.a), .v (uv H.b), .v (uv H.c), .v (uv H.d), .v (uv H.e), .v (uv H.f), .v (uv H.g), .v (uv H.h), .d r, .v (.int .i64 (n : Nat))] 42), (r, .row wt.length 1 5 (.exact (wt.map b8))), (803, .dat (frameD w (StX g gr wv))), (804, .pin 801 g), (805, .floor w.heap.size)]
theorem put_rel {w : World} {g gr : Nat} {wv : Value} {a : List Nat} (h : StOwn w g gr wv a) (fr : List SV) : Rel (bare w) (putRho g gr wv) ⟨fr, memOf (putMem w g gr wv (stH a) (stW a) a.length 802)⟩ w := by
  obtain ⟨h1, h2, h3⟩ := h
  refine ⟨bw_bare w, fun i k => i = 803 ∧ k < w.heap.size ∧ ¬ StX g gr wv k, ?_⟩
  have cs : ∀ i b, memOf (putMem w g gr wv (stH a) (stW a) a.length 802) i = some b → (i = 801 ∧ b = .cells [.v (uv (stH a).a), .v (uv (stH a).b), .v (uv (stH a).c), .v (uv (stH a).d), .v (uv (stH a).e), .v (uv (stH a).f), .v (uv (stH a).g), .v (uv (stH a).h), .d 802, .v (.int .i64 (a.length : Nat))] 42) ∨
      (i = 802 ∧ b = .row (stW a).length 1 5 (.exact ((stW a).map b8))) ∨ (i = 803 ∧ b = .dat (frameD w (StX g gr wv))) ∨ (i = 804 ∧ b = .pin 801 g) ∨ (i = 805 ∧ b = .floor w.heap.size) := by
    intro i b hb
    simp only [putMem, memOf] at hb
    split at hb
    · injection hb with hb; exact .inl ⟨by assumption, hb.symm⟩
    · split at hb
      · injection hb with hb; exact .inr (.inl ⟨by assumption, hb.symm⟩)
      · split at hb
        · injection hb with hb; exact .inr (.inr (.inl ⟨by assumption, hb.symm⟩))
        · split at hb
          · injection hb with hb; exact .inr (.inr (.inr (.inl ⟨by assumption, hb.symm⟩)))
          · split at hb
            · injection hb with hb; exact .inr (.inr (.inr (.inr ⟨by assumption, hb.symm⟩)))
            · cases hb
  have hg : g < w.heap.size := (Array.getElem?_eq_some_iff.1 h1).1
  have hgr : wv ≠ nilV → gr < w.heap.size := fun hn => by
    rcases h2 with ⟨h2, _⟩ | ⟨off, cap, cur, fz, _, _, h4, _⟩
    · exact absurd h2 hn
    · exact (Array.getElem?_eq_some_iff.1 h4).1
  refine ⟨?_, ?_, ?_, ?_, ?_⟩
  · intro i b hb
    rcases cs i b hb with ⟨rfl, rfl⟩ | ⟨rfl, rfl⟩ | ⟨rfl, rfl⟩ | ⟨rfl, rfl⟩ | ⟨rfl, rfl⟩
    · refine ⟨Nat.zero_le _, ?_⟩
      show w.heap[g]? = _
      rw [h1]; rfl
    · exact ⟨(stW a).map b8, by simp, rfl, h2⟩
    · exact fun k hk hx => ⟨rfl, rfl, hk, hx⟩
    · rfl
    · exact Nat.le_refl _
  · rintro i k _ ⟨_, h, _⟩; exact h
  · rintro i k _ _; exact Nat.zero_le _
  · rintro i b j hi ho hj ⟨rfl, h4, h5⟩
    rcases cs i b hi with ⟨rfl, rfl⟩ | ⟨rfl, rfl⟩ | ⟨rfl, rfl⟩ | ⟨rfl, rfl⟩ | ⟨rfl, rfl⟩
    · exact h5 (.inl rfl)
    · exact h5 (.inr ⟨ho, rfl⟩)
    · exact ho
    · exact ho
    · exact ho
  · intro i b j c hi ho hj hc he
    rcases cs i b hi with ⟨rfl, rfl⟩ | ⟨rfl, rfl⟩ | ⟨rfl, rfl⟩ | ⟨rfl, rfl⟩ | ⟨rfl, rfl⟩
    · rcases cs j c hj with ⟨rfl, rfl⟩ | ⟨rfl, rfl⟩ | ⟨rfl, rfl⟩ | ⟨rfl, rfl⟩ | ⟨rfl, rfl⟩
      · rfl
      · exact absurd he.symm (h3 hc)
      · exact hc.elim
      · exact hc.elim
      · exact hc.elim
    · rcases cs j c hj with ⟨rfl, rfl⟩ | ⟨rfl, rfl⟩ | ⟨rfl, rfl⟩ | ⟨rfl, rfl⟩ | ⟨rfl, rfl⟩
      · exact absurd he (h3 ho)
      · rfl
      · exact hc.elim
      · exact hc.elim
      · exact hc.elim
    · exact ho.elim
    · exact ho.elim
    · exact ho.elim
theorem relon_mono {base : Nat} {ρ : Nat → Nm} {S : Nat → Nat → Prop} {w : World} {m : Mem} {rd : List Nat} (rd' : List Nat) (hs : ∀ i ∈ rd', i ∈ rd) (hR : RelOn base ρ S w (restr rd m)) : RelOn base ρ S w (restr rd' m) := by
  have e : restr rd' (restr rd m) = restr rd' m := by
    funext k
    unfold restr
    by_cases h : k ∈ rd'
    · rw [if_pos h, if_pos h, if_pos (hs k h)]
    · rw [if_neg h, if_neg h]
  rw [← e]
  exact hR.restr rd'
def aI (a : List Nat) (ls : List (List Nat)) (i : Nat) : List Nat := a ++ (ls.take i).flatten
def mO (w : World) (g gr : Nat) (wv : Value) (a : List Nat) (ls : List (List Nat)) (i : Nat) : List (Nat × Blk) := putMem w g gr wv (stH (aI a ls i)) (stW (aI a ls i)) (aI a ls i).length 802
theorem ev_ptrnil {w0 : World} {ops : Array Oper} {o : Oper} {s : VS} {r : TypeId} {x y : Operand} {id off : Nat} (ho : o.op = .binOp .eql 24 x y r) (hgd : Want ops o s) (hx : svEval s x = .p id off) (hy : svEval s y = .v (.pointer none)) : Ev Tryd.prog ops w0 o s ⟨.v (.bool false), [], [], [], []⟩ :=
  Ev.run _ _ hgd fun ρ S w hb hR => by
    have e1 := svEval_c s ρ x
    rw [hx] at e1
    have e2 := svEval_c s ρ y
    rw [hy] at e2
    simp only [SV.c] at e1 e2
    have h := ptr_nn ⟨(ρ id).g, off, none⟩ x y w
    simp only [execOp, ho, e1, e2, SV.c]
    rw [Sem.run_bind, h]
    rfl
theorem nb_app {a p : List Nat} : 64 * nb a ≤ (a ++ p).length := by have := nb_le a; rw [List.length_append]; omega
theorem K_frame {w w' : World} {g gr : Nat} {wv : Value} {S : Nat → Prop} {y : Value} (hL : LaidK w) (hX : ¬ StX g gr wv 1) (h : (frameD w (StX g gr wv)).holds [y] w' S) : LaidK w' := fun i hi => frame_cell h (hL i hi) hX
theorem Put_ok {w : World} {g gr : Nat} {wv v : Value} {a : List Nat} {ls : List (List Nat)} {F : Nat → Prop} (hL : LaidK w) (hX1 : ¬ StX g gr wv 1) (hs : StOwn w g gr wv a) (hp : PartsAt w v ls F) (hFX : ∀ k, F k → ¬ StX g gr wv k) (ha8 : ∀ x ∈ a, x < 256) (hlt : (a ++ ls.flatten).length < 1048576) (hln : ls.length ≤ 1048576) :
    Calls Tryd.prog 6 #[.pointer (some ⟨g, 0, none⟩), v] w fun e w' => e = .returned (.tuple #[]) ∧ Bw (bare w) w' ∧ ∃ gr' wv', StOwn w' g gr' wv' (a ++ ls.flatten) ∧ (∀ k, k < w.heap.size → ¬ StX g gr wv k → w'.heap[k]? = w.heap[k]?) ∧ (wv' ≠ nilV → StX g gr wv gr' ∨ w.heap.size ≤ gr') ∧ w.heap.size ≤ w'.heap.size := by
  obtain ⟨vs, hvs, hel⟩ := hp
  have hfl : ∀ i, ((ls.take i).flatten).length ≤ (ls.flatten).length := fun i => by
    have : ls.flatten = (ls.take i).flatten ++ (ls.drop i).flatten := by rw [← List.flatten_append, List.take_append_drop]
    rw [this, List.length_append]; omega
  have hlen : ∀ i, (aI a ls i).length < 1048576 := fun i => by have := hfl i; unfold aI; rw [List.length_append] at hlt ⊢; omega
  have hall : ∀ i, ∀ x ∈ aI a ls i, x < 256 := fun i x hx => by
    rcases List.mem_append.1 hx with hx | hx
    · exact ha8 x hx
    · obtain ⟨l, hl, hx⟩ := List.mem_flatten.1 hx
      obtain ⟨j, hj⟩ := List.getElem?_of_mem (List.mem_of_mem_take hl)
      obtain ⟨_, _, _, h8⟩ := hel j l hj
      exact h8 x hx
  go_enter Tryd.func6, Tryd.ntmps6
  refine ve_gob (putRho g gr wv) (by simp [SV.c, putRho]) (put_rel hs [.p 801 0, .v v, .v undef, .v undef, .v undef, .v undef, .v undef, .v undef, .v undef, .v undef, .v undef, .v undef, .v undef, .v undef, .v undef, .v undef, .v undef, .v undef, .v undef, .v undef, .v undef, .v undef, .v undef, .v undef, .v undef, .v undef, .v undef, .v undef, .v undef, .v undef, .v undef, .v undef, .v undef, .v undef, .v undef, .v undef, .v undef, .v undef, .v undef, .v undef, .v undef, .v undef, .v undef, .v undef, .v undef, .v undef, .v undef, .v undef, .v undef, .v undef, .v undef, .v undef, .v undef, .v undef, .v undef, .v undef, .v undef, .v undef, .v undef, .v undef]) ?_
  simp only [putMem]
  refine vseq ?_
  refine vseq ?_
  apply vrp
  · apply VE.cons
    · exact ev_move rfl (gn rfl)
    simp only [nm, seval]
    apply VE.cons
    · exact ev_ptrnil rfl (gn rfl) rfl rfl
    simp only [nm, seval]
    exact VE.nil _
  · kernel_rfl
  change VOk _ _ _ _ _
  refine vcond_f rfl ?_
  refine vskip ?_
  change VOk _ _ _ _ _
  refine vseq ?_
  apply vrp
  · apply VE.cons
    · exact ev_move rfl (gn rfl)
    simp only [nm, seval]
    apply VE.cons
    · exact ev_len rfl (gn rfl) rfl Tryd.underlying22 (rdg_frame (id := 803) rfl hvs hFX)
    simp only [nm, seval]
    apply VE.cons
    · exact ev_move rfl (gn rfl)
    simp only [nm, seval]
    exact VE.nil _
  · kernel_rfl
  change VOk _ _ _ _ _
  refine vblock ?_
  refine vloop_w (α := {x : Nat // x ≤ ls.length}) (fun (x : {x : Nat // x ≤ ls.length}) f => ⟨[.p 801 0, .v (f 1), .v (f 2), .v (f 3), .v (f 4), .v (f 5), .v (f 6), .v (f 7), .v v, .v (.int .i64 (ls.length : Nat)), .v (.int .i64 (x.1 : Nat)), .v (f 11), .v (f 12), .v (f 13), .v (f 14), .v (f 15), .v (f 16), .v (f 17), .v (f 18), .v (f 19), .v (f 20), .v (f 21), .v (f 22), .v (f 23), .v (f 24), .v (f 25), .v (f 26), .v (f 27), .v (f 28), .v (f 29), .v (f 30), .v (f 31), .v (f 32), .v (f 33), .v (f 34), .v (f 35), .v (f 36), .v (f 37), .v (f 38), .v (f 39), .v (f 40), .v (f 41), .v (f 42), .v (f 43), .v (f 44), .v (f 45), .v (f 46), .v (f 47), .v (f 48), .v (f 49), .v (f 50), .v (f 51), .v (f 52), .v (f 53), .v (f 54), .v (f 55), .v (f 56), .v (f 57), .v (f 58), .v (f 59)], memOf (mO w g gr wv a ls x.1)⟩) (fun x => ls.length - x.1) ?_ (⟨0, Nat.zero_le _⟩) ?_
  · rintro ⟨i, hi⟩ f
    obtain ⟨q, h_q⟩ : ∃ q, decide (i < ls.length) = q := ⟨_, rfl⟩
    have h_q' := (nat_lt i ls.length).trans h_q
    simp only [mO, putMem]
    change VOk _ _ _ _ _
    refine vseq ?_
    apply vrp
    · apply VE.cons
      · exact ev_lss rfl (gn rfl) rfl rfl h_q'
      simp only [nm, seval]
      exact VE.nil _
    · kernel_rfl
    change VOk _ _ _ _ _
    refine vseq ?_
    cases q
    · refine vcond_f rfl ?_
      have hie : i = ls.length := by have := of_decide_eq_false h_q; omega
      subst hie
      refine vexit ?_
      refine post_end (res0 Tryd.results6 ) ?_
      intro ρ w' hr
      refine ⟨rfl, hr.1, ?_⟩
      obtain ⟨hb, S1, hR⟩ := hr
      have g1 := hR.good 801 _ rfl
      have g2 := hR.good 802 _ rfl
      have g3 := hR.good 803 _ rfl
      have g4 : (ρ 801).g = g := hR.good 804 _ rfl
      have eA : aI a ls ls.length = a ++ ls.flatten := by unfold aI; rw [List.take_length]
      rw [eA] at g1 g2
      obtain ⟨xs, x1, x2, x3⟩ := g2
      have x2' : xs = _ := x2
      subst x2'
      refine ⟨(ρ 802).g, (ρ 802).val, ⟨?_, x3, fun hn he => ?_⟩, fun k hk hX => (g3 k hk hX).1, fun hn => ?_, hR.good 805 _ rfl⟩
      · have h := g1.2
        rw [g4] at h
        rw [h]
        rfl
      · exact absurd (hR.inj 802 _ 801 _ rfl hn rfl True.intro (he.trans g4.symm)) (by decide)
      · by_cases hX : StX g gr wv (ρ 802).g
        · exact .inl hX
        · right
          apply Classical.byContradiction
          intro hlt'
          exact hR.dis 802 _ 803 rfl hn rfl (g3 (ρ 802).g (by omega) hX).2
    · refine vcond_t rfl ?_
      have hlt : i < ls.length := of_decide_eq_true h_q
      obtain ⟨l, hl⟩ : ∃ l, ls[i]? = some l := ⟨ls[i], List.getElem?_eq_getElem hlt⟩
      obtain ⟨u, hu1, hu2, hu8⟩ := hel i l hl
      obtain ⟨Ai, hAi⟩ : ∃ Ai, (aI a ls i) = Ai := ⟨_, rfl⟩
      obtain ⟨Ab, hAb⟩ : ∃ Ab, Ai ++ l = Ab := ⟨_, rfl⟩
      have hnx : (aI a ls (i + 1)) = Ab := by rw [← hAb, ← hAi]; unfold aI; rw [take_get hl]; simp
      have hA8 : ∀ x ∈ Ab, x < 256 := by rw [← hnx]; exact hall _
      have hAl : Ab.length < 1048576 := by rw [← hnx]; exact hlen _
      have hAbl : Ab.length = Ai.length + l.length := by rw [← hAb, List.length_append]
      have hnbA : 64 * nb Ai ≤ Ab.length := by rw [← hAb]; exact nb_app
      have hst : stH Ai = pressN H0 Ab (nb Ai) := by rw [← hAb]; exact stH_app Ai l
      have hwt : (stW Ai).map b8 ++ l.map b8 = (Ab.drop (64 * nb Ai)).map b8 := by rw [← List.map_append, stW_app, hAb]
      have hwl : (stW Ai).length + l.length = Ab.length - 64 * nb Ai := by have := congrArg List.length hwt; simp only [List.length_append, List.length_map, List.length_drop] at this; exact this
      have hwlt := stW_lt Ai
      rw [hAi]
      refine vskip ?_
      change VOk _ _ _ _ _
      refine vseq ?_
      refine vblock ?_
      refine vseq ?_
      apply vrp
      · apply VE.cons
        · exact ev_idx (k := i) rfl (gn rfl) rfl rfl Tryd.underlying22 Tryd.sizeOf27 (rdg_frame (id := 803) rfl hvs hFX) (of_decide_eq_true h_q) (by decide)
        simp only [nm, seval]
        apply VE.cons
        · exact ev_loadi rfl (gn rfl) rfl Tryd.underlying27 rfl (rdg_frame (id := 803) rfl hvs hFX) hu1
        simp only [nm, seval]
        apply VE.cons
        · exact ev_assign rfl (gn rfl)
        simp only [nm, seval]
        exact VE.nil _
      · kernel_rfl
      change VOk _ _ _ _ _
      refine vseq ?_
      apply vrp
      · apply VE.cons
        · exact ev_move rfl (gn rfl)
        simp only [nm, seval]
        apply VE.cons
        · first | exact ev_nil rfl (gn rfl) rfl | exact ev_nilx rfl (gn rfl) rfl
        simp only [nm, seval]
        apply VE.cons
        · first | exact ev_field rfl (gn rfl) rfl Tryd.underlying42 rfl Tryd.sizeOf3 | exact ev_fieldx rfl (gn rfl) rfl Tryd.underlying42 rfl Tryd.sizeOf3
        simp only [nm, seval]
        apply VE.cons
        · first | exact ev_load1 rfl (gn rfl) rfl rfl Tryd.underlying3 rfl rfl | exact ev_loadx1 rfl (gn rfl) rfl Tryd.underlying3 rfl (by assumption)
        simp only [nm, seval]
        apply VE.cons
        · exact ev_move rfl (gn rfl)
        simp only [nm, seval]
        apply VE.cons
        · exact ev_len rfl (gn rfl) rfl Tryd.underlying27 (rdg_frame (id := 803) rfl hu2 hFX)
        simp only [nm, seval]
        apply VE.cons
        · exact ev_add (c := ((Ai.length + l.length : Nat) : Int)) rfl (gn rfl) rfl rfl (by rw [i64w (by omega) (by omega)]; omega)
        simp only [nm, seval]
        apply VE.cons
        · first | exact ev_nil rfl (gn rfl) rfl | exact ev_nilx rfl (gn rfl) rfl
        simp only [nm, seval]
        apply VE.cons
        · first | exact ev_field rfl (gn rfl) rfl Tryd.underlying42 rfl Tryd.sizeOf3 | exact ev_fieldx rfl (gn rfl) rfl Tryd.underlying42 rfl Tryd.sizeOf3
        simp only [nm, seval]
        apply VE.cons
        · exact ev_store rfl (gn rfl) rfl rfl rfl Tryd.sizeOf3 rfl (by simp) rfl
        simp only [nm, seval]
        exact VE.nil _
      · kernel_rfl
      change VOk _ _ _ _ _
      refine vseq ?_
      apply vrp
      · apply VE.cons
        · exact ev_move rfl (gn rfl)
        simp only [nm, seval]
        apply VE.cons
        · exact ev_move rfl (gn rfl)
        simp only [nm, seval]
        apply VE.cons
        · first | exact ev_nil rfl (gn rfl) rfl | exact ev_nilx rfl (gn rfl) rfl
        simp only [nm, seval]
        apply VE.cons
        · first | exact ev_field rfl (gn rfl) rfl Tryd.underlying42 rfl Tryd.sizeOf27 | exact ev_fieldx rfl (gn rfl) rfl Tryd.underlying42 rfl Tryd.sizeOf27
        simp only [nm, seval]
        apply VE.cons
        · first | exact ev_load1 rfl (gn rfl) rfl rfl Tryd.underlying27 rfl rfl | exact ev_loadx1 rfl (gn rfl) rfl Tryd.underlying27 rfl (by assumption)
        simp only [nm, seval]
        apply VE.cons
        · exact ev_move rfl (gn rfl)
        simp only [nm, seval]
        apply VE.cons
        · exact ev_append rfl rfl (gn rfl) rfl rfl rfl (rdg_frame (id := 803) rfl hu2 hFX) Tryd.underlying27 el5 (by decide) (by simp) (b8_all _) (by simp only [maxLen]; omega) (by omega) (by simp)
        simp only [nm, seval]
        apply VE.cons
        · first | exact ev_nil rfl (gn rfl) rfl | exact ev_nilx rfl (gn rfl) rfl
        simp only [nm, seval]
        apply VE.cons
        · first | exact ev_field rfl (gn rfl) rfl Tryd.underlying42 rfl Tryd.sizeOf27 | exact ev_fieldx rfl (gn rfl) rfl Tryd.underlying42 rfl Tryd.sizeOf27
        simp only [nm, seval]
        apply VE.cons
        · first | exact ev_storeR (vl := [.d 29]) [801, 29] rfl (gn rfl) rfl rfl rfl Tryd.sizeOf27 rfl (fun ρ S w' _ hR => by have hh := row_cells (id := 29) hR (by simp) rfl; exact ⟨hh.1, by simp [SV.cs, SV.c, hh.2]⟩) rfl (by simp) | exact ev_storeR (vl := [.d 56]) [801, 56] rfl (gn rfl) rfl rfl rfl Tryd.sizeOf27 rfl (fun ρ S w' _ hR => by have hh := row_cells (id := 56) hR (by simp) rfl; exact ⟨hh.1, by simp [SV.cs, SV.c, hh.2]⟩) rfl (by simp)
        simp only [nm, seval]
        exact VE.nil _
      · kernel_rfl
      change VOk _ _ _ _ _
      refine vblock ?_
      refine vloop_w (α := {x : Nat // 64 * x ≤ Ab.length}) (fun (x : {x : Nat // 64 * x ≤ Ab.length}) f => ⟨[.p 801 0, .v (f 1), .v (f 2), .v (f 3), .v (f 4), .v (f 5), .v (f 6), .v (f 7), .v v, .v (.int .i64 (ls.length : Nat)), .v (.int .i64 (i : Nat)), .v (f 11), .v (f 12), .v (f 13), .v (f 14), .v (f 15), .v (f 16), .v (f 17), .v (f 18), .v (f 19), .v (f 20), .v (f 21), .v (f 22), .v (f 23), .v (f 24), .v (f 25), .v (f 26), .v (f 27), .v (f 28), .v (f 29), .v (f 30), .v (f 31), .v (f 32), .v (f 33), .v (f 34), .v (f 35), .v (f 36), .v (f 37), .v (f 38), .v (f 39), .v (f 40), .v (f 41), .v (f 42), .v (f 43), .v (f 44), .v (f 45), .v (f 46), .v (f 47), .v (f 48), .v (f 49), .v (f 50), .v (f 51), .v (f 52), .v (f 53), .v (f 54), .v (f 55), .v (f 56), .v (f 57), .v (f 58), .v (f 59)], memOf [(801, .cells [.v (uv (pressN H0 Ab x.1).a), .v (uv (pressN H0 Ab x.1).b), .v (uv (pressN H0 Ab x.1).c), .v (uv (pressN H0 Ab x.1).d), .v (uv (pressN H0 Ab x.1).e), .v (uv (pressN H0 Ab x.1).f), .v (uv (pressN H0 Ab x.1).g), .v (uv (pressN H0 Ab x.1).h), .d 802, .v (.int .i64 (Ab.length : Nat))] 42), (802, .row (Ab.length - 64 * x.1) 1 5 (.exact ((Ab.drop (64 * x.1)).map b8))), (803, .dat (frameD w (StX g gr wv))), (804, .pin 801 g), (805, .floor w.heap.size)]⟩) (fun x => Ab.length - 64 * x.1) ?_ (⟨nb Ai, hnbA⟩) ?_
      · rintro ⟨m, hm2⟩ f
        obtain ⟨q2, h_q2⟩ : ∃ q, decide (((Ab.length - 64 * m : Nat) : Int) ≥ ((64 : Nat) : Int)) = q := ⟨_, rfl⟩
        obtain ⟨H, hH⟩ : ∃ H, pressN H0 Ab m = H := ⟨_, rfl⟩
        rw [hH]
        change VOk _ _ _ _ _
        refine vseq ?_
        refine vseq ?_
        apply vrp
        · apply VE.cons
          · exact ev_move rfl (gn rfl)
          simp only [nm, seval]
          apply VE.cons
          · first | exact ev_nil rfl (gn rfl) rfl | exact ev_nilx rfl (gn rfl) rfl
          simp only [nm, seval]
          apply VE.cons
          · first | exact ev_field rfl (gn rfl) rfl Tryd.underlying42 rfl Tryd.sizeOf27 | exact ev_fieldx rfl (gn rfl) rfl Tryd.underlying42 rfl Tryd.sizeOf27
          simp only [nm, seval]
          apply VE.cons
          · first | exact ev_load1 rfl (gn rfl) rfl rfl Tryd.underlying27 rfl rfl | exact ev_loadx1 rfl (gn rfl) rfl Tryd.underlying27 rfl (by assumption)
          simp only [nm, seval]
          apply VE.cons
          · exact ev_len rfl (gn rfl) rfl Tryd.underlying27 (rdg_row rfl)
          simp only [nm, seval]
          apply VE.cons
          · exact ev_geq rfl (gn rfl) rfl rfl h_q2
          simp only [nm, seval]
          exact VE.nil _
        · kernel_rfl
        change VOk _ _ _ _ _
        cases q2
        · refine vcond_f rfl ?_
          have hme : m = nb Ab := end_of hm2 (by rw [List.length_drop]; have := of_decide_eq_false h_q2; omega)
          subst hme
          have hHs : stH Ab = H := hH
          have hWs : stW Ab = Ab.drop (64 * nb Ab) := rfl
          refine vexit ?_
          change VOk _ _ _ _ _
          apply vrp
          · apply VE.cons
            · exact ev_add (c := ((i + 1 : Nat) : Int)) rfl (gn rfl) rfl rfl (by rw [i64w (by omega) (by omega)]; omega)
            simp only [nm, seval]
            apply VE.cons
            · exact ev_move rfl (gn rfl)
            simp only [nm, seval]
            exact VE.nil _
          · kernel_rfl
          refine ⟨⟨i + 1, by omega⟩, by show ls.length - (i + 1) < ls.length - i; omega, ?_⟩
          simp only [hnx, hHs, hWs, List.length_drop]
          exact weaker_forget (fun i => i == 0 || i == 8 || i == 9 || i == 10) []
        · refine vcond_t rfl ?_
          refine vskip ?_
          change VOk _ _ _ _ _
          refine vblock ?_
          refine vseq ?_
          apply vrd (by kernel_rfl)
          · apply VE.cons
            · exact ev_move rfl (gn rfl)
            simp only [nm, seval]
            apply VE.cons
            · exact ev_move rfl (gn rfl)
            simp only [nm, seval]
            apply VE.cons
            · first | exact ev_nil rfl (gn rfl) rfl | exact ev_nilx rfl (gn rfl) rfl
            simp only [nm, seval]
            apply VE.cons
            · first | exact ev_field rfl (gn rfl) rfl Tryd.underlying42 rfl Tryd.sizeOf40 | exact ev_fieldx rfl (gn rfl) rfl Tryd.underlying42 rfl Tryd.sizeOf40
            simp only [nm, seval]
            apply VE.cons
            · first | exact ev_load rfl (gn rfl) rfl rfl Tryd.underlying40 rfl Tryd.sizeOf40 rfl rfl | exact ev_loadx rfl (gn rfl) rfl Tryd.underlying40 rfl Tryd.sizeOf40 (by assumption) rfl | exact ev_loada rfl (gn rfl) rfl rfl Tryd.underlying40 rfl Tryd.sizeOf40 rfl
            simp only [nm, seval]
            apply VE.cons
            · exact ev_move rfl (gn rfl)
            simp only [nm, seval]
            apply VE.cons
            · first | exact ev_nil rfl (gn rfl) rfl | exact ev_nilx rfl (gn rfl) rfl
            simp only [nm, seval]
            apply VE.cons
            · first | exact ev_field rfl (gn rfl) rfl Tryd.underlying42 rfl Tryd.sizeOf27 | exact ev_fieldx rfl (gn rfl) rfl Tryd.underlying42 rfl Tryd.sizeOf27
            simp only [nm, seval]
            apply VE.cons
            · first | exact ev_load1 rfl (gn rfl) rfl rfl Tryd.underlying27 rfl rfl | exact ev_loadx1 rfl (gn rfl) rfl Tryd.underlying27 rfl (by assumption)
            simp only [nm, seval]
            apply VE.cons
            · exact ev_cut (a := 0) (b := 64) (size := 1) rfl (gn rfl) rfl Tryd.underlying27 Tryd.sizeOf5 (rdg_row rfl) rfl rfl (by decide) (show 64 ≤ Ab.length - 64 * m by have := of_decide_eq_true h_q2; omega)
            simp only [nm, seval]
            apply VE.cons
            · exact ev_callp (v := .agg #[uv (TollSha.press H ((Ab.drop (64 * m)).take 64)).a, uv (TollSha.press H ((Ab.drop (64 * m)).take 64)).b, uv (TollSha.press H ((Ab.drop (64 * m)).take 64)).c, uv (TollSha.press H ((Ab.drop (64 * m)).take 64)).d, uv (TollSha.press H ((Ab.drop (64 * m)).take 64)).e, uv (TollSha.press H ((Ab.drop (64 * m)).take 64)).f, uv (TollSha.press H ((Ab.drop (64 * m)).take 64)).g, uv (TollSha.press H ((Ab.drop (64 * m)).take 64)).h]) [802, 803] rfl (gn rfl) rfl (en_of Tryd.func14 (by kernel_rfl) rfl) (fun ρ S w' hb hR => by have hD := relon_dat (id := 803) hR (by simp) rfl; obtain ⟨S0, s0⟩ := rdg_sub (lo := 0) (hi := 64) (n' := 64) (l' := ((Ab.drop (64 * m)).take 64).map b8) (rdg_row (id := 802) rfl) (Nat.zero_le _) (show 64 ≤ Ab.length - 64 * m by have := of_decide_eq_true h_q2; omega) (by rw [Nat.mul_one, Nat.mul_one, List.drop_zero, Nat.sub_zero, List.map_take]) rfl ρ S w' hb (relon_mono [802] (by simp) hR); exact press_ok H w' (K_frame hL hX1 hD) s0 (by rw [List.length_take, List.length_drop]; have := (show 64 ≤ Ab.length - 64 * m by have := of_decide_eq_true h_q2; omega); omega) (fun x hx => hA8 x (List.mem_of_mem_drop (List.mem_of_mem_take hx))))
            simp only [nm, seval]
            apply VE.cons
            · first | exact ev_nil rfl (gn rfl) rfl | exact ev_nilx rfl (gn rfl) rfl
            simp only [nm, seval]
            apply VE.cons
            · first | exact ev_field rfl (gn rfl) rfl Tryd.underlying42 rfl Tryd.sizeOf40 | exact ev_fieldx rfl (gn rfl) rfl Tryd.underlying42 rfl Tryd.sizeOf40
            simp only [nm, seval]
            apply VE.cons
            · exact ev_store rfl (gn rfl) rfl rfl rfl Tryd.sizeOf40 rfl (by simp) rfl
            simp only [nm, seval]
            exact VE.nil _
          · kernel_rfl
          change VOk _ _ _ _ _
          apply vrp
          · apply VE.cons
            · exact ev_move rfl (gn rfl)
            simp only [nm, seval]
            apply VE.cons
            · exact ev_move rfl (gn rfl)
            simp only [nm, seval]
            apply VE.cons
            · first | exact ev_nil rfl (gn rfl) rfl | exact ev_nilx rfl (gn rfl) rfl
            simp only [nm, seval]
            apply VE.cons
            · first | exact ev_field rfl (gn rfl) rfl Tryd.underlying42 rfl Tryd.sizeOf27 | exact ev_fieldx rfl (gn rfl) rfl Tryd.underlying42 rfl Tryd.sizeOf27
            simp only [nm, seval]
            apply VE.cons
            · first | exact ev_load1 rfl (gn rfl) rfl rfl Tryd.underlying27 rfl rfl | exact ev_loadx1 rfl (gn rfl) rfl Tryd.underlying27 rfl (by assumption)
            simp only [nm, seval]
            apply VE.cons
            · exact ev_cuttail (a := 64) (m := Ab.length - 64 * (m + 1)) (l' := (Ab.drop (64 * (m + 1))).map b8) rfl rfl (gn rfl) rfl rfl Tryd.underlying27 Tryd.sizeOf5 rfl (show 64 ≤ Ab.length - 64 * m by have := of_decide_eq_true h_q2; omega) (by rw [← List.map_drop, drop_step]) (by simp) (by omega)
            simp only [nm, seval]
            apply VE.cons
            · first | exact ev_nil rfl (gn rfl) rfl | exact ev_nilx rfl (gn rfl) rfl
            simp only [nm, seval]
            apply VE.cons
            · first | exact ev_field rfl (gn rfl) rfl Tryd.underlying42 rfl Tryd.sizeOf27 | exact ev_fieldx rfl (gn rfl) rfl Tryd.underlying42 rfl Tryd.sizeOf27
            simp only [nm, seval]
            apply VE.cons
            · first | exact ev_storeR (vl := [.d 29]) [801, 29] rfl (gn rfl) rfl rfl rfl Tryd.sizeOf27 rfl (fun ρ S w' _ hR => by have hh := row_cells (id := 29) hR (by simp) rfl; exact ⟨hh.1, by simp [SV.cs, SV.c, hh.2]⟩) rfl (by simp) | exact ev_storeR (vl := [.d 56]) [801, 56] rfl (gn rfl) rfl rfl rfl Tryd.sizeOf27 rfl (fun ρ S w' _ hR => by have hh := row_cells (id := 56) hR (by simp) rfl; exact ⟨hh.1, by simp [SV.cs, SV.c, hh.2]⟩) rfl (by simp)
            simp only [nm, seval]
            exact VE.nil _
          · kernel_rfl
          have h64 : 64 ≤ Ab.length - 64 * m := by have := of_decide_eq_true h_q2; omega
          refine ⟨⟨m + 1, by omega⟩, by show Ab.length - 64 * (m + 1) < Ab.length - 64 * m; omega, ?_⟩
          have e3 : TollSha.press H ((Ab.drop (64 * m)).take 64) = pressN H0 Ab (m + 1) := by rw [← hH]; rfl
          rw [e3]
          exact (weaker_forget (fun i => i == 0 || i == 8 || i == 9 || i == 10) []).trans2 (fun f => Weaker.trans2 (weaker_swap (a := (56, _)) (b := (801, _)) (show (56 : Nat) ≠ 801 by decide)) (fun _ => weaker_ren 56 802 (by decide) rfl))
      · rw [hst, hwt, hwl, ← hAbl]
        exact (weaker_forget (fun i => i == 0 || i == 8 || i == 9 || i == 10) []).trans2 (fun f => Weaker.trans2 (weaker_swap (a := (29, _)) (b := (801, _)) (show (29 : Nat) ≠ 801 by decide)) (fun _ => weaker_ren 29 802 (by decide) rfl))
  · refine (weaker_forget (fun i => i == 0 || i == 8 || i == 9 || i == 10) []).trans2 (fun f => weaker_id (fun _ => undef) ?_)
    simp [forgetFr, memDel, mO, putMem, aI]
end Go.Proofs.YtdhklekkpkbfeaaDoor
