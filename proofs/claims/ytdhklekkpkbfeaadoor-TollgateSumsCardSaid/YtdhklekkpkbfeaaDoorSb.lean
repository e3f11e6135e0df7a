import Derived.Test.YtdhklekkpkbfeaaDoorSa
namespace Go.Proofs.YtdhklekkpkbfeaaDoor
open Go.RowKit Go.Vx
open Go.Toll (Gw)
open TollSha
set_option maxHeartbeats 4000000
set_option maxRecDepth 100000
/-- the row of words, filled up. -/
def WL (l : List W) : List Value := l.map uv ++ List.replicate (64 - l.length) (uv 0#32)
theorem WL_len {l : List W} (h : l.length ≤ 64) : (WL l).length = 64 := by simp [WL]; omega
theorem WL_get {l : List W} {j : Nat} (h : j < l.length) : (WL l)[j]? = some (uv (l.getD j 0#32)) := by
  rw [WL, List.getElem?_append_left (by simpa using h)]
  simp [List.getD, h]
theorem WL_set {l : List W} (x : W) (h : l.length < 64) : (WL l).take l.length ++ [uv x] ++ (WL l).drop (l.length + 1) = WL (l ++ [x]) := by
  have h1 : (WL l).take l.length = l.map uv := by rw [WL, List.take_append_of_le_length (by simp), List.take_of_length_le (by simp)]
  have h2 : (WL l).drop (l.length + 1) = List.replicate (64 - (l.length + 1)) (uv 0#32) := by
    rw [WL, List.drop_append, List.drop_of_length_le (by simp), List.nil_append, List.drop_replicate]
    congr 1
    simp
    omega
  rw [h1, h2, WL, List.map_append, List.length_append]
  rfl
theorem z50 : (List.replicate 64 (Value.int .u32 0)) = WL [] := rfl
theorem mul4 {n : Nat} (hn : n ≤ 1000) (p q : Operand) (w : World) : (do eqGuard .mul 3 p q (.int .i64 4) (.int .i64 (n : Nat)); binOp .mul 3 (.int .i64 4) (.int .i64 (n : Nat)) : Sem Value).run Tryd.prog w = .ok (.int .i64 ((4 * n : Nat) : Int)) w := by
  have e : IntKind.i64.wrap (4 * (n : Int)) = ((4 * n : Nat) : Int) := by rw [i64w (by omega) (by omega)]; omega
  go_simp
  try exact e
theorem built40 (a b c d e f g h : W) : Tryd.prog.built 40 [(0, uv a), (1, uv b), (2, uv c), (3, uv d), (4, uv e), (5, uv f), (6, uv g), (7, uv h)] = some #[uv a, uv b, uv c, uv d, uv e, uv f, uv g, uv h] := by kernel_rfl
/-- the rounds' words, laid. -/
def LaidK (w : World) : Prop := ∀ i, i < 64 → w.cell? ⟨1, i, none⟩ = some (uv (K.getD i 0#32))
theorem LaidK.bw {w w' : World} (h : LaidK w) (hb : Bw w w') : LaidK w' := fun i hi => hb.cell (h i hi)
theorem nat_lt (a c : Nat) : decide ((a : Int) < (c : Int)) = decide (a < c) := decide_eq_decide.2 (by omega)
theorem cut4 {w : World} {v : Value} {b : List Nat} {S : Nat → Prop} {i : Nat} (hv : SlAt w v 64 1 (b.map b8) S) (hb : b.length = 64) (hi : i < 16) :
    SlAt w (cutV (4 * i) (4 * i + 4) 1 v) 4 1 [b8 (b.getD (4 * i) 0), b8 (b.getD (4 * i + 1) 0), b8 (b.getD (4 * i + 2) 0), b8 (b.getD (4 * i + 3) 0)] S := by
  have h := sl_cut (lo := 4 * i) (hi := 4 * i + 4) hv (by omega) (by omega)
  have hl : (((b.map b8).drop (4 * i * 1)).take ((4 * i + 4 - 4 * i) * 1)) = [b8 (b.getD (4 * i) 0), b8 (b.getD (4 * i + 1) 0), b8 (b.getD (4 * i + 2) 0), b8 (b.getD (4 * i + 3) 0)] := by
    rw [Nat.mul_one, Nat.mul_one, show 4 * i + 4 - 4 * i = 4 by omega]
    have g : ∀ j, j < 64 → b[j]? = some (b.getD j 0) := fun j hj => by simp [List.getD, show j < b.length by omega]
    apply List.ext_getElem?
    intro j
    rw [List.getElem?_take]
    by_cases hj : j < 4
    · rw [if_pos hj, List.getElem?_drop, List.getElem?_map, g (4 * i + j) (by omega)]
      have : j = 0 ∨ j = 1 ∨ j = 2 ∨ j = 3 := by omega
      rcases this with rfl | rfl | rfl | rfl <;> rfl
    · rw [if_neg hj, List.getElem?_eq_none (by simp; omega)]
  rw [hl, show 4 * i + 4 - 4 * i = 4 by omega] at h
  exact h
theorem getD_lt {b : List Nat} (h : ∀ x ∈ b, x < 256) (j : Nat) : b.getD j 0 < 256 := by
  by_cases hj : j < b.length
  · simp [List.getD, hj]; exact h _ (List.getElem_mem hj)
  · simp [List.getD, hj]
theorem press_ok {v : Value} {b : List Nat} {S : Nat → Prop} (s : St) (w : World) (hL : LaidK w) (hv : SlAt w v 64 1 (b.map b8) S) (hb : b.length = 64) (h8 : ∀ x ∈ b, x < 256) : Calls Tryd.prog 14 #[.agg #[uv (s).a, uv (s).b, uv (s).c, uv (s).d, uv (s).e, uv (s).f, uv (s).g, uv (s).h], v] w fun e w' => e = .returned (.agg #[uv (press s b).a, uv (press s b).b, uv (press s b).c, uv (press s b).d, uv (press s b).e, uv (press s b).f, uv (press s b).g, uv (press s b).h]) ∧ Bw w w' := by
  obtain ⟨M0, hM0⟩ : ∃ M0, row16 b 16 = M0 := ⟨_, rfl⟩
  have hM0l : M0.length = 16 := by rw [← hM0, row16_len]
  obtain ⟨Wd, hWd⟩ : ∃ Wd, more M0 48 = Wd := ⟨_, rfl⟩
  have hWl : Wd.length = 64 := by rw [← hWd, more_len, hM0l]
  have hs1 : ∀ i, i < 16 → (WL (row16 b i)).take i ++ (uv (wordAt b i)).cells.toList ++ (WL (row16 b i)).drop (i + 1) = WL (row16 b (i + 1)) := fun i hi => by
    have := WL_set (l := row16 b i) (wordAt b i) (by rw [row16_len]; omega)
    rw [row16_len] at this
    exact this
  go_enter Tryd.func14, Tryd.ntmps14
  refine ve_go ?_
  simp only [List.map_cons, List.map_nil]
  refine vseq ?_
  apply vrp
  · apply VE.cons
    · exact ev_box rfl rfl (gn rfl) rfl
    simp only [nm, seval]
    apply VE.cons
    · exact ev_alloc rfl rfl (gn rfl) Tryd.zeroValue40
    simp only [nm, seval]
    exact VE.nil _
  · kernel_rfl
  change VOk _ _ _ _ _
  refine vseq ?_
  apply vrp
  · apply VE.cons
    · exact ev_allocr (l := WL []) rfl rfl (gn rfl) Tryd.zeroValue50 rfl
    simp only [nm, seval]
    exact VE.nil _
  · kernel_rfl
  change VOk _ _ _ _ _
  refine vseq ?_
  refine vseq ?_
  apply vrp
  · apply VE.cons
    · exact ev_move rfl (gn rfl)
    simp only [nm, seval]
    exact VE.nil _
  · kernel_rfl
  change VOk _ _ _ _ _
  refine vblock ?_
  refine vloop_w (α := {i : Nat // i ≤ 16}) (fun (x : {i : Nat // i ≤ 16}) f => ⟨[.v (f 0), .v v, .p 2 0, .v (f 3), .p 4 0, .p 5 0, .v (f 6), .v (f 7), .v (f 8), .v (f 9), .v (f 10), .v (f 11), .v (f 12), .v (f 13), .v (f 14), .v (f 15), .v (f 16), .v (f 17), .v (f 18), .v (f 19), .v (f 20), .v (f 21), .v (.int .i64 (x.1 : Nat)), .v (f 23), .v (f 24), .v (f 25), .v (f 26), .v (f 27), .v (f 28), .v (f 29), .v (f 30), .v (f 31), .v (f 32), .v (f 33), .v (f 34), .v (f 35), .v (f 36), .v (f 37), .v (f 38), .v (f 39), .v (f 40), .v (f 41), .v (f 42), .v (f 43), .v (f 44), .v (f 45), .v (f 46), .v (f 47), .v (f 48), .v (f 49), .v (f 50), .v (f 51), .v (f 52), .v (f 53), .v (f 54), .v (f 55), .v (f 56), .v (f 57), .v (f 58), .v (f 59), .v (f 60), .v (f 61), .v (f 62), .v (f 63), .v (f 64), .v (f 65), .v (f 66), .v (f 67), .v (f 68), .v (f 69), .v (f 70), .v (f 71), .v (f 72), .v (f 73), .v (f 74), .v (f 75), .v (f 76), .v (f 77), .v (f 78), .v (f 79), .v (f 80), .v (f 81), .v (f 82), .v (f 83), .v (f 84), .v (f 85), .v (f 86), .v (f 87), .v (f 88), .v (f 89), .v (f 90), .v (f 91), .v (f 92), .v (f 93), .v (f 94), .v (f 95), .v (f 96), .v (f 97), .v (f 98), .v (f 99), .v (f 100), .v (f 101), .v (f 102), .v (f 103), .v (f 104), .v (f 105), .v (f 106), .v (f 107), .v (f 108), .v (f 109), .v (f 110), .v (f 111), .v (f 112), .v (f 113), .v (f 114), .v (f 115), .v (f 116), .v (f 117), .v (f 118), .v (f 119), .v (f 120), .v (f 121), .v (f 122), .v (f 123), .v (f 124), .v (f 125), .v (f 126), .v (f 127), .v (f 128), .v (f 129), .v (f 130), .v (f 131), .v (f 132), .v (f 133), .v (f 134), .v (f 135), .v (f 136), .v (f 137), .v (f 138), .v (f 139), .v (f 140), .v (f 141), .v (f 142), .v (f 143), .v (f 144), .v (f 145), .v (f 146), .v (f 147), .v (f 148), .v (f 149), .v (f 150), .v (f 151), .v (f 152), .v (f 153), .v (f 154), .v (f 155), .v (f 156), .v (f 157), .v (f 158), .v (f 159), .v (f 160), .v (f 161), .v (f 162), .v (f 163), .v (f 164), .v (f 165), .v (f 166), .v (f 167), .v (f 168), .v (f 169), .v (f 170), .v (f 171), .v (f 172), .v (f 173), .v (f 174), .v (f 175), .v (f 176), .v (f 177), .v (f 178), .v (f 179), .v (f 180), .v (f 181), .v (f 182), .v (f 183), .v (f 184), .v (f 185), .v (f 186), .v (f 187), .v (f 188), .v (f 189), .v (f 190), .v (f 191), .v (f 192), .v (f 193), .v (f 194), .v (f 195), .v (f 196), .v (f 197), .v (f 198), .v (f 199), .v (f 200), .v (f 201), .v (f 202), .v (f 203), .v (f 204), .v (f 205), .v (f 206)], memOf [(5, .arr (WL (row16 b x.1)) 50), (4, .cells [.v (.int .u32 0), .v (.int .u32 0), .v (.int .u32 0), .v (.int .u32 0), .v (.int .u32 0), .v (.int .u32 0), .v (.int .u32 0), .v (.int .u32 0)] 40), (2, .cells [.v (uv s.a), .v (uv s.b), .v (uv s.c), .v (uv s.d), .v (uv s.e), .v (uv s.f), .v (uv s.g), .v (uv s.h)] 40)]⟩) (fun x => 16 - x.1) ?_ (⟨0, Nat.zero_le _⟩) ?_
  · rintro ⟨i, hi⟩ f
    obtain ⟨q, h_q⟩ : ∃ q, decide (i < 16) = q := ⟨_, rfl⟩
    have h_q' := (nat_lt i 16).trans h_q
    change VOk _ _ _ _ _
    refine vseq ?_
    apply vrp
    · apply VE.cons
      · exact ev_lss rfl (gn rfl) rfl rfl h_q'
      simp only [nm, seval]
      exact VE.nil _
    · kernel_rfl
    change VOk _ _ _ _ _
    refine vseq ?_
    cases q
    · refine vcond_f rfl ?_
      have h16 : i = 16 := by have := of_decide_eq_false h_q; omega
      subst h16
      rw [hM0]
      refine vexit ?_
      change VOk _ _ _ _ _
      refine vseq ?_
      refine vseq ?_
      apply vrp
      · apply VE.cons
        · exact ev_assign rfl (gn rfl)
        simp only [nm, seval]
        exact VE.nil _
      · kernel_rfl
      change VOk _ _ _ _ _
      refine vblock ?_
      refine vloop_w (α := {i : Nat // i ≤ 48}) (fun (x : {i : Nat // i ≤ 48}) f => ⟨[.v (f 0), .v (f 1), .p 2 0, .v (f 3), .p 4 0, .p 5 0, .v (f 6), .v (f 7), .v (.int .i64 ((16 + x.1 : Nat) : Int)), .v (f 9), .v (f 10), .v (f 11), .v (f 12), .v (f 13), .v (f 14), .v (f 15), .v (f 16), .v (f 17), .v (f 18), .v (f 19), .v (f 20), .v (f 21), .v (f 22), .v (f 23), .v (f 24), .v (f 25), .v (f 26), .v (f 27), .v (f 28), .v (f 29), .v (f 30), .v (f 31), .v (f 32), .v (f 33), .v (f 34), .v (f 35), .v (f 36), .v (f 37), .v (f 38), .v (f 39), .v (f 40), .v (f 41), .v (f 42), .v (f 43), .v (f 44), .v (f 45), .v (f 46), .v (f 47), .v (f 48), .v (f 49), .v (f 50), .v (f 51), .v (f 52), .v (f 53), .v (f 54), .v (f 55), .v (f 56), .v (f 57), .v (f 58), .v (f 59), .v (f 60), .v (f 61), .v (f 62), .v (f 63), .v (f 64), .v (f 65), .v (f 66), .v (f 67), .v (f 68), .v (f 69), .v (f 70), .v (f 71), .v (f 72), .v (f 73), .v (f 74), .v (f 75), .v (f 76), .v (f 77), .v (f 78), .v (f 79), .v (f 80), .v (f 81), .v (f 82), .v (f 83), .v (f 84), .v (f 85), .v (f 86), .v (f 87), .v (f 88), .v (f 89), .v (f 90), .v (f 91), .v (f 92), .v (f 93), .v (f 94), .v (f 95), .v (f 96), .v (f 97), .v (f 98), .v (f 99), .v (f 100), .v (f 101), .v (f 102), .v (f 103), .v (f 104), .v (f 105), .v (f 106), .v (f 107), .v (f 108), .v (f 109), .v (f 110), .v (f 111), .v (f 112), .v (f 113), .v (f 114), .v (f 115), .v (f 116), .v (f 117), .v (f 118), .v (f 119), .v (f 120), .v (f 121), .v (f 122), .v (f 123), .v (f 124), .v (f 125), .v (f 126), .v (f 127), .v (f 128), .v (f 129), .v (f 130), .v (f 131), .v (f 132), .v (f 133), .v (f 134), .v (f 135), .v (f 136), .v (f 137), .v (f 138), .v (f 139), .v (f 140), .v (f 141), .v (f 142), .v (f 143), .v (f 144), .v (f 145), .v (f 146), .v (f 147), .v (f 148), .v (f 149), .v (f 150), .v (f 151), .v (f 152), .v (f 153), .v (f 154), .v (f 155), .v (f 156), .v (f 157), .v (f 158), .v (f 159), .v (f 160), .v (f 161), .v (f 162), .v (f 163), .v (f 164), .v (f 165), .v (f 166), .v (f 167), .v (f 168), .v (f 169), .v (f 170), .v (f 171), .v (f 172), .v (f 173), .v (f 174), .v (f 175), .v (f 176), .v (f 177), .v (f 178), .v (f 179), .v (f 180), .v (f 181), .v (f 182), .v (f 183), .v (f 184), .v (f 185), .v (f 186), .v (f 187), .v (f 188), .v (f 189), .v (f 190), .v (f 191), .v (f 192), .v (f 193), .v (f 194), .v (f 195), .v (f 196), .v (f 197), .v (f 198), .v (f 199), .v (f 200), .v (f 201), .v (f 202), .v (f 203), .v (f 204), .v (f 205), .v (f 206)], memOf [(5, .arr (WL (more M0 x.1)) 50), (4, .cells [.v (.int .u32 0), .v (.int .u32 0), .v (.int .u32 0), .v (.int .u32 0), .v (.int .u32 0), .v (.int .u32 0), .v (.int .u32 0), .v (.int .u32 0)] 40), (2, .cells [.v (uv s.a), .v (uv s.b), .v (uv s.c), .v (uv s.d), .v (uv s.e), .v (uv s.f), .v (uv s.g), .v (uv s.h)] 40)]⟩) (fun x => 48 - x.1) ?_ (⟨0, Nat.zero_le _⟩) ?_
      · rintro ⟨i, hi⟩ f
        obtain ⟨q2, h_q2⟩ : ∃ q, decide (16 + i < 64) = q := ⟨_, rfl⟩
        have h_q2' := (nat_lt (16 + i) 64).trans h_q2
        obtain ⟨M, hM⟩ : ∃ M, more M0 i = M := ⟨_, rfl⟩
        have hMl : M.length = 16 + i := by rw [← hM, more_len, hM0l]
        rw [hM]
        change VOk _ _ _ _ _
        refine vseq ?_
        refine vseq ?_
        apply vrp
        · apply VE.cons
          · exact ev_move rfl (gn rfl)
          simp only [nm, seval]
          apply VE.cons
          · exact ev_lss rfl (gn rfl) rfl rfl h_q2'
          simp only [nm, seval]
          exact VE.nil _
        · kernel_rfl
        change VOk _ _ _ _ _
        cases q2
        · refine vcond_f rfl ?_
          have h48 : i = 48 := by have := of_decide_eq_false h_q2; omega
          have hMs : M = Wd := by rw [← hM, h48]; exact hWd
          clear hM
          subst h48
          rw [hMs]
          refine vexit ?_
          change VOk _ _ _ _ _
          refine vseq ?_
          apply vrd (by kernel_rfl)
          · apply VE.cons
            · first | exact ev_index rfl (gn rfl) rfl rfl Tryd.underlying40 Tryd.sizeOf39 (by decide) (by decide) | exact ev_indexx rfl (gn rfl) rfl rfl Tryd.underlying40 Tryd.sizeOf39 (by decide) (by decide)
            simp only [nm, seval]
            apply VE.cons
            · first | exact ev_load1 rfl (gn rfl) rfl rfl Tryd.underlying39 rfl rfl | exact ev_loadx1 rfl (gn rfl) rfl Tryd.underlying39 rfl (by assumption)
            simp only [nm, seval]
            apply VE.cons
            · first | exact ev_index rfl (gn rfl) rfl rfl Tryd.underlying40 Tryd.sizeOf39 (by decide) (by decide) | exact ev_indexx rfl (gn rfl) rfl rfl Tryd.underlying40 Tryd.sizeOf39 (by decide) (by decide)
            simp only [nm, seval]
            apply VE.cons
            · first | exact ev_load1 rfl (gn rfl) rfl rfl Tryd.underlying39 rfl rfl | exact ev_loadx1 rfl (gn rfl) rfl Tryd.underlying39 rfl (by assumption)
            simp only [nm, seval]
            apply VE.cons
            · first | exact ev_index rfl (gn rfl) rfl rfl Tryd.underlying40 Tryd.sizeOf39 (by decide) (by decide) | exact ev_indexx rfl (gn rfl) rfl rfl Tryd.underlying40 Tryd.sizeOf39 (by decide) (by decide)
            simp only [nm, seval]
            apply VE.cons
            · first | exact ev_load1 rfl (gn rfl) rfl rfl Tryd.underlying39 rfl rfl | exact ev_loadx1 rfl (gn rfl) rfl Tryd.underlying39 rfl (by assumption)
            simp only [nm, seval]
            apply VE.cons
            · first | exact ev_index rfl (gn rfl) rfl rfl Tryd.underlying40 Tryd.sizeOf39 (by decide) (by decide) | exact ev_indexx rfl (gn rfl) rfl rfl Tryd.underlying40 Tryd.sizeOf39 (by decide) (by decide)
            simp only [nm, seval]
            apply VE.cons
            · first | exact ev_load1 rfl (gn rfl) rfl rfl Tryd.underlying39 rfl rfl | exact ev_loadx1 rfl (gn rfl) rfl Tryd.underlying39 rfl (by assumption)
            simp only [nm, seval]
            apply VE.cons
            · first | exact ev_index rfl (gn rfl) rfl rfl Tryd.underlying40 Tryd.sizeOf39 (by decide) (by decide) | exact ev_indexx rfl (gn rfl) rfl rfl Tryd.underlying40 Tryd.sizeOf39 (by decide) (by decide)
            simp only [nm, seval]
            apply VE.cons
            · first | exact ev_load1 rfl (gn rfl) rfl rfl Tryd.underlying39 rfl rfl | exact ev_loadx1 rfl (gn rfl) rfl Tryd.underlying39 rfl (by assumption)
            simp only [nm, seval]
            apply VE.cons
            · first | exact ev_index rfl (gn rfl) rfl rfl Tryd.underlying40 Tryd.sizeOf39 (by decide) (by decide) | exact ev_indexx rfl (gn rfl) rfl rfl Tryd.underlying40 Tryd.sizeOf39 (by decide) (by decide)
            simp only [nm, seval]
            apply VE.cons
            · first | exact ev_load1 rfl (gn rfl) rfl rfl Tryd.underlying39 rfl rfl | exact ev_loadx1 rfl (gn rfl) rfl Tryd.underlying39 rfl (by assumption)
            simp only [nm, seval]
            apply VE.cons
            · first | exact ev_index rfl (gn rfl) rfl rfl Tryd.underlying40 Tryd.sizeOf39 (by decide) (by decide) | exact ev_indexx rfl (gn rfl) rfl rfl Tryd.underlying40 Tryd.sizeOf39 (by decide) (by decide)
            simp only [nm, seval]
            apply VE.cons
            · first | exact ev_load1 rfl (gn rfl) rfl rfl Tryd.underlying39 rfl rfl | exact ev_loadx1 rfl (gn rfl) rfl Tryd.underlying39 rfl (by assumption)
            simp only [nm, seval]
            apply VE.cons
            · first | exact ev_index rfl (gn rfl) rfl rfl Tryd.underlying40 Tryd.sizeOf39 (by decide) (by decide) | exact ev_indexx rfl (gn rfl) rfl rfl Tryd.underlying40 Tryd.sizeOf39 (by decide) (by decide)
            simp only [nm, seval]
            apply VE.cons
            · first | exact ev_load1 rfl (gn rfl) rfl rfl Tryd.underlying39 rfl rfl | exact ev_loadx1 rfl (gn rfl) rfl Tryd.underlying39 rfl (by assumption)
            simp only [nm, seval]
            apply VE.cons
            · exact ev_assign rfl (gn rfl)
            simp only [nm, seval]
            apply VE.cons
            · exact ev_assign rfl (gn rfl)
            simp only [nm, seval]
            apply VE.cons
            · exact ev_assign rfl (gn rfl)
            simp only [nm, seval]
            apply VE.cons
            · exact ev_assign rfl (gn rfl)
            simp only [nm, seval]
            apply VE.cons
            · exact ev_assign rfl (gn rfl)
            simp only [nm, seval]
            apply VE.cons
            · exact ev_assign rfl (gn rfl)
            simp only [nm, seval]
            apply VE.cons
            · exact ev_assign rfl (gn rfl)
            simp only [nm, seval]
            apply VE.cons
            · exact ev_assign rfl (gn rfl)
            simp only [nm, seval]
            exact VE.nil _
          · kernel_rfl
          change VOk _ _ _ _ _
          refine vseq ?_
          refine vseq ?_
          apply vrp
          · apply VE.cons
            · exact ev_move rfl (gn rfl)
            simp only [nm, seval]
            exact VE.nil _
          · kernel_rfl
          change VOk _ _ _ _ _
          refine vblock ?_
          refine vloop_w (α := {i : Nat // i ≤ 64}) (fun (x : {i : Nat // i ≤ 64}) f => ⟨[.v (f 0), .v (f 1), .p 2 0, .v (f 3), .p 4 0, .p 5 0, .v (f 6), .v (f 7), .v (f 8), .v (f 9), .v (f 10), .v (uv (St.run Wd s x.1).a), .v (uv (St.run Wd s x.1).b), .v (uv (St.run Wd s x.1).c), .v (uv (St.run Wd s x.1).d), .v (uv (St.run Wd s x.1).e), .v (uv (St.run Wd s x.1).f), .v (uv (St.run Wd s x.1).g), .v (uv (St.run Wd s x.1).h), .v (f 19), .v (f 20), .v (f 21), .v (f 22), .v (f 23), .v (f 24), .v (f 25), .v (f 26), .v (f 27), .v (f 28), .v (f 29), .v (f 30), .v (f 31), .v (f 32), .v (f 33), .v (f 34), .v (f 35), .v (f 36), .v (f 37), .v (f 38), .v (f 39), .v (f 40), .v (f 41), .v (f 42), .v (f 43), .v (f 44), .v (f 45), .v (f 46), .v (f 47), .v (f 48), .v (f 49), .v (f 50), .v (f 51), .v (f 52), .v (f 53), .v (f 54), .v (f 55), .v (f 56), .v (f 57), .v (f 58), .v (f 59), .v (f 60), .v (f 61), .v (f 62), .v (f 63), .v (f 64), .v (f 65), .v (f 66), .v (f 67), .v (f 68), .v (f 69), .v (f 70), .v (f 71), .v (f 72), .v (f 73), .v (f 74), .v (f 75), .v (f 76), .v (f 77), .v (f 78), .v (f 79), .v (f 80), .v (f 81), .v (f 82), .v (f 83), .v (f 84), .v (f 85), .v (f 86), .v (f 87), .v (f 88), .v (f 89), .v (f 90), .v (f 91), .v (f 92), .v (f 93), .v (f 94), .v (f 95), .v (f 96), .v (f 97), .v (f 98), .v (f 99), .v (f 100), .v (f 101), .v (f 102), .v (f 103), .v (f 104), .v (f 105), .v (f 106), .v (f 107), .v (f 108), .v (f 109), .v (f 110), .v (f 111), .v (f 112), .v (f 113), .v (.int .i64 (x.1 : Nat)), .v (f 115), .v (f 116), .v (f 117), .v (f 118), .v (f 119), .v (f 120), .v (f 121), .v (f 122), .v (f 123), .v (f 124), .v (f 125), .v (f 126), .v (f 127), .v (f 128), .v (f 129), .v (f 130), .v (f 131), .v (f 132), .v (f 133), .v (f 134), .v (f 135), .v (f 136), .v (f 137), .v (f 138), .v (f 139), .v (f 140), .v (f 141), .v (f 142), .v (f 143), .v (f 144), .v (f 145), .v (f 146), .v (f 147), .v (f 148), .v (f 149), .v (f 150), .v (f 151), .v (f 152), .v (f 153), .v (f 154), .v (f 155), .v (f 156), .v (f 157), .v (f 158), .v (f 159), .v (f 160), .v (f 161), .v (f 162), .v (f 163), .v (f 164), .v (f 165), .v (f 166), .v (f 167), .v (f 168), .v (f 169), .v (f 170), .v (f 171), .v (f 172), .v (f 173), .v (f 174), .v (f 175), .v (f 176), .v (f 177), .v (f 178), .v (f 179), .v (f 180), .v (f 181), .v (f 182), .v (f 183), .v (f 184), .v (f 185), .v (f 186), .v (f 187), .v (f 188), .v (f 189), .v (f 190), .v (f 191), .v (f 192), .v (f 193), .v (f 194), .v (f 195), .v (f 196), .v (f 197), .v (f 198), .v (f 199), .v (f 200), .v (f 201), .v (f 202), .v (f 203), .v (f 204), .v (f 205), .v (f 206)], memOf [(5, .arr (WL (Wd)) 50), (4, .cells [.v (.int .u32 0), .v (.int .u32 0), .v (.int .u32 0), .v (.int .u32 0), .v (.int .u32 0), .v (.int .u32 0), .v (.int .u32 0), .v (.int .u32 0)] 40), (2, .cells [.v (uv s.a), .v (uv s.b), .v (uv s.c), .v (uv s.d), .v (uv s.e), .v (uv s.f), .v (uv s.g), .v (uv s.h)] 40)]⟩) (fun x => 64 - x.1) ?_ (⟨0, Nat.zero_le _⟩) ?_
          · rintro ⟨j, hj⟩ f
            obtain ⟨q3, h_q3⟩ : ∃ q, decide (j < 64) = q := ⟨_, rfl⟩
            have h_q3' := (nat_lt j 64).trans h_q3
            obtain ⟨Q, hQ⟩ : ∃ Q, St.run Wd s j = Q := ⟨_, rfl⟩
            rw [hQ]
            change VOk _ _ _ _ _
            refine vseq ?_
            apply vrp
            · apply VE.cons
              · exact ev_lss rfl (gn rfl) rfl rfl h_q3'
              simp only [nm, seval]
              exact VE.nil _
            · kernel_rfl
            change VOk _ _ _ _ _
            refine vseq ?_
            cases q3
            · refine vcond_f rfl ?_
              have h64 : j = 64 := by have := of_decide_eq_false h_q3; omega
              subst h64
              refine vexit ?_
              change VOk _ _ _ _ _
              refine vseq ?_
              apply vrp
              · apply VE.cons
                · first | exact ev_index rfl (gn rfl) rfl rfl Tryd.underlying40 Tryd.sizeOf39 (by decide) (by decide) | exact ev_indexx rfl (gn rfl) rfl rfl Tryd.underlying40 Tryd.sizeOf39 (by decide) (by decide)
                simp only [nm, seval]
                apply VE.cons
                · first | exact ev_load1 rfl (gn rfl) rfl rfl Tryd.underlying39 rfl rfl | exact ev_loadx1 rfl (gn rfl) rfl Tryd.underlying39 rfl (by assumption)
                simp only [nm, seval]
                apply VE.cons
                · exact ev_move rfl (gn rfl)
                simp only [nm, seval]
                apply VE.cons
                · exact ev_bin rfl (gn rfl) rfl rfl (fun w => add32 _ _ _ _ w)
                simp only [nm, seval]
                apply VE.cons
                · first | exact ev_index rfl (gn rfl) rfl rfl Tryd.underlying40 Tryd.sizeOf39 (by decide) (by decide) | exact ev_indexx rfl (gn rfl) rfl rfl Tryd.underlying40 Tryd.sizeOf39 (by decide) (by decide)
                simp only [nm, seval]
                apply VE.cons
                · first | exact ev_load1 rfl (gn rfl) rfl rfl Tryd.underlying39 rfl rfl | exact ev_loadx1 rfl (gn rfl) rfl Tryd.underlying39 rfl (by assumption)
                simp only [nm, seval]
                apply VE.cons
                · exact ev_move rfl (gn rfl)
                simp only [nm, seval]
                apply VE.cons
                · exact ev_bin rfl (gn rfl) rfl rfl (fun w => add32 _ _ _ _ w)
                simp only [nm, seval]
                apply VE.cons
                · first | exact ev_index rfl (gn rfl) rfl rfl Tryd.underlying40 Tryd.sizeOf39 (by decide) (by decide) | exact ev_indexx rfl (gn rfl) rfl rfl Tryd.underlying40 Tryd.sizeOf39 (by decide) (by decide)
                simp only [nm, seval]
                apply VE.cons
                · first | exact ev_load1 rfl (gn rfl) rfl rfl Tryd.underlying39 rfl rfl | exact ev_loadx1 rfl (gn rfl) rfl Tryd.underlying39 rfl (by assumption)
                simp only [nm, seval]
                apply VE.cons
                · exact ev_move rfl (gn rfl)
                simp only [nm, seval]
                apply VE.cons
                · exact ev_bin rfl (gn rfl) rfl rfl (fun w => add32 _ _ _ _ w)
                simp only [nm, seval]
                apply VE.cons
                · first | exact ev_index rfl (gn rfl) rfl rfl Tryd.underlying40 Tryd.sizeOf39 (by decide) (by decide) | exact ev_indexx rfl (gn rfl) rfl rfl Tryd.underlying40 Tryd.sizeOf39 (by decide) (by decide)
                simp only [nm, seval]
                apply VE.cons
                · first | exact ev_load1 rfl (gn rfl) rfl rfl Tryd.underlying39 rfl rfl | exact ev_loadx1 rfl (gn rfl) rfl Tryd.underlying39 rfl (by assumption)
                simp only [nm, seval]
                apply VE.cons
                · exact ev_move rfl (gn rfl)
                simp only [nm, seval]
                apply VE.cons
                · exact ev_bin rfl (gn rfl) rfl rfl (fun w => add32 _ _ _ _ w)
                simp only [nm, seval]
                apply VE.cons
                · first | exact ev_index rfl (gn rfl) rfl rfl Tryd.underlying40 Tryd.sizeOf39 (by decide) (by decide) | exact ev_indexx rfl (gn rfl) rfl rfl Tryd.underlying40 Tryd.sizeOf39 (by decide) (by decide)
                simp only [nm, seval]
                apply VE.cons
                · first | exact ev_load1 rfl (gn rfl) rfl rfl Tryd.underlying39 rfl rfl | exact ev_loadx1 rfl (gn rfl) rfl Tryd.underlying39 rfl (by assumption)
                simp only [nm, seval]
                apply VE.cons
                · exact ev_move rfl (gn rfl)
                simp only [nm, seval]
                apply VE.cons
                · exact ev_bin rfl (gn rfl) rfl rfl (fun w => add32 _ _ _ _ w)
                simp only [nm, seval]
                apply VE.cons
                · first | exact ev_index rfl (gn rfl) rfl rfl Tryd.underlying40 Tryd.sizeOf39 (by decide) (by decide) | exact ev_indexx rfl (gn rfl) rfl rfl Tryd.underlying40 Tryd.sizeOf39 (by decide) (by decide)
                simp only [nm, seval]
                apply VE.cons
                · first | exact ev_load1 rfl (gn rfl) rfl rfl Tryd.underlying39 rfl rfl | exact ev_loadx1 rfl (gn rfl) rfl Tryd.underlying39 rfl (by assumption)
                simp only [nm, seval]
                apply VE.cons
                · exact ev_move rfl (gn rfl)
                simp only [nm, seval]
                apply VE.cons
                · exact ev_bin rfl (gn rfl) rfl rfl (fun w => add32 _ _ _ _ w)
                simp only [nm, seval]
                apply VE.cons
                · first | exact ev_index rfl (gn rfl) rfl rfl Tryd.underlying40 Tryd.sizeOf39 (by decide) (by decide) | exact ev_indexx rfl (gn rfl) rfl rfl Tryd.underlying40 Tryd.sizeOf39 (by decide) (by decide)
                simp only [nm, seval]
                apply VE.cons
                · first | exact ev_load1 rfl (gn rfl) rfl rfl Tryd.underlying39 rfl rfl | exact ev_loadx1 rfl (gn rfl) rfl Tryd.underlying39 rfl (by assumption)
                simp only [nm, seval]
                apply VE.cons
                · exact ev_move rfl (gn rfl)
                simp only [nm, seval]
                apply VE.cons
                · exact ev_bin rfl (gn rfl) rfl rfl (fun w => add32 _ _ _ _ w)
                simp only [nm, seval]
                apply VE.cons
                · first | exact ev_index rfl (gn rfl) rfl rfl Tryd.underlying40 Tryd.sizeOf39 (by decide) (by decide) | exact ev_indexx rfl (gn rfl) rfl rfl Tryd.underlying40 Tryd.sizeOf39 (by decide) (by decide)
                simp only [nm, seval]
                apply VE.cons
                · first | exact ev_load1 rfl (gn rfl) rfl rfl Tryd.underlying39 rfl rfl | exact ev_loadx1 rfl (gn rfl) rfl Tryd.underlying39 rfl (by assumption)
                simp only [nm, seval]
                apply VE.cons
                · exact ev_move rfl (gn rfl)
                simp only [nm, seval]
                apply VE.cons
                · exact ev_bin rfl (gn rfl) rfl rfl (fun w => add32 _ _ _ _ w)
                simp only [nm, seval]
                apply VE.cons
                · exact ev_build rfl (gn rfl) rfl (built40 _ _ _ _ _ _ _ _)
                simp only [nm, seval]
                apply VE.cons
                · exact ev_store rfl (gn rfl) rfl rfl rfl Tryd.sizeOf40 rfl (by simp) rfl
                simp only [nm, seval]
                exact VE.nil _
              · kernel_rfl
              change VOk _ _ _ _ _
              refine vret ?_
              refine post_ret (res1 Tryd.results14 (rv_cell rfl rfl Tryd.underlying40 rfl Tryd.sizeOf40 rfl rfl)) ?_
              intro ρ w' hr
              refine ⟨?_, hr.1⟩
              have e : press s b = s.add Q := by unfold press sched; rw [hM0, hWd, hQ]
              rw [e]
              rfl
            · refine vcond_t rfl ?_
              have hlt : j < 64 := of_decide_eq_true h_q3
              refine vskip ?_
              change VOk _ _ _ _ _
              refine vseq ?_
              refine vblock ?_
              refine vseq ?_
              apply vrp
              · apply VE.cons
                · exact ev_move rfl (gn rfl)
                simp only [nm, seval]
                apply VE.cons
                · exact ev_assign rfl (gn rfl)
                simp only [nm, seval]
                exact VE.nil _
              · kernel_rfl
              change VOk _ _ _ _ _
              refine vseq ?_
              apply vrd (by kernel_rfl)
              · apply VE.cons
                · exact ev_move rfl (gn rfl)
                simp only [nm, seval]
                apply VE.cons
                · exact ev_move rfl (gn rfl)
                simp only [nm, seval]
                apply VE.cons
                · exact ev_callb (v := uv (rr (Q.e) 6)) rfl (gn rfl) rfl (en_of Tryd.func21 (by kernel_rfl) rfl) (fun w' hb => right_ok (Q.e) (by decide) (by decide) w')
                simp only [nm, seval]
                apply VE.cons
                · exact ev_move rfl (gn rfl)
                simp only [nm, seval]
                apply VE.cons
                · exact ev_callb (v := uv (rr (Q.e) 11)) rfl (gn rfl) rfl (en_of Tryd.func21 (by kernel_rfl) rfl) (fun w' hb => right_ok (Q.e) (by decide) (by decide) w')
                simp only [nm, seval]
                apply VE.cons
                · exact ev_bin rfl (gn rfl) rfl rfl (fun w => xor32 _ _ _ _ w)
                simp only [nm, seval]
                apply VE.cons
                · exact ev_move rfl (gn rfl)
                simp only [nm, seval]
                apply VE.cons
                · exact ev_callb (v := uv (rr (Q.e) 25)) rfl (gn rfl) rfl (en_of Tryd.func21 (by kernel_rfl) rfl) (fun w' hb => right_ok (Q.e) (by decide) (by decide) w')
                simp only [nm, seval]
                apply VE.cons
                · exact ev_bin rfl (gn rfl) rfl rfl (fun w => xor32 _ _ _ _ w)
                simp only [nm, seval]
                apply VE.cons
                · exact ev_bin rfl (gn rfl) rfl rfl (fun w => add32 _ _ _ _ w)
                simp only [nm, seval]
                apply VE.cons
                · exact ev_move rfl (gn rfl)
                simp only [nm, seval]
                apply VE.cons
                · exact ev_move rfl (gn rfl)
                simp only [nm, seval]
                apply VE.cons
                · exact ev_move rfl (gn rfl)
                simp only [nm, seval]
                apply VE.cons
                · exact ev_move rfl (gn rfl)
                simp only [nm, seval]
                apply VE.cons
                · exact ev_bin rfl (gn rfl) rfl rfl (fun w => xor32 _ _ _ _ w)
                simp only [nm, seval]
                apply VE.cons
                · exact ev_bin rfl (gn rfl) rfl rfl (fun w => and32 _ _ _ _ w)
                simp only [nm, seval]
                apply VE.cons
                · exact ev_bin rfl (gn rfl) rfl rfl (fun w => xor32 _ _ _ _ w)
                simp only [nm, seval]
                apply VE.cons
                · exact ev_bin rfl (gn rfl) rfl rfl (fun w => add32 _ _ _ _ w)
                simp only [nm, seval]
                apply VE.cons
                · exact ev_move rfl (gn rfl)
                simp only [nm, seval]
                apply VE.cons
                · exact ev_indexxn (k := j) (j := j) rfl (gn rfl) rfl rfl Tryd.underlying50 Tryd.sizeOf39 (by omega) (by omega)
                simp only [nm, seval]
                apply VE.cons
                · exact ev_loadx1 rfl (gn rfl) rfl Tryd.underlying39 rfl (hL j (by omega))
                simp only [nm, seval]
                apply VE.cons
                · exact ev_bin rfl (gn rfl) rfl rfl (fun w => add32 _ _ _ _ w)
                simp only [nm, seval]
                apply VE.cons
                · exact ev_move rfl (gn rfl)
                simp only [nm, seval]
                apply VE.cons
                · exact ev_indexn (k := j) (j := j) rfl (gn rfl) rfl rfl Tryd.underlying50 Tryd.sizeOf39 (by omega) (by omega)
                simp only [nm, seval]
                apply VE.cons
                · exact ev_load1r (v := uv (Wd.getD j 0#32)) rfl (gn rfl) rfl rfl Tryd.underlying39 rfl (WL_get (by omega))
                simp only [nm, seval]
                apply VE.cons
                · exact ev_bin rfl (gn rfl) rfl rfl (fun w => add32 _ _ _ _ w)
                simp only [nm, seval]
                apply VE.cons
                · exact ev_assign rfl (gn rfl)
                simp only [nm, seval]
                exact VE.nil _
              · kernel_rfl
              change VOk _ _ _ _ _
              refine vseq ?_
              apply vrp
              · apply VE.cons
                · exact ev_move rfl (gn rfl)
                simp only [nm, seval]
                apply VE.cons
                · exact ev_callb (v := uv (rr (Q.a) 2)) rfl (gn rfl) rfl (en_of Tryd.func21 (by kernel_rfl) rfl) (fun w' hb => right_ok (Q.a) (by decide) (by decide) w')
                simp only [nm, seval]
                apply VE.cons
                · exact ev_move rfl (gn rfl)
                simp only [nm, seval]
                apply VE.cons
                · exact ev_callb (v := uv (rr (Q.a) 13)) rfl (gn rfl) rfl (en_of Tryd.func21 (by kernel_rfl) rfl) (fun w' hb => right_ok (Q.a) (by decide) (by decide) w')
                simp only [nm, seval]
                apply VE.cons
                · exact ev_bin rfl (gn rfl) rfl rfl (fun w => xor32 _ _ _ _ w)
                simp only [nm, seval]
                apply VE.cons
                · exact ev_move rfl (gn rfl)
                simp only [nm, seval]
                apply VE.cons
                · exact ev_callb (v := uv (rr (Q.a) 22)) rfl (gn rfl) rfl (en_of Tryd.func21 (by kernel_rfl) rfl) (fun w' hb => right_ok (Q.a) (by decide) (by decide) w')
                simp only [nm, seval]
                apply VE.cons
                · exact ev_bin rfl (gn rfl) rfl rfl (fun w => xor32 _ _ _ _ w)
                simp only [nm, seval]
                apply VE.cons
                · exact ev_move rfl (gn rfl)
                simp only [nm, seval]
                apply VE.cons
                · exact ev_move rfl (gn rfl)
                simp only [nm, seval]
                apply VE.cons
                · exact ev_bin rfl (gn rfl) rfl rfl (fun w => and32 _ _ _ _ w)
                simp only [nm, seval]
                apply VE.cons
                · exact ev_move rfl (gn rfl)
                simp only [nm, seval]
                apply VE.cons
                · exact ev_move rfl (gn rfl)
                simp only [nm, seval]
                apply VE.cons
                · exact ev_move rfl (gn rfl)
                simp only [nm, seval]
                apply VE.cons
                · exact ev_bin rfl (gn rfl) rfl rfl (fun w => or32 _ _ _ _ w)
                simp only [nm, seval]
                apply VE.cons
                · exact ev_bin rfl (gn rfl) rfl rfl (fun w => and32 _ _ _ _ w)
                simp only [nm, seval]
                apply VE.cons
                · exact ev_bin rfl (gn rfl) rfl rfl (fun w => or32 _ _ _ _ w)
                simp only [nm, seval]
                apply VE.cons
                · exact ev_bin rfl (gn rfl) rfl rfl (fun w => add32 _ _ _ _ w)
                simp only [nm, seval]
                apply VE.cons
                · exact ev_assign rfl (gn rfl)
                simp only [nm, seval]
                exact VE.nil _
              · kernel_rfl
              change VOk _ _ _ _ _
              apply vrp
              · apply VE.cons
                · exact ev_move rfl (gn rfl)
                simp only [nm, seval]
                apply VE.cons
                · exact ev_move rfl (gn rfl)
                simp only [nm, seval]
                apply VE.cons
                · exact ev_move rfl (gn rfl)
                simp only [nm, seval]
                apply VE.cons
                · exact ev_move rfl (gn rfl)
                simp only [nm, seval]
                apply VE.cons
                · exact ev_move rfl (gn rfl)
                simp only [nm, seval]
                apply VE.cons
                · exact ev_bin rfl (gn rfl) rfl rfl (fun w => add32 _ _ _ _ w)
                simp only [nm, seval]
                apply VE.cons
                · exact ev_move rfl (gn rfl)
                simp only [nm, seval]
                apply VE.cons
                · exact ev_move rfl (gn rfl)
                simp only [nm, seval]
                apply VE.cons
                · exact ev_move rfl (gn rfl)
                simp only [nm, seval]
                apply VE.cons
                · exact ev_move rfl (gn rfl)
                simp only [nm, seval]
                apply VE.cons
                · exact ev_move rfl (gn rfl)
                simp only [nm, seval]
                apply VE.cons
                · exact ev_bin rfl (gn rfl) rfl rfl (fun w => add32 _ _ _ _ w)
                simp only [nm, seval]
                apply VE.cons
                · exact ev_assign rfl (gn rfl)
                simp only [nm, seval]
                apply VE.cons
                · exact ev_assign rfl (gn rfl)
                simp only [nm, seval]
                apply VE.cons
                · exact ev_assign rfl (gn rfl)
                simp only [nm, seval]
                apply VE.cons
                · exact ev_assign rfl (gn rfl)
                simp only [nm, seval]
                apply VE.cons
                · exact ev_assign rfl (gn rfl)
                simp only [nm, seval]
                apply VE.cons
                · exact ev_assign rfl (gn rfl)
                simp only [nm, seval]
                apply VE.cons
                · exact ev_assign rfl (gn rfl)
                simp only [nm, seval]
                apply VE.cons
                · exact ev_assign rfl (gn rfl)
                simp only [nm, seval]
                exact VE.nil _
              · kernel_rfl
              change VOk _ _ _ _ _
              apply vrp
              · apply VE.cons
                · exact ev_add (c := ((j + 1 : Nat) : Int)) rfl (gn rfl) rfl rfl (by rw [i64w (by omega) (by omega)]; omega)
                simp only [nm, seval]
                apply VE.cons
                · exact ev_move rfl (gn rfl)
                simp only [nm, seval]
                exact VE.nil _
              · kernel_rfl
              refine ⟨⟨j + 1, by omega⟩, by show 64 - (j + 1) < 64 - j; omega, ?_⟩
              have hst : St.run Wd s (j + 1) = Q.step (K.getD j 0#32) (Wd.getD j 0#32) := by rw [← hQ]; rfl
              simp only [hst]
              exact weaker_forget (fun i => i == 2 || i == 4 || i == 5 || i == 11 || i == 12 || i == 13 || i == 14 || i == 15 || i == 16 || i == 17 || i == 18 || i == 114) []
          · exact weaker_forget (fun i => i == 2 || i == 4 || i == 5 || i == 11 || i == 12 || i == 13 || i == 14 || i == 15 || i == 16 || i == 17 || i == 18 || i == 114) []
        · refine vcond_t rfl ?_
          have hlt : 16 + i < 64 := of_decide_eq_true h_q2
          refine vskip ?_
          change VOk _ _ _ _ _
          refine vseq ?_
          refine vblock ?_
          refine vseq ?_
          apply vrd (by kernel_rfl)
          · apply VE.cons
            · exact ev_move rfl (gn rfl)
            simp only [nm, seval]
            apply VE.cons
            · exact ev_sub (c := ((1 + i : Nat) : Int)) rfl (gn rfl) rfl rfl (by rw [i64w (by omega) (by omega)]; omega)
            simp only [nm, seval]
            apply VE.cons
            · exact ev_indexn (k := 1 + i) (j := 1 + i) rfl (gn rfl) rfl rfl Tryd.underlying50 Tryd.sizeOf39 (by omega) (by omega)
            simp only [nm, seval]
            apply VE.cons
            · exact ev_load1r (v := uv (M.getD (1 + i) 0#32)) rfl (gn rfl) rfl rfl Tryd.underlying39 rfl (WL_get (by omega))
            simp only [nm, seval]
            apply VE.cons
            · exact ev_move rfl (gn rfl)
            simp only [nm, seval]
            apply VE.cons
            · exact ev_sub (c := ((14 + i : Nat) : Int)) rfl (gn rfl) rfl rfl (by rw [i64w (by omega) (by omega)]; omega)
            simp only [nm, seval]
            apply VE.cons
            · exact ev_indexn (k := 14 + i) (j := 14 + i) rfl (gn rfl) rfl rfl Tryd.underlying50 Tryd.sizeOf39 (by omega) (by omega)
            simp only [nm, seval]
            apply VE.cons
            · exact ev_load1r (v := uv (M.getD (14 + i) 0#32)) rfl (gn rfl) rfl rfl Tryd.underlying39 rfl (WL_get (by omega))
            simp only [nm, seval]
            apply VE.cons
            · exact ev_assign rfl (gn rfl)
            simp only [nm, seval]
            apply VE.cons
            · exact ev_assign rfl (gn rfl)
            simp only [nm, seval]
            exact VE.nil _
          · kernel_rfl
          change VOk _ _ _ _ _
          apply vrd (by kernel_rfl)
          · apply VE.cons
            · exact ev_move rfl (gn rfl)
            simp only [nm, seval]
            apply VE.cons
            · exact ev_move rfl (gn rfl)
            simp only [nm, seval]
            apply VE.cons
            · exact ev_sub (c := ((i : Nat) : Int)) rfl (gn rfl) rfl rfl (by rw [i64w (by omega) (by omega)]; omega)
            simp only [nm, seval]
            apply VE.cons
            · exact ev_indexn (k := i) (j := i) rfl (gn rfl) rfl rfl Tryd.underlying50 Tryd.sizeOf39 (by omega) (by omega)
            simp only [nm, seval]
            apply VE.cons
            · exact ev_load1r (v := uv (M.getD i 0#32)) rfl (gn rfl) rfl rfl Tryd.underlying39 rfl (WL_get (by omega))
            simp only [nm, seval]
            apply VE.cons
            · exact ev_move rfl (gn rfl)
            simp only [nm, seval]
            apply VE.cons
            · exact ev_sub (c := ((9 + i : Nat) : Int)) rfl (gn rfl) rfl rfl (by rw [i64w (by omega) (by omega)]; omega)
            simp only [nm, seval]
            apply VE.cons
            · exact ev_indexn (k := 9 + i) (j := 9 + i) rfl (gn rfl) rfl rfl Tryd.underlying50 Tryd.sizeOf39 (by omega) (by omega)
            simp only [nm, seval]
            apply VE.cons
            · exact ev_load1r (v := uv (M.getD (9 + i) 0#32)) rfl (gn rfl) rfl rfl Tryd.underlying39 rfl (WL_get (by omega))
            simp only [nm, seval]
            apply VE.cons
            · exact ev_bin rfl (gn rfl) rfl rfl (fun w => add32 _ _ _ _ w)
            simp only [nm, seval]
            apply VE.cons
            · exact ev_move rfl (gn rfl)
            simp only [nm, seval]
            apply VE.cons
            · exact ev_callb (v := uv (rr ((M.getD (1 + i) 0#32)) 7)) rfl (gn rfl) rfl (en_of Tryd.func21 (by kernel_rfl) rfl) (fun w' hb => right_ok ((M.getD (1 + i) 0#32)) (by decide) (by decide) w')
            simp only [nm, seval]
            apply VE.cons
            · exact ev_move rfl (gn rfl)
            simp only [nm, seval]
            apply VE.cons
            · exact ev_callb (v := uv (rr ((M.getD (1 + i) 0#32)) 18)) rfl (gn rfl) rfl (en_of Tryd.func21 (by kernel_rfl) rfl) (fun w' hb => right_ok ((M.getD (1 + i) 0#32)) (by decide) (by decide) w')
            simp only [nm, seval]
            apply VE.cons
            · exact ev_bin rfl (gn rfl) rfl rfl (fun w => xor32 _ _ _ _ w)
            simp only [nm, seval]
            apply VE.cons
            · exact ev_move rfl (gn rfl)
            simp only [nm, seval]
            apply VE.cons
            · exact ev_bin rfl (gn rfl) rfl rfl (fun w => shr32 _ 3 (by decide) _ _ w)
            simp only [nm, seval]
            apply VE.cons
            · exact ev_bin rfl (gn rfl) rfl rfl (fun w => xor32 _ _ _ _ w)
            simp only [nm, seval]
            apply VE.cons
            · exact ev_bin rfl (gn rfl) rfl rfl (fun w => add32 _ _ _ _ w)
            simp only [nm, seval]
            apply VE.cons
            · exact ev_move rfl (gn rfl)
            simp only [nm, seval]
            apply VE.cons
            · exact ev_callb (v := uv (rr ((M.getD (14 + i) 0#32)) 17)) rfl (gn rfl) rfl (en_of Tryd.func21 (by kernel_rfl) rfl) (fun w' hb => right_ok ((M.getD (14 + i) 0#32)) (by decide) (by decide) w')
            simp only [nm, seval]
            apply VE.cons
            · exact ev_move rfl (gn rfl)
            simp only [nm, seval]
            apply VE.cons
            · exact ev_callb (v := uv (rr ((M.getD (14 + i) 0#32)) 19)) rfl (gn rfl) rfl (en_of Tryd.func21 (by kernel_rfl) rfl) (fun w' hb => right_ok ((M.getD (14 + i) 0#32)) (by decide) (by decide) w')
            simp only [nm, seval]
            apply VE.cons
            · exact ev_bin rfl (gn rfl) rfl rfl (fun w => xor32 _ _ _ _ w)
            simp only [nm, seval]
            apply VE.cons
            · exact ev_move rfl (gn rfl)
            simp only [nm, seval]
            apply VE.cons
            · exact ev_bin rfl (gn rfl) rfl rfl (fun w => shr32 _ 10 (by decide) _ _ w)
            simp only [nm, seval]
            apply VE.cons
            · exact ev_bin rfl (gn rfl) rfl rfl (fun w => xor32 _ _ _ _ w)
            simp only [nm, seval]
            apply VE.cons
            · exact ev_bin rfl (gn rfl) rfl rfl (fun w => add32 _ _ _ _ w)
            simp only [nm, seval]
            apply VE.cons
            · exact ev_indexn (k := 16 + i) (j := 16 + i) rfl (gn rfl) rfl rfl Tryd.underlying50 Tryd.sizeOf39 (by omega) (by omega)
            simp only [nm, seval]
            apply VE.cons
            · first | exact ev_storer (l' := WL (row16 b (i + 1))) rfl (gn rfl) rfl rfl rfl Tryd.sizeOf39 rfl (by rw [WL_len (by rw [row16_len]; omega)]; omega) rfl (hs1 i (by omega)) | exact ev_storer (l' := WL (M ++ [_])) rfl (gn rfl) rfl rfl rfl Tryd.sizeOf39 rfl (by rw [WL_len (by omega)]; omega) rfl (by rw [← hMl]; exact WL_set _ (by omega))
            simp only [nm, seval]
            exact VE.nil _
          · kernel_rfl
          change VOk _ _ _ _ _
          apply vrp
          · apply VE.cons
            · exact ev_move rfl (gn rfl)
            simp only [nm, seval]
            apply VE.cons
            · exact ev_add (c := ((16 + i + 1 : Nat) : Int)) rfl (gn rfl) rfl rfl (by rw [i64w (by omega) (by omega)]; omega)
            simp only [nm, seval]
            apply VE.cons
            · exact ev_assign rfl (gn rfl)
            simp only [nm, seval]
            exact VE.nil _
          · kernel_rfl
          refine ⟨⟨i + 1, by omega⟩, by show 48 - (i + 1) < 48 - i; omega, ?_⟩
          have hst : M ++ [M.getD i 0#32 + M.getD (9 + i) 0#32 + (rr (M.getD (1 + i) 0#32) 7 ^^^ rr (M.getD (1 + i) 0#32) 18 ^^^ M.getD (1 + i) 0#32 >>> 3) + (rr (M.getD (14 + i) 0#32) 17 ^^^ rr (M.getD (14 + i) 0#32) 19 ^^^ M.getD (14 + i) 0#32 >>> 10)] = more M0 (i + 1) := by
            simp only [more, nextW, hM, hMl, g0, g1]
            rw [show 16 + i - 16 = i by omega, show 16 + i - 7 = 9 + i by omega, show 16 + i - 15 = 1 + i by omega, show 16 + i - 2 = 14 + i by omega]
          rw [hst]
          exact weaker_forget (fun i => i == 2 || i == 4 || i == 5 || i == 8) []
      · exact weaker_forget (fun i => i == 2 || i == 4 || i == 5 || i == 8) []
    · refine vcond_t rfl ?_
      have hlt : i < 16 := of_decide_eq_true h_q
      refine vskip ?_
      change VOk _ _ _ _ _
      refine vseq ?_
      refine vblock ?_
      refine vseq ?_
      apply vrp
      · apply VE.cons
        · exact ev_move rfl (gn rfl)
        simp only [nm, seval]
        apply VE.cons
        · exact ev_assign rfl (gn rfl)
        simp only [nm, seval]
        exact VE.nil _
      · kernel_rfl
      change VOk _ _ _ _ _
      refine vseq ?_
      apply vrp
      · apply VE.cons
        · exact ev_move rfl (gn rfl)
        simp only [nm, seval]
        apply VE.cons
        · exact ev_move rfl (gn rfl)
        simp only [nm, seval]
        apply VE.cons
        · exact ev_bin rfl (gn rfl) rfl rfl (fun w => mul4 (n := i) (by omega) _ _ w)
        simp only [nm, seval]
        apply VE.cons
        · exact ev_move rfl (gn rfl)
        simp only [nm, seval]
        apply VE.cons
        · exact ev_bin rfl (gn rfl) rfl rfl (fun w => mul4 (n := i) (by omega) _ _ w)
        simp only [nm, seval]
        apply VE.cons
        · exact ev_add (c := ((4 * i + 4 : Nat) : Int)) rfl (gn rfl) rfl rfl (by rw [i64w (by omega) (by omega)]; omega)
        simp only [nm, seval]
        apply VE.cons
        · exact ev_cutx (a := 4 * i) (b := 4 * i + 4) (v' := cutV (4 * i) (4 * i + 4) 1 v) rfl (gn rfl) rfl Tryd.underlying27 Tryd.sizeOf5 (rdg_arg hv) rfl rfl (by omega) (by omega) rfl
        simp only [nm, seval]
        apply VE.cons
        · exact ev_assign rfl (gn rfl)
        simp only [nm, seval]
        exact VE.nil _
      · kernel_rfl
      change VOk _ _ _ _ _
      apply vrd (by kernel_rfl)
      · apply VE.cons
        · exact ev_move rfl (gn rfl)
        simp only [nm, seval]
        apply VE.cons
        · exact ev_move rfl (gn rfl)
        simp only [nm, seval]
        apply VE.cons
        · exact ev_idx (k := 0) rfl (gn rfl) rfl rfl Tryd.underlying27 Tryd.sizeOf5 (rdg_arg (cut4 hv hb (by omega))) (by decide) (by decide)
        simp only [nm, seval]
        apply VE.cons
        · exact ev_loadi rfl (gn rfl) rfl Tryd.underlying5 rfl (rdg_arg (cut4 hv hb (by omega))) (rfl)
        simp only [nm, seval]
        apply VE.cons
        · exact ev_conv rfl (gn rfl) rfl (fun w => cv32 (getD_lt h8 _) w)
        simp only [nm, seval]
        apply VE.cons
        · exact ev_bin rfl (gn rfl) rfl rfl (fun w => shl32 _ 24 (by decide) _ _ w)
        simp only [nm, seval]
        apply VE.cons
        · exact ev_move rfl (gn rfl)
        simp only [nm, seval]
        apply VE.cons
        · exact ev_idx (k := 1) rfl (gn rfl) rfl rfl Tryd.underlying27 Tryd.sizeOf5 (rdg_arg (cut4 hv hb (by omega))) (by decide) (by decide)
        simp only [nm, seval]
        apply VE.cons
        · exact ev_loadi rfl (gn rfl) rfl Tryd.underlying5 rfl (rdg_arg (cut4 hv hb (by omega))) (rfl)
        simp only [nm, seval]
        apply VE.cons
        · exact ev_conv rfl (gn rfl) rfl (fun w => cv32 (getD_lt h8 _) w)
        simp only [nm, seval]
        apply VE.cons
        · exact ev_bin rfl (gn rfl) rfl rfl (fun w => shl32 _ 16 (by decide) _ _ w)
        simp only [nm, seval]
        apply VE.cons
        · exact ev_bin rfl (gn rfl) rfl rfl (fun w => or32 _ _ _ _ w)
        simp only [nm, seval]
        apply VE.cons
        · exact ev_move rfl (gn rfl)
        simp only [nm, seval]
        apply VE.cons
        · exact ev_idx (k := 2) rfl (gn rfl) rfl rfl Tryd.underlying27 Tryd.sizeOf5 (rdg_arg (cut4 hv hb (by omega))) (by decide) (by decide)
        simp only [nm, seval]
        apply VE.cons
        · exact ev_loadi rfl (gn rfl) rfl Tryd.underlying5 rfl (rdg_arg (cut4 hv hb (by omega))) (rfl)
        simp only [nm, seval]
        apply VE.cons
        · exact ev_conv rfl (gn rfl) rfl (fun w => cv32 (getD_lt h8 _) w)
        simp only [nm, seval]
        apply VE.cons
        · exact ev_bin rfl (gn rfl) rfl rfl (fun w => shl32 _ 8 (by decide) _ _ w)
        simp only [nm, seval]
        apply VE.cons
        · exact ev_bin rfl (gn rfl) rfl rfl (fun w => or32 _ _ _ _ w)
        simp only [nm, seval]
        apply VE.cons
        · exact ev_move rfl (gn rfl)
        simp only [nm, seval]
        apply VE.cons
        · exact ev_idx (k := 3) rfl (gn rfl) rfl rfl Tryd.underlying27 Tryd.sizeOf5 (rdg_arg (cut4 hv hb (by omega))) (by decide) (by decide)
        simp only [nm, seval]
        apply VE.cons
        · exact ev_loadi rfl (gn rfl) rfl Tryd.underlying5 rfl (rdg_arg (cut4 hv hb (by omega))) (rfl)
        simp only [nm, seval]
        apply VE.cons
        · exact ev_conv rfl (gn rfl) rfl (fun w => cv32 (getD_lt h8 _) w)
        simp only [nm, seval]
        apply VE.cons
        · exact ev_bin rfl (gn rfl) rfl rfl (fun w => or32 _ _ _ _ w)
        simp only [nm, seval]
        apply VE.cons
        · exact ev_indexn (k := i) (j := i) rfl (gn rfl) rfl rfl Tryd.underlying50 Tryd.sizeOf39 (by omega) (by omega)
        simp only [nm, seval]
        apply VE.cons
        · first | exact ev_storer (l' := WL (row16 b (i + 1))) rfl (gn rfl) rfl rfl rfl Tryd.sizeOf39 rfl (by rw [WL_len (by rw [row16_len]; omega)]; omega) rfl (hs1 i (by omega)) | exact ev_storer (l' := WL (M ++ [_])) rfl (gn rfl) rfl rfl rfl Tryd.sizeOf39 rfl (by rw [WL_len (by omega)]; omega) rfl (by rw [← hMl]; exact WL_set _ (by omega))
        simp only [nm, seval]
        exact VE.nil _
      · kernel_rfl
      change VOk _ _ _ _ _
      apply vrp
      · apply VE.cons
        · exact ev_add (c := ((i + 1 : Nat) : Int)) rfl (gn rfl) rfl rfl (by rw [i64w (by omega) (by omega)]; omega)
        simp only [nm, seval]
        apply VE.cons
        · exact ev_move rfl (gn rfl)
        simp only [nm, seval]
        exact VE.nil _
      · kernel_rfl
      refine ⟨⟨i + 1, by omega⟩, by show 16 - (i + 1) < 16 - i; omega, ?_⟩
      exact weaker_forget (fun i => i == 1 || i == 2 || i == 4 || i == 5 || i == 22) []
  · exact weaker_forget (fun i => i == 1 || i == 2 || i == 4 || i == 5 || i == 22) []
end Go.Proofs.YtdhklekkpkbfeaaDoor
