import Derived.Test.YtdhklekkpkbfeaaDoorSd
namespace Go.Proofs.YtdhklekkpkbfeaaDoor
open Go.RowKit Go.Vx
open Go.Toll (Gw)
open TollSha
set_option maxHeartbeats 4000000
set_option maxRecDepth 100000
def UL (H : St) : List Value := H.l.map uv
theorem UL_get {H : St} {i : Nat} (h : i < 8) : (UL H)[i]? = some (uv (H.l.getD i 0#32)) := by
  unfold UL
  rw [List.getElem?_map, l8_get h]; rfl
def AL (H V : St) (z : Nat) : List Value := ((H.add V).l.take z ++ H.l.drop z).map uv
theorem AL_get {H V : St} {z : Nat} (h : z < 8) : (AL H V z)[z]? = some (uv (H.l.getD z 0#32)) := by
  have : z = 0 ∨ z = 1 ∨ z = 2 ∨ z = 3 ∨ z = 4 ∨ z = 5 ∨ z = 6 ∨ z = 7 := by omega
  rcases this with rfl | rfl | rfl | rfl | rfl | rfl | rfl | rfl <;> rfl
theorem AL_len {H V : St} {z : Nat} (h : z ≤ 8) : (AL H V z).length = 8 := by
  have : z = 0 ∨ z = 1 ∨ z = 2 ∨ z = 3 ∨ z = 4 ∨ z = 5 ∨ z = 6 ∨ z = 7 ∨ z = 8 := by omega
  rcases this with rfl | rfl | rfl | rfl | rfl | rfl | rfl | rfl | rfl <;> rfl
theorem AL_set {H V : St} {z : Nat} (h : z < 8) : (AL H V z).take z ++ (uv (H.l.getD z 0#32 + V.l.getD z 0#32)).cells.toList ++ (AL H V z).drop (z + 1) = AL H V (z + 1) := by
  have : z = 0 ∨ z = 1 ∨ z = 2 ∨ z = 3 ∨ z = 4 ∨ z = 5 ∨ z = 6 ∨ z = 7 := by omega
  rcases this with rfl | rfl | rfl | rfl | rfl | rfl | rfl | rfl <;> rfl
theorem K_get {i : Nat} (h : i < 64) : (K.map uv)[i]? = some (uv (K.getD i 0#32)) := by
  have : i < K.length := h
  rw [List.getElem?_map]; simp [List.getD, this]
theorem step_ref (Q : St) (k w : W) : ([uv (Q.h + (rr Q.e 6 ^^^ rr Q.e 11 ^^^ rr Q.e 25) + (Q.e &&& Q.f ^^^ ~~~Q.e &&& Q.g) + k + w + ((rr Q.a 2 ^^^ rr Q.a 13 ^^^ rr Q.a 22) + (Q.a &&& Q.b ^^^ Q.a &&& Q.c ^^^ Q.b &&& Q.c))), uv Q.a, uv Q.b, uv Q.c,
    uv (Q.d + (Q.h + (rr Q.e 6 ^^^ rr Q.e 11 ^^^ rr Q.e 25) + (Q.e &&& Q.f ^^^ ~~~Q.e &&& Q.g) + k + w)), uv Q.e, uv Q.f, uv Q.g] : List Value) = UL (Q.step k w) := by
  rw [ch_ref, mj_ref]
  simp only [UL, St.l, St.step, tA, tB, TollSha.e1, TollSha.e0, List.map_cons, List.map_nil]
def schI (b : List Nat) (i : Nat) : List W := if i ≤ 16 then row16 b i else more (row16 b 16) (i - 16)
theorem schI_len (b : List Nat) {i : Nat} : (schI b i).length = i := by
  unfold schI
  split
  · exact row16_len b i
  · rw [more_len, row16_len]; omega
theorem schI_lo {b : List Nat} {i : Nat} (h : i < 16) : schI b (i + 1) = schI b i ++ [wordAt b i] := by
  unfold schI
  rw [if_pos (by omega), if_pos (by omega)]; rfl
theorem schI_hi {b : List Nat} {j : Nat} : schI b (16 + j + 1) = schI b (16 + j) ++ [nextW (schI b (16 + j))] := by
  have e : schI b (16 + j) = more (row16 b 16) j := by
    unfold schI
    split
    · have : j = 0 := by omega
      subst this; rfl
    · rw [show 16 + j - 16 = j by omega]
  rw [e]
  unfold schI
  rw [if_neg (by omega), show 16 + j + 1 - 16 = j + 1 by omega]; rfl
theorem schI_all (b : List Nat) : schI b 64 = sched b := by unfold schI sched; rw [if_neg (by omega)]
theorem next_ref {M : List W} {j : Nat} (h : M.length = 16 + j) : M.getD j 0#32 + (rr (M.getD (1 + j) 0#32) 7 ^^^ rr (M.getD (1 + j) 0#32) 18 ^^^ M.getD (1 + j) 0#32 >>> 3) + M.getD (9 + j) 0#32 + (rr (M.getD (14 + j) 0#32) 17 ^^^ rr (M.getD (14 + j) 0#32) 19 ^^^ M.getD (14 + j) 0#32 >>> 10) = nextW M := by
  unfold nextW g0 g1
  rw [h, show 16 + j - 16 = j by omega, show 16 + j - 7 = 9 + j by omega, show 16 + j - 15 = 1 + j by omega, show 16 + j - 2 = 14 + j by omega]
  rw [BitVec.add_assoc (M.getD j 0#32) _ (M.getD (9 + j) 0#32), BitVec.add_comm _ (M.getD (9 + j) 0#32), ← BitVec.add_assoc]
theorem pad_gr {n x : Nat} (h : x ≤ zeros n) : decide ((((n + 1 + x) % 64 : Nat) : Int) ≠ 56) = decide (x < zeros n) := by
  unfold zeros at *
  exact decide_eq_decide.2 (by omega)
theorem mul47 {x : Nat} (hx : x < 1099511627776) (p q : Operand) (w : World) : (do eqGuard .mul 47 p q (.int .u64 (x : Nat)) (.int .u64 8); binOp .mul 47 (.int .u64 (x : Nat)) (.int .u64 8) : Sem Value).run Tryd.prog w = .ok (.int .u64 ((8 * x : Nat) : Int)) w := by
  have e : IntKind.u64.wrap ((x : Int) * 8) = ((8 * x : Nat) : Int) := by rw [IntKind.wrap_u64]; omega
  go_simp
  try exact e
  try omega
theorem len8_get2 {m j s : Nat} (h : j < 8) (hs : s = 56 - 8 * j) : (len8 m)[j]? = some (m / 2 ^ s % 256) := by
  rw [len8_get h]; congr; omega
theorem part_get {P : List Nat} {m j : Nat} (h : 64 * m + 64 ≤ P.length) (hj : j < 64) : (P.map b8)[64 * m + j]? = some (b8 (((P.drop (64 * m)).take 64).getD j 0)) := by
  have h1 : ((P.drop (64 * m)).take 64)[j]? = P[64 * m + j]? := by rw [List.getElem?_take, if_pos hj, List.getElem?_drop]
  have h2 : P[64 * m + j]? = some P[64 * m + j] := List.getElem?_eq_getElem (by omega)
  rw [List.getElem?_map, h2, List.getD_eq_getElem?_getD, h1, h2]; rfl
theorem rSum_ok {a : List Nat} (w : World) (h8 : ∀ x ∈ a, x < 256) (hm : a.length < 1048576) : Calls Tryd.prog 12 #[.string (bstr a)] w fun e w' => e = .returned (.string (bstr (sha a))) ∧ Bw w w' := by
  obtain ⟨Pd, hPd⟩ : ∃ Pd, padded a = Pd := ⟨_, rfl⟩
  have hz64 : zeros a.length < 64 := Nat.mod_lt _ (by decide)
  have hWb : a.map b8 ++ [b8 128] = (a ++ 128 :: List.replicate 0 0).map b8 := by simp
  have hpl : Pd.length % 64 = 0 := by rw [← hPd]; exact padded_len a
  have hP8 : ∀ x ∈ Pd, x < 256 := by rw [← hPd]; exact padded_lt h8
  have htd : (a ++ 128 :: List.replicate (zeros a.length) 0) ++ (len8 (8 * a.length)).take 8 = Pd := by
    rw [← hPd]; unfold padded; rw [List.append_assoc]; rfl
  have htl : a.length + 1 + zeros a.length + 8 = Pd.length := by
    have := congrArg List.length htd
    simp only [List.length_append, List.length_cons, List.length_replicate] at this
    have h8' : ((len8 (8 * a.length)).take 8).length = 8 := rfl
    omega
  go_enter Tryd.func12, Tryd.ntmps12
  refine ve_go ?_
  simp only [List.map_cons, List.map_nil]
  refine vseq ?_
  apply vrp
  · apply VE.cons
    · exact ev_assign rfl (gn rfl)
    simp only [nm, seval]
    exact VE.nil _
  · kernel_rfl
  change VOk _ _ _ _ _
  refine vseq ?_
  apply vrp
  · apply VE.cons
    · exact ev_callb rfl (gn rfl) rfl (en_of Tryd.func18 (by kernel_rfl) rfl) (fun w' hb => const_ok w')
    simp only [nm, seval]
    apply VE.cons
    · exact ev_move rfl (gn rfl)
    simp only [nm, seval]
    apply VE.cons
    · first | exact ev_extract rfl (gn rfl) rfl rfl | exact ev_extractt rfl (gn rfl) rfl rfl
    simp only [nm, seval]
    apply VE.cons
    · first | exact ev_extract rfl (gn rfl) rfl rfl | exact ev_extractt rfl (gn rfl) rfl rfl
    simp only [nm, seval]
    apply VE.cons
    · exact ev_allocr (l := List.replicate 8 (uv 0#32)) rfl rfl (gn rfl) Tryd.zeroValue40 rfl
    simp only [nm, seval]
    apply VE.cons
    · exact ev_allocr (l := WL []) rfl rfl (gn rfl) Tryd.zeroValue50 rfl
    simp only [nm, seval]
    apply VE.cons
    · first | exact ev_storer (l' := UL H0) rfl (gn rfl) rfl rfl rfl Tryd.sizeOf40 rfl (by decide) rfl rfl | exact ev_storer (l' := UL H) rfl (gn rfl) rfl rfl rfl Tryd.sizeOf40 rfl (by decide) rfl rfl | exact ev_storer (l' := UL (Q.step (K.getD j 0#32) (Wd.getD j 0#32))) rfl (gn rfl) rfl rfl rfl Tryd.sizeOf40 rfl (Nat.le_refl 8) rfl (step_ref Q _ _)
    simp only [nm, seval]
    apply VE.cons
    · exact ev_storer (l' := K.map uv) rfl (gn rfl) rfl rfl rfl Tryd.sizeOf50 (by simp [Value.cells, K_len]) (by rw [WL_len (by simp)]; decide) (by show (K.map uv).toArray.toList.all _ = true; exact K_one) (by rw [List.take_zero, List.nil_append, List.drop_of_length_le (by rw [WL_len (by simp)]; decide), List.append_nil]; simp [Value.cells])
    simp only [nm, seval]
    exact VE.nil _
  · kernel_rfl
  change VOk _ _ _ _ _
  refine vseq ?_
  apply vrp
  · apply VE.cons
    · exact ev_move rfl (gn rfl)
    simp only [nm, seval]
    apply VE.cons
    · exact ev_convsb8 rfl rfl (gn rfl) rfl Tryd.underlying9 Tryd.underlying27 Tryd.underlying5 (by simp only [maxLen]; omega) h8
    simp only [nm, seval]
    apply VE.cons
    · exact ev_buildslice rfl rfl (gn rfl) rfl (e := 5) (l := [b8 (128)]) rfl (by decide) (fun _ => by kernel_rfl)
    simp only [nm, seval]
    apply VE.cons
    · exact ev_append rfl rfl (gn rfl) rfl rfl rfl (rdg_row rfl) Tryd.underlying27 el5 (by decide) (by simp; try omega) rfl (by simp only [maxLen]; omega) (by omega) (by simp)
    simp only [nm, seval]
    apply VE.cons
    · exact ev_assign rfl (gn rfl)
    simp only [nm, seval]
    exact VE.nil _
  · kernel_rfl
  change VOk _ _ _ _ _
  refine vseq ?_
  refine vblock ?_
  refine vloop_w (α := {x : Nat // x ≤ zeros a.length}) (fun (x : {x : Nat // x ≤ zeros a.length}) f => ⟨[.v (.string (bstr a)), .v (f 1), .v (f 2), .p 3 0, .p 4 0, .d 900, .v (f 6), .v (f 7), .v (f 8), .v (f 9), .v (f 10), .v (f 11), .v (f 12), .v (f 13), .v (f 14), .v (f 15), .v (f 16), .v (f 17), .v (f 18), .v (f 19), .v (f 20), .v (f 21), .v (f 22), .v (f 23), .v (f 24), .v (f 25), .v (f 26), .v (f 27), .v (f 28), .v (f 29), .v (f 30), .v (f 31), .v (f 32), .v (f 33), .v (f 34), .v (f 35), .v (f 36), .v (f 37), .v (f 38), .v (f 39), .v (f 40), .v (f 41), .v (f 42), .v (f 43), .v (f 44), .v (f 45), .v (f 46), .v (f 47), .v (f 48), .v (f 49), .v (f 50), .v (f 51), .v (f 52), .v (f 53), .v (f 54), .v (f 55), .v (f 56), .v (f 57), .v (f 58), .v (f 59), .v (f 60), .v (f 61), .v (f 62), .v (f 63), .v (f 64), .v (f 65), .v (f 66), .v (f 67), .v (f 68), .v (f 69), .v (f 70), .v (f 71), .v (f 72), .v (f 73), .v (f 74), .v (f 75), .v (f 76), .v (f 77), .v (f 78), .v (f 79), .v (f 80), .v (f 81), .v (f 82), .v (f 83), .v (f 84), .v (f 85), .v (f 86), .v (f 87), .v (f 88), .v (f 89), .v (f 90), .v (f 91), .v (f 92), .v (f 93), .v (f 94), .v (f 95), .v (f 96), .v (f 97), .v (f 98), .v (f 99), .v (f 100), .v (f 101), .v (f 102), .v (f 103), .v (f 104), .v (f 105), .v (f 106), .v (f 107), .v (f 108), .v (f 109), .v (f 110), .v (f 111), .v (f 112), .v (f 113), .v (f 114), .v (f 115), .v (f 116), .v (f 117), .v (f 118), .v (f 119), .v (f 120), .v (f 121), .v (f 122), .v (f 123), .v (f 124), .v (f 125), .v (f 126), .v (f 127), .v (f 128), .v (f 129), .v (f 130), .v (f 131), .v (f 132), .v (f 133), .v (f 134), .v (f 135), .v (f 136), .v (f 137), .v (f 138), .v (f 139), .v (f 140), .v (f 141), .v (f 142), .v (f 143), .v (f 144), .v (f 145), .v (f 146), .v (f 147), .v (f 148), .v (f 149), .v (f 150), .v (f 151), .v (f 152), .v (f 153), .v (f 154), .v (f 155), .v (f 156), .v (f 157), .v (f 158), .v (f 159), .v (f 160), .v (f 161), .v (f 162), .v (f 163), .v (f 164), .v (f 165), .v (f 166), .v (f 167), .v (f 168), .v (f 169), .v (f 170), .v (f 171), .v (f 172), .v (f 173), .v (f 174), .v (f 175), .v (f 176), .v (f 177), .v (f 178), .v (f 179), .v (f 180), .v (f 181), .v (f 182), .v (f 183), .v (f 184), .v (f 185), .v (f 186), .v (f 187), .v (f 188), .v (f 189), .v (f 190), .v (f 191), .v (f 192), .v (f 193), .v (f 194), .v (f 195), .v (f 196), .v (f 197), .v (f 198), .v (f 199), .v (f 200), .v (f 201), .v (f 202), .v (f 203), .v (f 204), .v (f 205), .v (f 206), .v (f 207), .v (f 208), .v (f 209), .v (f 210), .v (f 211), .v (f 212), .v (f 213), .v (f 214), .v (f 215), .v (f 216), .v (f 217), .v (f 218), .v (f 219), .v (f 220), .v (f 221), .v (f 222), .v (f 223), .v (f 224), .v (f 225), .v (f 226), .v (f 227), .v (f 228), .v (f 229), .v (f 230), .v (f 231), .v (f 232), .v (f 233), .v (f 234), .v (f 235), .v (f 236), .v (f 237), .v (f 238), .v (f 239), .v (f 240), .v (f 241), .v (f 242), .v (f 243), .v (f 244), .v (f 245), .v (f 246), .v (f 247), .v (f 248), .v (f 249), .v (f 250), .v (f 251), .v (f 252), .v (f 253), .v (f 254), .v (f 255), .v (f 256), .v (f 257), .v (f 258), .v (f 259), .v (f 260)], memOf [(900, .row (a.length + 1 + x.1) 1 5 (.exact (((a ++ 128 :: List.replicate x.1 0)).map b8))), (4, .arr (K.map uv) 50), (3, .arr (UL (H0)) 40)]⟩) (fun x => zeros a.length - x.1) ?_ (⟨0, Nat.zero_le _⟩) ?_
  · rintro ⟨x, hx⟩ f
    obtain ⟨q, h_q⟩ : ∃ q, decide (x < zeros a.length) = q := ⟨_, rfl⟩
    have h_q' := (pad_gr hx).trans h_q
    change VOk _ _ _ _ _
    refine vseq ?_
    refine vseq ?_
    apply vrp
    · apply VE.cons
      · exact ev_move rfl (gn rfl)
      simp only [nm, seval]
      apply VE.cons
      · exact ev_len rfl (gn rfl) rfl Tryd.underlying27 (rdg_row rfl)
      simp only [nm, seval]
      apply VE.cons
      · exact ev_bin rfl (gn rfl) rfl rfl (fun w => rem64 _ _ _ w)
      simp only [nm, seval]
      apply VE.cons
      · exact ev_neq rfl (gn rfl) rfl rfl h_q'
      simp only [nm, seval]
      exact VE.nil _
    · kernel_rfl
    change VOk _ _ _ _ _
    cases q
    · refine vcond_f rfl ?_
      have hxz : x = zeros a.length := by have := of_decide_eq_false h_q; omega
      subst hxz
      refine vexit ?_
      change VOk _ _ _ _ _
      refine vseq ?_
      apply vrp
      · apply VE.cons
        · exact ev_move rfl (gn rfl)
        simp only [nm, seval]
        apply VE.cons
        · exact ev_lenb (b := a) rfl (gn rfl) rfl Tryd.underlying9
        simp only [nm, seval]
        apply VE.cons
        · exact ev_conv rfl (gn rfl) rfl (fun w => cv347 (by omega) w)
        simp only [nm, seval]
        apply VE.cons
        · exact ev_bin rfl (gn rfl) rfl rfl (fun w => mul47 (by omega) _ _ w)
        simp only [nm, seval]
        apply VE.cons
        · exact ev_assign rfl (gn rfl)
        simp only [nm, seval]
        exact VE.nil _
      · kernel_rfl
      change VOk _ _ _ _ _
      refine vseq ?_
      refine vseq ?_
      apply vrp
      · apply VE.cons
        · exact ev_assign rfl (gn rfl)
        simp only [nm, seval]
        exact VE.nil _
      · kernel_rfl
      change VOk _ _ _ _ _
      refine vblock ?_
      refine vloop_w (α := {x : Nat × Int // x.1 ≤ 8 ∧ x.2 = 56 - 8 * (x.1 : Int)}) (fun (x : {x : Nat × Int // x.1 ≤ 8 ∧ x.2 = 56 - 8 * (x.1 : Int)}) f => ⟨[.v (.string (bstr a)), .v (f 1), .v (f 2), .p 3 0, .p 4 0, .d 900, .v (.int .u64 ((8 * a.length : Nat) : Int)), .v (.int .i64 x.1.2), .v (f 8), .v (f 9), .v (f 10), .v (f 11), .v (f 12), .v (f 13), .v (f 14), .v (f 15), .v (f 16), .v (f 17), .v (f 18), .v (f 19), .v (f 20), .v (f 21), .v (f 22), .v (f 23), .v (f 24), .v (f 25), .v (f 26), .v (f 27), .v (f 28), .v (f 29), .v (f 30), .v (f 31), .v (f 32), .v (f 33), .v (f 34), .v (f 35), .v (f 36), .v (f 37), .v (f 38), .v (f 39), .v (f 40), .v (f 41), .v (f 42), .v (f 43), .v (f 44), .v (f 45), .v (f 46), .v (f 47), .v (f 48), .v (f 49), .v (f 50), .v (f 51), .v (f 52), .v (f 53), .v (f 54), .v (f 55), .v (f 56), .v (f 57), .v (f 58), .v (f 59), .v (f 60), .v (f 61), .v (f 62), .v (f 63), .v (f 64), .v (f 65), .v (f 66), .v (f 67), .v (f 68), .v (f 69), .v (f 70), .v (f 71), .v (f 72), .v (f 73), .v (f 74), .v (f 75), .v (f 76), .v (f 77), .v (f 78), .v (f 79), .v (f 80), .v (f 81), .v (f 82), .v (f 83), .v (f 84), .v (f 85), .v (f 86), .v (f 87), .v (f 88), .v (f 89), .v (f 90), .v (f 91), .v (f 92), .v (f 93), .v (f 94), .v (f 95), .v (f 96), .v (f 97), .v (f 98), .v (f 99), .v (f 100), .v (f 101), .v (f 102), .v (f 103), .v (f 104), .v (f 105), .v (f 106), .v (f 107), .v (f 108), .v (f 109), .v (f 110), .v (f 111), .v (f 112), .v (f 113), .v (f 114), .v (f 115), .v (f 116), .v (f 117), .v (f 118), .v (f 119), .v (f 120), .v (f 121), .v (f 122), .v (f 123), .v (f 124), .v (f 125), .v (f 126), .v (f 127), .v (f 128), .v (f 129), .v (f 130), .v (f 131), .v (f 132), .v (f 133), .v (f 134), .v (f 135), .v (f 136), .v (f 137), .v (f 138), .v (f 139), .v (f 140), .v (f 141), .v (f 142), .v (f 143), .v (f 144), .v (f 145), .v (f 146), .v (f 147), .v (f 148), .v (f 149), .v (f 150), .v (f 151), .v (f 152), .v (f 153), .v (f 154), .v (f 155), .v (f 156), .v (f 157), .v (f 158), .v (f 159), .v (f 160), .v (f 161), .v (f 162), .v (f 163), .v (f 164), .v (f 165), .v (f 166), .v (f 167), .v (f 168), .v (f 169), .v (f 170), .v (f 171), .v (f 172), .v (f 173), .v (f 174), .v (f 175), .v (f 176), .v (f 177), .v (f 178), .v (f 179), .v (f 180), .v (f 181), .v (f 182), .v (f 183), .v (f 184), .v (f 185), .v (f 186), .v (f 187), .v (f 188), .v (f 189), .v (f 190), .v (f 191), .v (f 192), .v (f 193), .v (f 194), .v (f 195), .v (f 196), .v (f 197), .v (f 198), .v (f 199), .v (f 200), .v (f 201), .v (f 202), .v (f 203), .v (f 204), .v (f 205), .v (f 206), .v (f 207), .v (f 208), .v (f 209), .v (f 210), .v (f 211), .v (f 212), .v (f 213), .v (f 214), .v (f 215), .v (f 216), .v (f 217), .v (f 218), .v (f 219), .v (f 220), .v (f 221), .v (f 222), .v (f 223), .v (f 224), .v (f 225), .v (f 226), .v (f 227), .v (f 228), .v (f 229), .v (f 230), .v (f 231), .v (f 232), .v (f 233), .v (f 234), .v (f 235), .v (f 236), .v (f 237), .v (f 238), .v (f 239), .v (f 240), .v (f 241), .v (f 242), .v (f 243), .v (f 244), .v (f 245), .v (f 246), .v (f 247), .v (f 248), .v (f 249), .v (f 250), .v (f 251), .v (f 252), .v (f 253), .v (f 254), .v (f 255), .v (f 256), .v (f 257), .v (f 258), .v (f 259), .v (f 260)], memOf [(900, .row (a.length + 1 + zeros a.length + x.1.1) 1 5 (.exact (((a ++ 128 :: List.replicate (zeros a.length) 0) ++ (len8 (8 * a.length)).take x.1.1).map b8))), (4, .arr (K.map uv) 50), (3, .arr (UL (H0)) 40)]⟩) (fun x => 8 - x.1.1) ?_ (⟨(0, 56), by decide, rfl⟩) ?_
      · rintro ⟨⟨y, t⟩, hy, ht⟩ f
        simp only at hy ht
        obtain ⟨q2, h_q2⟩ : ∃ q, decide (t ≥ 0) = q := ⟨_, rfl⟩
        change VOk _ _ _ _ _
        refine vseq ?_
        refine vseq ?_
        apply vrp
        · apply VE.cons
          · exact ev_move rfl (gn rfl)
          simp only [nm, seval]
          apply VE.cons
          · exact ev_geq rfl (gn rfl) rfl rfl h_q2
          simp only [nm, seval]
          exact VE.nil _
        · kernel_rfl
        change VOk _ _ _ _ _
        cases q2
        · refine vcond_f rfl ?_
          have hy8 : y = 8 := by have := of_decide_eq_false h_q2; omega
          subst hy8
          refine vexit ?_
          change VOk _ _ _ _ _
          refine vseq ?_
          refine vseq ?_
          apply vrp
          · apply VE.cons
            · exact ev_assign rfl (gn rfl)
            simp only [nm, seval]
            exact VE.nil _
          · kernel_rfl
          change VOk _ _ _ _ _
          refine vblock ?_
          refine vloop_w (α := {m : Nat // 64 * m ≤ Pd.length}) (fun (x : {m : Nat // 64 * m ≤ Pd.length}) f => ⟨[.v (f 0), .v (f 1), .v (f 2), .p 3 0, .p 4 0, .d 900, .v (f 6), .v (f 7), .v (.int .i64 ((64 * x.1 : Nat) : Int)), .v (f 9), .v (f 10), .v (f 11), .v (f 12), .v (f 13), .v (f 14), .v (f 15), .v (f 16), .v (f 17), .v (f 18), .v (f 19), .v (f 20), .v (f 21), .v (f 22), .v (f 23), .v (f 24), .v (f 25), .v (f 26), .v (f 27), .v (f 28), .v (f 29), .v (f 30), .v (f 31), .v (f 32), .v (f 33), .v (f 34), .v (f 35), .v (f 36), .v (f 37), .v (f 38), .v (f 39), .v (f 40), .v (f 41), .v (f 42), .v (f 43), .v (f 44), .v (f 45), .v (f 46), .v (f 47), .v (f 48), .v (f 49), .v (f 50), .v (f 51), .v (f 52), .v (f 53), .v (f 54), .v (f 55), .v (f 56), .v (f 57), .v (f 58), .v (f 59), .v (f 60), .v (f 61), .v (f 62), .v (f 63), .v (f 64), .v (f 65), .v (f 66), .v (f 67), .v (f 68), .v (f 69), .v (f 70), .v (f 71), .v (f 72), .v (f 73), .v (f 74), .v (f 75), .v (f 76), .v (f 77), .v (f 78), .v (f 79), .v (f 80), .v (f 81), .v (f 82), .v (f 83), .v (f 84), .v (f 85), .v (f 86), .v (f 87), .v (f 88), .v (f 89), .v (f 90), .v (f 91), .v (f 92), .v (f 93), .v (f 94), .v (f 95), .v (f 96), .v (f 97), .v (f 98), .v (f 99), .v (f 100), .v (f 101), .v (f 102), .v (f 103), .v (f 104), .v (f 105), .v (f 106), .v (f 107), .v (f 108), .v (f 109), .v (f 110), .v (f 111), .v (f 112), .v (f 113), .v (f 114), .v (f 115), .v (f 116), .v (f 117), .v (f 118), .v (f 119), .v (f 120), .v (f 121), .v (f 122), .v (f 123), .v (f 124), .v (f 125), .v (f 126), .v (f 127), .v (f 128), .v (f 129), .v (f 130), .v (f 131), .v (f 132), .v (f 133), .v (f 134), .v (f 135), .v (f 136), .v (f 137), .v (f 138), .v (f 139), .v (f 140), .v (f 141), .v (f 142), .v (f 143), .v (f 144), .v (f 145), .v (f 146), .v (f 147), .v (f 148), .v (f 149), .v (f 150), .v (f 151), .v (f 152), .v (f 153), .v (f 154), .v (f 155), .v (f 156), .v (f 157), .v (f 158), .v (f 159), .v (f 160), .v (f 161), .v (f 162), .v (f 163), .v (f 164), .v (f 165), .v (f 166), .v (f 167), .v (f 168), .v (f 169), .v (f 170), .v (f 171), .v (f 172), .v (f 173), .v (f 174), .v (f 175), .v (f 176), .v (f 177), .v (f 178), .v (f 179), .v (f 180), .v (f 181), .v (f 182), .v (f 183), .v (f 184), .v (f 185), .v (f 186), .v (f 187), .v (f 188), .v (f 189), .v (f 190), .v (f 191), .v (f 192), .v (f 193), .v (f 194), .v (f 195), .v (f 196), .v (f 197), .v (f 198), .v (f 199), .v (f 200), .v (f 201), .v (f 202), .v (f 203), .v (f 204), .v (f 205), .v (f 206), .v (f 207), .v (f 208), .v (f 209), .v (f 210), .v (f 211), .v (f 212), .v (f 213), .v (f 214), .v (f 215), .v (f 216), .v (f 217), .v (f 218), .v (f 219), .v (f 220), .v (f 221), .v (f 222), .v (f 223), .v (f 224), .v (f 225), .v (f 226), .v (f 227), .v (f 228), .v (f 229), .v (f 230), .v (f 231), .v (f 232), .v (f 233), .v (f 234), .v (f 235), .v (f 236), .v (f 237), .v (f 238), .v (f 239), .v (f 240), .v (f 241), .v (f 242), .v (f 243), .v (f 244), .v (f 245), .v (f 246), .v (f 247), .v (f 248), .v (f 249), .v (f 250), .v (f 251), .v (f 252), .v (f 253), .v (f 254), .v (f 255), .v (f 256), .v (f 257), .v (f 258), .v (f 259), .v (f 260)], memOf [(900, .row (Pd.length) 1 5 (.exact ((Pd).map b8))), (4, .arr (K.map uv) 50), (3, .arr (UL (pressN H0 Pd x.1)) 40)]⟩) (fun x => Pd.length - 64 * x.1) ?_ (⟨0, Nat.zero_le _⟩) ?_
          · rintro ⟨m, hm2⟩ f
            obtain ⟨q3, h_q3⟩ : ∃ q, decide (64 * m < Pd.length) = q := ⟨_, rfl⟩
            have h_q3' := (nat_lt (64 * m) Pd.length).trans h_q3
            obtain ⟨H, hH⟩ : ∃ H, pressN H0 Pd m = H := ⟨_, rfl⟩
            rw [hH]
            change VOk _ _ _ _ _
            refine vseq ?_
            refine vseq ?_
            apply vrp
            · apply VE.cons
              · exact ev_move rfl (gn rfl)
              simp only [nm, seval]
              apply VE.cons
              · exact ev_move rfl (gn rfl)
              simp only [nm, seval]
              apply VE.cons
              · exact ev_len rfl (gn rfl) rfl Tryd.underlying27 (rdg_row rfl)
              simp only [nm, seval]
              apply VE.cons
              · exact ev_lss rfl (gn rfl) rfl rfl h_q3'
              simp only [nm, seval]
              exact VE.nil _
            · kernel_rfl
            change VOk _ _ _ _ _
            cases q3
            · refine vcond_f rfl ?_
              have hme : 64 * m = Pd.length := by have := of_decide_eq_false h_q3; omega
              refine vexit ?_
              change VOk _ _ _ _ _
              refine vseq ?_
              apply vrp
              · apply VE.cons
                · exact ev_assign rfl (gn rfl)
                simp only [nm, seval]
                exact VE.nil _
              · kernel_rfl
              change VOk _ _ _ _ _
              refine vseq ?_
              refine vseq ?_
              apply vrp
              · apply VE.cons
                · exact ev_assign rfl (gn rfl)
                simp only [nm, seval]
                exact VE.nil _
              · kernel_rfl
              change VOk _ _ _ _ _
              refine vblock ?_
              refine vloop_w (α := {x : Nat // x ≤ 8}) (fun (x : {x : Nat // x ≤ 8}) f => ⟨[.v (f 0), .v (f 1), .v (f 2), .p 3 0, .v (f 4), .v (f 5), .v (f 6), .v (f 7), .v (f 8), .v (f 9), .v (f 10), .v (f 11), .v (f 12), .v (f 13), .v (f 14), .v (f 15), .v (f 16), .v (f 17), .v (f 18), .v (f 19), .v (f 20), .d 901, .v (.int .i64 (x.1 : Nat)), .v (f 23), .v (f 24), .v (f 25), .v (f 26), .v (f 27), .v (f 28), .v (f 29), .v (f 30), .v (f 31), .v (f 32), .v (f 33), .v (f 34), .v (f 35), .v (f 36), .v (f 37), .v (f 38), .v (f 39), .v (f 40), .v (f 41), .v (f 42), .v (f 43), .v (f 44), .v (f 45), .v (f 46), .v (f 47), .v (f 48), .v (f 49), .v (f 50), .v (f 51), .v (f 52), .v (f 53), .v (f 54), .v (f 55), .v (f 56), .v (f 57), .v (f 58), .v (f 59), .v (f 60), .v (f 61), .v (f 62), .v (f 63), .v (f 64), .v (f 65), .v (f 66), .v (f 67), .v (f 68), .v (f 69), .v (f 70), .v (f 71), .v (f 72), .v (f 73), .v (f 74), .v (f 75), .v (f 76), .v (f 77), .v (f 78), .v (f 79), .v (f 80), .v (f 81), .v (f 82), .v (f 83), .v (f 84), .v (f 85), .v (f 86), .v (f 87), .v (f 88), .v (f 89), .v (f 90), .v (f 91), .v (f 92), .v (f 93), .v (f 94), .v (f 95), .v (f 96), .v (f 97), .v (f 98), .v (f 99), .v (f 100), .v (f 101), .v (f 102), .v (f 103), .v (f 104), .v (f 105), .v (f 106), .v (f 107), .v (f 108), .v (f 109), .v (f 110), .v (f 111), .v (f 112), .v (f 113), .v (f 114), .v (f 115), .v (f 116), .v (f 117), .v (f 118), .v (f 119), .v (f 120), .v (f 121), .v (f 122), .v (f 123), .v (f 124), .v (f 125), .v (f 126), .v (f 127), .v (f 128), .v (f 129), .v (f 130), .v (f 131), .v (f 132), .v (f 133), .v (f 134), .v (f 135), .v (f 136), .v (f 137), .v (f 138), .v (f 139), .v (f 140), .v (f 141), .v (f 142), .v (f 143), .v (f 144), .v (f 145), .v (f 146), .v (f 147), .v (f 148), .v (f 149), .v (f 150), .v (f 151), .v (f 152), .v (f 153), .v (f 154), .v (f 155), .v (f 156), .v (f 157), .v (f 158), .v (f 159), .v (f 160), .v (f 161), .v (f 162), .v (f 163), .v (f 164), .v (f 165), .v (f 166), .v (f 167), .v (f 168), .v (f 169), .v (f 170), .v (f 171), .v (f 172), .v (f 173), .v (f 174), .v (f 175), .v (f 176), .v (f 177), .v (f 178), .v (f 179), .v (f 180), .v (f 181), .v (f 182), .v (f 183), .v (f 184), .v (f 185), .v (f 186), .v (f 187), .v (f 188), .v (f 189), .v (f 190), .v (f 191), .v (f 192), .v (f 193), .v (f 194), .v (f 195), .v (f 196), .v (f 197), .v (f 198), .v (f 199), .v (f 200), .v (f 201), .v (f 202), .v (f 203), .v (f 204), .v (f 205), .v (f 206), .v (f 207), .v (f 208), .v (f 209), .v (f 210), .v (f 211), .v (f 212), .v (f 213), .v (f 214), .v (f 215), .v (f 216), .v (f 217), .v (f 218), .v (f 219), .v (f 220), .v (f 221), .v (f 222), .v (f 223), .v (f 224), .v (f 225), .v (f 226), .v (f 227), .v (f 228), .v (f 229), .v (f 230), .v (f 231), .v (f 232), .v (f 233), .v (f 234), .v (f 235), .v (f 236), .v (f 237), .v (f 238), .v (f 239), .v (f 240), .v (f 241), .v (f 242), .v (f 243), .v (f 244), .v (f 245), .v (f 246), .v (f 247), .v (f 248), .v (f 249), .v (f 250), .v (f 251), .v (f 252), .v (f 253), .v (f 254), .v (f 255), .v (f 256), .v (f 257), .v (f 258), .v (f 259), .v (f 260)], memOf [(901, .row (4 * x.1) 1 5 (.exact (((H.l.take x.1).flatMap bytes4).map b8))), (3, .arr (UL H) 40)]⟩) (fun x => 8 - x.1) ?_ (⟨0, Nat.zero_le _⟩) ?_
              · rintro ⟨u, hu⟩ f
                obtain ⟨q8, h_q8⟩ : ∃ q, decide (u < 8) = q := ⟨_, rfl⟩
                have h_q8' := (nat_lt u 8).trans h_q8
                obtain ⟨F, hF⟩ : ∃ F, (H.l.take u).flatMap bytes4 = F := ⟨_, rfl⟩
                have hFl : F.length = 4 * u := by rw [← hF]; exact flat_len hu
                rw [hF]
                obtain ⟨X, hX⟩ : ∃ X, H.l.getD u 0#32 = X := ⟨_, rfl⟩
                change VOk _ _ _ _ _
                refine vseq ?_
                refine vseq ?_
                apply vrp
                · apply VE.cons
                  · exact ev_move rfl (gn rfl)
                  simp only [nm, seval]
                  apply VE.cons
                  · exact ev_lss rfl (gn rfl) rfl rfl h_q8'
                  simp only [nm, seval]
                  exact VE.nil _
                · kernel_rfl
                change VOk _ _ _ _ _
                cases q8
                · refine vcond_f rfl ?_
                  have hu8 : u = 8 := by have := of_decide_eq_false h_q8; omega
                  subst hu8
                  have hsha : F = sha a := by rw [← hF, ← hH, ← sha_of (m := m) (a := a) (by rw [hPd]; exact hme), hPd]; rfl
                  rw [hsha]
                  refine vexit ?_
                  change VOk _ _ _ _ _
                  refine vseq ?_
                  apply vrp
                  · apply VE.cons
                    · exact ev_move rfl (gn rfl)
                    simp only [nm, seval]
                    apply VE.cons
                    · exact ev_convb (bs := sha a) rfl (gn rfl) rfl Tryd.underlying27 Tryd.underlying5 Tryd.underlying9 (rdg_row rfl)
                    simp only [nm, seval]
                    apply VE.cons
                    · exact ev_assign rfl (gn rfl)
                    simp only [nm, seval]
                    exact VE.nil _
                  · kernel_rfl
                  change VOk _ _ _ _ _
                  refine vret ?_
                  refine post_ret (res1 Tryd.results12 (rv_tmp rfl)) ?_
                  intro ρ w' hr
                  exact ⟨rfl, hr.1⟩
                · refine vcond_t rfl ?_
                  have hlt8 : u < 8 := of_decide_eq_true h_q8
                  refine vskip ?_
                  change VOk _ _ _ _ _
                  refine vseq ?_
                  refine vblock ?_
                  apply vrd (by kernel_rfl)
                  · apply VE.cons
                    · exact ev_move rfl (gn rfl)
                    simp only [nm, seval]
                    apply VE.cons
                    · exact ev_move rfl (gn rfl)
                    simp only [nm, seval]
                    apply VE.cons
                    · exact ev_indexn (k := u) (j := u) rfl (gn rfl) rfl rfl Tryd.underlying40 Tryd.sizeOf39 (by omega) (by omega)
                    simp only [nm, seval]
                    apply VE.cons
                    · exact ev_load1r (v := uv X) rfl (gn rfl) rfl rfl Tryd.underlying39 rfl (by rw [← hX]; exact UL_get (by omega))
                    simp only [nm, seval]
                    apply VE.cons
                    · exact ev_bin rfl (gn rfl) rfl rfl (fun w => shr32 _ 24 (by decide) _ _ w)
                    simp only [nm, seval]
                    apply VE.cons
                    · exact ev_conv rfl (gn rfl) rfl (fun w => cv395 _ w)
                    simp only [nm, seval]
                    apply VE.cons
                    · exact ev_move rfl (gn rfl)
                    simp only [nm, seval]
                    apply VE.cons
                    · exact ev_indexn (k := u) (j := u) rfl (gn rfl) rfl rfl Tryd.underlying40 Tryd.sizeOf39 (by omega) (by omega)
                    simp only [nm, seval]
                    apply VE.cons
                    · exact ev_load1r (v := uv X) rfl (gn rfl) rfl rfl Tryd.underlying39 rfl (by rw [← hX]; exact UL_get (by omega))
                    simp only [nm, seval]
                    apply VE.cons
                    · exact ev_bin rfl (gn rfl) rfl rfl (fun w => shr32 _ 16 (by decide) _ _ w)
                    simp only [nm, seval]
                    apply VE.cons
                    · exact ev_conv rfl (gn rfl) rfl (fun w => cv395 _ w)
                    simp only [nm, seval]
                    apply VE.cons
                    · exact ev_move rfl (gn rfl)
                    simp only [nm, seval]
                    apply VE.cons
                    · exact ev_indexn (k := u) (j := u) rfl (gn rfl) rfl rfl Tryd.underlying40 Tryd.sizeOf39 (by omega) (by omega)
                    simp only [nm, seval]
                    apply VE.cons
                    · exact ev_load1r (v := uv X) rfl (gn rfl) rfl rfl Tryd.underlying39 rfl (by rw [← hX]; exact UL_get (by omega))
                    simp only [nm, seval]
                    apply VE.cons
                    · exact ev_bin rfl (gn rfl) rfl rfl (fun w => shr32 _ 8 (by decide) _ _ w)
                    simp only [nm, seval]
                    apply VE.cons
                    · exact ev_conv rfl (gn rfl) rfl (fun w => cv395 _ w)
                    simp only [nm, seval]
                    apply VE.cons
                    · exact ev_move rfl (gn rfl)
                    simp only [nm, seval]
                    apply VE.cons
                    · exact ev_indexn (k := u) (j := u) rfl (gn rfl) rfl rfl Tryd.underlying40 Tryd.sizeOf39 (by omega) (by omega)
                    simp only [nm, seval]
                    apply VE.cons
                    · exact ev_load1r (v := uv X) rfl (gn rfl) rfl rfl Tryd.underlying39 rfl (by rw [← hX]; exact UL_get (by omega))
                    simp only [nm, seval]
                    apply VE.cons
                    · exact ev_conv rfl (gn rfl) rfl (fun w => cv395 _ w)
                    simp only [nm, seval]
                    apply VE.cons
                    · exact ev_buildslice rfl rfl (gn rfl) rfl (e := 5) (l := [b8 ((X >>> 24).toNat % 256), b8 ((X >>> 16).toNat % 256), b8 ((X >>> 8).toNat % 256), b8 (X.toNat % 256)]) rfl (by decide) (fun _ => by kernel_rfl)
                    simp only [nm, seval]
                    apply VE.cons
                    · exact ev_append rfl rfl (gn rfl) rfl rfl rfl (rdg_row rfl) Tryd.underlying27 el5 (by decide) (by simp [hFl]) rfl (by simp only [maxLen]; omega) (by omega) (by simp)
                    simp only [nm, seval]
                    apply VE.cons
                    · exact ev_assign rfl (gn rfl)
                    simp only [nm, seval]
                    exact VE.nil _
                  · kernel_rfl
                  change VOk _ _ _ _ _
                  apply vrp
                  · apply VE.cons
                    · exact ev_move rfl (gn rfl)
                    simp only [nm, seval]
                    apply VE.cons
                    · exact ev_add (c := ((u + 1 : Nat) : Int)) rfl (gn rfl) rfl rfl (by rw [i64w (by omega) (by omega)]; omega)
                    simp only [nm, seval]
                    apply VE.cons
                    · exact ev_assign rfl (gn rfl)
                    simp only [nm, seval]
                    exact VE.nil _
                  · kernel_rfl
                  refine ⟨⟨u + 1, by omega⟩, by show 8 - (u + 1) < 8 - u; omega, ?_⟩
                  have e7 : F.map b8 ++ [b8 ((X >>> 24).toNat % 256), b8 ((X >>> 16).toNat % 256), b8 ((X >>> 8).toNat % 256), b8 (X.toNat % 256)] = ((H.l.take (u + 1)).flatMap bytes4).map b8 := by rw [flat_step (of_decide_eq_true h_q8), hF, hX, bytes4_sh, List.map_append]; rfl
                  rw [e7, show 4 * u + 4 = 4 * (u + 1) by omega]
                  exact (weaker_forget (fun i => i == 3 || i == 21 || i == 22) [257]).trans2 (fun f => weaker_ren 258 901 (by decide) rfl)
              · refine (weaker_forget (fun i => i == 3 || i == 21 || i == 22) [900, 4]).trans2 (fun f => ?_)
                refine (weaker_name 901 1 5 (.exact []) (fun w => rfl) (m' := [(3, .arr (UL H) 40)]) rfl rfl (fun ρ hv => ?_) (fun ρ hv => ?_))
                · simp [forgetFr, SV.cs, SV.c, hv, nilV]
                · simp [memSim, memDel, Blk.sim]
            · refine vcond_t rfl ?_
              have hlt3 : 64 * m + 64 ≤ Pd.length := by have := of_decide_eq_true h_q3; omega
              obtain ⟨bm, hbm⟩ : ∃ bm, (Pd.drop (64 * m)).take 64 = bm := ⟨_, rfl⟩
              have hb8 : ∀ x ∈ bm, x < 256 := fun x hx => hP8 x (List.mem_of_mem_drop (List.mem_of_mem_take (hbm ▸ hx)))
              refine vskip ?_
              change VOk _ _ _ _ _
              refine vseq ?_
              refine vblock ?_
              refine vseq ?_
              apply vrp
              · apply VE.cons
                · exact ev_allocr (l := WL []) rfl rfl (gn rfl) Tryd.zeroValue50 rfl
                simp only [nm, seval]
                exact VE.nil _
              · kernel_rfl
              change VOk _ _ _ _ _
              refine vseq ?_
              refine vseq ?_
              apply vrp
              · apply VE.cons
                · exact ev_assign rfl (gn rfl)
                simp only [nm, seval]
                exact VE.nil _
              · kernel_rfl
              change VOk _ _ _ _ _
              refine vblock ?_
              refine vloop_w (α := {x : Nat // x ≤ 64}) (fun (x : {x : Nat // x ≤ 64}) f => ⟨[.v (f 0), .v (f 1), .v (f 2), .p 3 0, .p 4 0, .d 900, .v (f 6), .v (f 7), .v (.int .i64 ((64 * m : Nat) : Int)), .p 9 0, .v (.int .i64 (x.1 : Nat)), .v (f 11), .v (f 12), .v (f 13), .v (f 14), .v (f 15), .v (f 16), .v (f 17), .v (f 18), .v (f 19), .v (f 20), .v (f 21), .v (f 22), .v (f 23), .v (f 24), .v (f 25), .v (f 26), .v (f 27), .v (f 28), .v (f 29), .v (f 30), .v (f 31), .v (f 32), .v (f 33), .v (f 34), .v (f 35), .v (f 36), .v (f 37), .v (f 38), .v (f 39), .v (f 40), .v (f 41), .v (f 42), .v (f 43), .v (f 44), .v (f 45), .v (f 46), .v (f 47), .v (f 48), .v (f 49), .v (f 50), .v (f 51), .v (f 52), .v (f 53), .v (f 54), .v (f 55), .v (f 56), .v (f 57), .v (f 58), .v (f 59), .v (f 60), .v (f 61), .v (f 62), .v (f 63), .v (f 64), .v (f 65), .v (f 66), .v (f 67), .v (f 68), .v (f 69), .v (f 70), .v (f 71), .v (f 72), .v (f 73), .v (f 74), .v (f 75), .v (f 76), .v (f 77), .v (f 78), .v (f 79), .v (f 80), .v (f 81), .v (f 82), .v (f 83), .v (f 84), .v (f 85), .v (f 86), .v (f 87), .v (f 88), .v (f 89), .v (f 90), .v (f 91), .v (f 92), .v (f 93), .v (f 94), .v (f 95), .v (f 96), .v (f 97), .v (f 98), .v (f 99), .v (f 100), .v (f 101), .v (f 102), .v (f 103), .v (f 104), .v (f 105), .v (f 106), .v (f 107), .v (f 108), .v (f 109), .v (f 110), .v (f 111), .v (f 112), .v (f 113), .v (f 114), .v (f 115), .v (f 116), .v (f 117), .v (f 118), .v (f 119), .v (f 120), .v (f 121), .v (f 122), .v (f 123), .v (f 124), .v (f 125), .v (f 126), .v (f 127), .v (f 128), .v (f 129), .v (f 130), .v (f 131), .v (f 132), .v (f 133), .v (f 134), .v (f 135), .v (f 136), .v (f 137), .v (f 138), .v (f 139), .v (f 140), .v (f 141), .v (f 142), .v (f 143), .v (f 144), .v (f 145), .v (f 146), .v (f 147), .v (f 148), .v (f 149), .v (f 150), .v (f 151), .v (f 152), .v (f 153), .v (f 154), .v (f 155), .v (f 156), .v (f 157), .v (f 158), .v (f 159), .v (f 160), .v (f 161), .v (f 162), .v (f 163), .v (f 164), .v (f 165), .v (f 166), .v (f 167), .v (f 168), .v (f 169), .v (f 170), .v (f 171), .v (f 172), .v (f 173), .v (f 174), .v (f 175), .v (f 176), .v (f 177), .v (f 178), .v (f 179), .v (f 180), .v (f 181), .v (f 182), .v (f 183), .v (f 184), .v (f 185), .v (f 186), .v (f 187), .v (f 188), .v (f 189), .v (f 190), .v (f 191), .v (f 192), .v (f 193), .v (f 194), .v (f 195), .v (f 196), .v (f 197), .v (f 198), .v (f 199), .v (f 200), .v (f 201), .v (f 202), .v (f 203), .v (f 204), .v (f 205), .v (f 206), .v (f 207), .v (f 208), .v (f 209), .v (f 210), .v (f 211), .v (f 212), .v (f 213), .v (f 214), .v (f 215), .v (f 216), .v (f 217), .v (f 218), .v (f 219), .v (f 220), .v (f 221), .v (f 222), .v (f 223), .v (f 224), .v (f 225), .v (f 226), .v (f 227), .v (f 228), .v (f 229), .v (f 230), .v (f 231), .v (f 232), .v (f 233), .v (f 234), .v (f 235), .v (f 236), .v (f 237), .v (f 238), .v (f 239), .v (f 240), .v (f 241), .v (f 242), .v (f 243), .v (f 244), .v (f 245), .v (f 246), .v (f 247), .v (f 248), .v (f 249), .v (f 250), .v (f 251), .v (f 252), .v (f 253), .v (f 254), .v (f 255), .v (f 256), .v (f 257), .v (f 258), .v (f 259), .v (f 260)], memOf [(9, .arr (WL (schI bm x.1)) 50), (900, .row (Pd.length) 1 5 (.exact ((Pd).map b8))), (4, .arr (K.map uv) 50), (3, .arr (UL (H)) 40)]⟩) (fun x => 64 - x.1) ?_ (⟨0, Nat.zero_le _⟩) ?_
              · rintro ⟨i, hi⟩ f
                obtain ⟨q4, h_q4⟩ : ∃ q, decide (i < 64) = q := ⟨_, rfl⟩
                have h_q4' := (nat_lt i 64).trans h_q4
                obtain ⟨M, hM⟩ : ∃ M, schI bm i = M := ⟨_, rfl⟩
                have hMl : M.length = i := by rw [← hM, schI_len]
                rw [hM]
                obtain ⟨q5, h_q5⟩ : ∃ q, decide (i < 16) = q := ⟨_, rfl⟩
                have h_q5' := (nat_lt i 16).trans h_q5
                change VOk _ _ _ _ _
                refine vseq ?_
                refine vseq ?_
                apply vrp
                · apply VE.cons
                  · exact ev_move rfl (gn rfl)
                  simp only [nm, seval]
                  apply VE.cons
                  · exact ev_lss rfl (gn rfl) rfl rfl h_q4'
                  simp only [nm, seval]
                  exact VE.nil _
                · kernel_rfl
                change VOk _ _ _ _ _
                cases q4
                · refine vcond_f rfl ?_
                  have h64 : i = 64 := by have := of_decide_eq_false h_q4; omega
                  obtain ⟨Wd, hWd⟩ : ∃ Wd, sched bm = Wd := ⟨_, rfl⟩
                  have hMs : M = Wd := by rw [← hM, h64, schI_all]; exact hWd
                  have hWl : Wd.length = 64 := by rw [← hWd, sched_len]
                  rw [hMs]
                  refine vexit ?_
                  change VOk _ _ _ _ _
                  refine vseq ?_
                  apply vrp
                  · apply VE.cons
                    · exact ev_loadr (vs := UL H) rfl (gn rfl) rfl rfl Tryd.underlying40 rfl Tryd.sizeOf40 (List.take_of_length_le (Nat.le_refl 8)) rfl
                    simp only [nm, seval]
                    apply VE.cons
                    · exact ev_allocr (l := List.replicate 8 (uv 0#32)) rfl rfl (gn rfl) Tryd.zeroValue40 rfl
                    simp only [nm, seval]
                    apply VE.cons
                    · first | exact ev_storer (l' := UL H0) rfl (gn rfl) rfl rfl rfl Tryd.sizeOf40 rfl (by decide) rfl rfl | exact ev_storer (l' := UL H) rfl (gn rfl) rfl rfl rfl Tryd.sizeOf40 rfl (by decide) rfl rfl | exact ev_storer (l' := UL (Q.step (K.getD j 0#32) (Wd.getD j 0#32))) rfl (gn rfl) rfl rfl rfl Tryd.sizeOf40 rfl (Nat.le_refl 8) rfl (step_ref Q _ _)
                    simp only [nm, seval]
                    exact VE.nil _
                  · kernel_rfl
                  change VOk _ _ _ _ _
                  refine vseq ?_
                  refine vseq ?_
                  apply vrp
                  · apply VE.cons
                    · exact ev_assign rfl (gn rfl)
                    simp only [nm, seval]
                    exact VE.nil _
                  · kernel_rfl
                  change VOk _ _ _ _ _
                  refine vblock ?_
                  refine vloop_w (α := {x : Nat // x ≤ 64}) (fun (x : {x : Nat // x ≤ 64}) f => ⟨[.v (f 0), .v (f 1), .v (f 2), .p 3 0, .p 4 0, .d 900, .v (f 6), .v (f 7), .v (.int .i64 ((64 * m : Nat) : Int)), .p 9 0, .v (f 10), .v (f 11), .v (f 12), .v (f 13), .p 14 0, .v (.int .i64 (x.1 : Nat)), .v (f 16), .v (f 17), .v (f 18), .v (f 19), .v (f 20), .v (f 21), .v (f 22), .v (f 23), .v (f 24), .v (f 25), .v (f 26), .v (f 27), .v (f 28), .v (f 29), .v (f 30), .v (f 31), .v (f 32), .v (f 33), .v (f 34), .v (f 35), .v (f 36), .v (f 37), .v (f 38), .v (f 39), .v (f 40), .v (f 41), .v (f 42), .v (f 43), .v (f 44), .v (f 45), .v (f 46), .v (f 47), .v (f 48), .v (f 49), .v (f 50), .v (f 51), .v (f 52), .v (f 53), .v (f 54), .v (f 55), .v (f 56), .v (f 57), .v (f 58), .v (f 59), .v (f 60), .v (f 61), .v (f 62), .v (f 63), .v (f 64), .v (f 65), .v (f 66), .v (f 67), .v (f 68), .v (f 69), .v (f 70), .v (f 71), .v (f 72), .v (f 73), .v (f 74), .v (f 75), .v (f 76), .v (f 77), .v (f 78), .v (f 79), .v (f 80), .v (f 81), .v (f 82), .v (f 83), .v (f 84), .v (f 85), .v (f 86), .v (f 87), .v (f 88), .v (f 89), .v (f 90), .v (f 91), .v (f 92), .v (f 93), .v (f 94), .v (f 95), .v (f 96), .v (f 97), .v (f 98), .v (f 99), .v (f 100), .v (f 101), .v (f 102), .v (f 103), .v (f 104), .v (f 105), .v (f 106), .v (f 107), .v (f 108), .v (f 109), .v (f 110), .v (f 111), .v (f 112), .v (f 113), .v (f 114), .v (f 115), .v (f 116), .v (f 117), .v (f 118), .v (f 119), .v (f 120), .v (f 121), .v (f 122), .v (f 123), .v (f 124), .v (f 125), .v (f 126), .v (f 127), .v (f 128), .v (f 129), .v (f 130), .v (f 131), .v (f 132), .v (f 133), .v (f 134), .v (f 135), .v (f 136), .v (f 137), .v (f 138), .v (f 139), .v (f 140), .v (f 141), .v (f 142), .v (f 143), .v (f 144), .v (f 145), .v (f 146), .v (f 147), .v (f 148), .v (f 149), .v (f 150), .v (f 151), .v (f 152), .v (f 153), .v (f 154), .v (f 155), .v (f 156), .v (f 157), .v (f 158), .v (f 159), .v (f 160), .v (f 161), .v (f 162), .v (f 163), .v (f 164), .v (f 165), .v (f 166), .v (f 167), .v (f 168), .v (f 169), .v (f 170), .v (f 171), .v (f 172), .v (f 173), .v (f 174), .v (f 175), .v (f 176), .v (f 177), .v (f 178), .v (f 179), .v (f 180), .v (f 181), .v (f 182), .v (f 183), .v (f 184), .v (f 185), .v (f 186), .v (f 187), .v (f 188), .v (f 189), .v (f 190), .v (f 191), .v (f 192), .v (f 193), .v (f 194), .v (f 195), .v (f 196), .v (f 197), .v (f 198), .v (f 199), .v (f 200), .v (f 201), .v (f 202), .v (f 203), .v (f 204), .v (f 205), .v (f 206), .v (f 207), .v (f 208), .v (f 209), .v (f 210), .v (f 211), .v (f 212), .v (f 213), .v (f 214), .v (f 215), .v (f 216), .v (f 217), .v (f 218), .v (f 219), .v (f 220), .v (f 221), .v (f 222), .v (f 223), .v (f 224), .v (f 225), .v (f 226), .v (f 227), .v (f 228), .v (f 229), .v (f 230), .v (f 231), .v (f 232), .v (f 233), .v (f 234), .v (f 235), .v (f 236), .v (f 237), .v (f 238), .v (f 239), .v (f 240), .v (f 241), .v (f 242), .v (f 243), .v (f 244), .v (f 245), .v (f 246), .v (f 247), .v (f 248), .v (f 249), .v (f 250), .v (f 251), .v (f 252), .v (f 253), .v (f 254), .v (f 255), .v (f 256), .v (f 257), .v (f 258), .v (f 259), .v (f 260)], memOf [(14, .arr (UL (St.run Wd H x.1)) 40), (9, .arr (WL Wd) 50), (900, .row (Pd.length) 1 5 (.exact ((Pd).map b8))), (4, .arr (K.map uv) 50), (3, .arr (UL (H)) 40)]⟩) (fun x => 64 - x.1) ?_ (⟨0, Nat.zero_le _⟩) ?_
                  · rintro ⟨j, hj⟩ f
                    obtain ⟨q6, h_q6⟩ : ∃ q, decide (j < 64) = q := ⟨_, rfl⟩
                    have h_q6' := (nat_lt j 64).trans h_q6
                    obtain ⟨Q, hQ⟩ : ∃ Q, St.run Wd H j = Q := ⟨_, rfl⟩
                    rw [hQ]
                    change VOk _ _ _ _ _
                    refine vseq ?_
                    refine vseq ?_
                    apply vrp
                    · apply VE.cons
                      · exact ev_move rfl (gn rfl)
                      simp only [nm, seval]
                      apply VE.cons
                      · exact ev_lss rfl (gn rfl) rfl rfl h_q6'
                      simp only [nm, seval]
                      exact VE.nil _
                    · kernel_rfl
                    change VOk _ _ _ _ _
                    cases q6
                    · refine vcond_f rfl ?_
                      have hj64 : j = 64 := by have := of_decide_eq_false h_q6; omega
                      obtain ⟨V, hVQ⟩ : ∃ V, Q = V := ⟨_, rfl⟩
                      have hV : St.run (sched ((Pd.drop (64 * m)).take 64)) H 64 = V := by rw [hbm, hWd, ← hj64, hQ]; exact hVQ
                      rw [hVQ, show UL H = AL H V 0 from rfl]
                      refine vexit ?_
                      change VOk _ _ _ _ _
                      refine vseq ?_
                      apply vrp
                      · apply VE.cons
                        · exact ev_assign rfl (gn rfl)
                        simp only [nm, seval]
                        exact VE.nil _
                      · kernel_rfl
                      change VOk _ _ _ _ _
                      refine vblock ?_
                      refine vloop_w (α := {x : Nat // x ≤ 8}) (fun (x : {x : Nat // x ≤ 8}) f => ⟨[.v (f 0), .v (f 1), .v (f 2), .p 3 0, .p 4 0, .d 900, .v (f 6), .v (f 7), .v (.int .i64 ((64 * m : Nat) : Int)), .p 9 0, .v (f 10), .v (f 11), .v (f 12), .v (f 13), .p 14 0, .v (f 15), .v (f 16), .v (f 17), .v (f 18), .v (f 19), .v (.int .i64 (x.1 : Nat)), .v (f 21), .v (f 22), .v (f 23), .v (f 24), .v (f 25), .v (f 26), .v (f 27), .v (f 28), .v (f 29), .v (f 30), .v (f 31), .v (f 32), .v (f 33), .v (f 34), .v (f 35), .v (f 36), .v (f 37), .v (f 38), .v (f 39), .v (f 40), .v (f 41), .v (f 42), .v (f 43), .v (f 44), .v (f 45), .v (f 46), .v (f 47), .v (f 48), .v (f 49), .v (f 50), .v (f 51), .v (f 52), .v (f 53), .v (f 54), .v (f 55), .v (f 56), .v (f 57), .v (f 58), .v (f 59), .v (f 60), .v (f 61), .v (f 62), .v (f 63), .v (f 64), .v (f 65), .v (f 66), .v (f 67), .v (f 68), .v (f 69), .v (f 70), .v (f 71), .v (f 72), .v (f 73), .v (f 74), .v (f 75), .v (f 76), .v (f 77), .v (f 78), .v (f 79), .v (f 80), .v (f 81), .v (f 82), .v (f 83), .v (f 84), .v (f 85), .v (f 86), .v (f 87), .v (f 88), .v (f 89), .v (f 90), .v (f 91), .v (f 92), .v (f 93), .v (f 94), .v (f 95), .v (f 96), .v (f 97), .v (f 98), .v (f 99), .v (f 100), .v (f 101), .v (f 102), .v (f 103), .v (f 104), .v (f 105), .v (f 106), .v (f 107), .v (f 108), .v (f 109), .v (f 110), .v (f 111), .v (f 112), .v (f 113), .v (f 114), .v (f 115), .v (f 116), .v (f 117), .v (f 118), .v (f 119), .v (f 120), .v (f 121), .v (f 122), .v (f 123), .v (f 124), .v (f 125), .v (f 126), .v (f 127), .v (f 128), .v (f 129), .v (f 130), .v (f 131), .v (f 132), .v (f 133), .v (f 134), .v (f 135), .v (f 136), .v (f 137), .v (f 138), .v (f 139), .v (f 140), .v (f 141), .v (f 142), .v (f 143), .v (f 144), .v (f 145), .v (f 146), .v (f 147), .v (f 148), .v (f 149), .v (f 150), .v (f 151), .v (f 152), .v (f 153), .v (f 154), .v (f 155), .v (f 156), .v (f 157), .v (f 158), .v (f 159), .v (f 160), .v (f 161), .v (f 162), .v (f 163), .v (f 164), .v (f 165), .v (f 166), .v (f 167), .v (f 168), .v (f 169), .v (f 170), .v (f 171), .v (f 172), .v (f 173), .v (f 174), .v (f 175), .v (f 176), .v (f 177), .v (f 178), .v (f 179), .v (f 180), .v (f 181), .v (f 182), .v (f 183), .v (f 184), .v (f 185), .v (f 186), .v (f 187), .v (f 188), .v (f 189), .v (f 190), .v (f 191), .v (f 192), .v (f 193), .v (f 194), .v (f 195), .v (f 196), .v (f 197), .v (f 198), .v (f 199), .v (f 200), .v (f 201), .v (f 202), .v (f 203), .v (f 204), .v (f 205), .v (f 206), .v (f 207), .v (f 208), .v (f 209), .v (f 210), .v (f 211), .v (f 212), .v (f 213), .v (f 214), .v (f 215), .v (f 216), .v (f 217), .v (f 218), .v (f 219), .v (f 220), .v (f 221), .v (f 222), .v (f 223), .v (f 224), .v (f 225), .v (f 226), .v (f 227), .v (f 228), .v (f 229), .v (f 230), .v (f 231), .v (f 232), .v (f 233), .v (f 234), .v (f 235), .v (f 236), .v (f 237), .v (f 238), .v (f 239), .v (f 240), .v (f 241), .v (f 242), .v (f 243), .v (f 244), .v (f 245), .v (f 246), .v (f 247), .v (f 248), .v (f 249), .v (f 250), .v (f 251), .v (f 252), .v (f 253), .v (f 254), .v (f 255), .v (f 256), .v (f 257), .v (f 258), .v (f 259), .v (f 260)], memOf [(14, .arr (UL V) 40), (9, .arr (WL Wd) 50), (900, .row (Pd.length) 1 5 (.exact ((Pd).map b8))), (4, .arr (K.map uv) 50), (3, .arr (AL H V x.1) 40)]⟩) (fun x => 8 - x.1) ?_ (⟨0, Nat.zero_le _⟩) ?_
                      · rintro ⟨z, hz⟩ f
                        obtain ⟨q7, h_q7⟩ : ∃ q, decide (z < 8) = q := ⟨_, rfl⟩
                        have h_q7' := (nat_lt z 8).trans h_q7
                        change VOk _ _ _ _ _
                        refine vseq ?_
                        refine vseq ?_
                        apply vrp
                        · apply VE.cons
                          · exact ev_move rfl (gn rfl)
                          simp only [nm, seval]
                          apply VE.cons
                          · exact ev_lss rfl (gn rfl) rfl rfl h_q7'
                          simp only [nm, seval]
                          exact VE.nil _
                        · kernel_rfl
                        change VOk _ _ _ _ _
                        cases q7
                        · refine vcond_f rfl ?_
                          have hz8 : z = 8 := by have := of_decide_eq_false h_q7; omega
                          subst hz8
                          refine vexit ?_
                          change VOk _ _ _ _ _
                          apply vrp
                          · apply VE.cons
                            · exact ev_move rfl (gn rfl)
                            simp only [nm, seval]
                            apply VE.cons
                            · exact ev_add (c := ((64 * (m + 1) : Nat) : Int)) rfl (gn rfl) rfl rfl (by rw [i64w (by omega) (by omega)]; omega)
                            simp only [nm, seval]
                            apply VE.cons
                            · exact ev_assign rfl (gn rfl)
                            simp only [nm, seval]
                            exact VE.nil _
                          · kernel_rfl
                          refine ⟨⟨m + 1, by omega⟩, by show Pd.length - 64 * (m + 1) < Pd.length - 64 * m; omega, ?_⟩
                          have e3 : AL H V 8 = UL (pressN H0 Pd (m + 1)) := by rw [show pressN H0 Pd (m + 1) = H.add V by rw [← hV, ← hH]; rfl]; rfl
                          rw [e3]
                          exact weaker_forget (fun i => i == 3 || i == 4 || i == 5 || i == 8) [14, 9]
                        · refine vcond_t rfl ?_
                          have hlt7 : z < 8 := of_decide_eq_true h_q7
                          refine vskip ?_
                          change VOk _ _ _ _ _
                          refine vseq ?_
                          refine vblock ?_
                          apply vrd (by kernel_rfl)
                          · apply VE.cons
                            · exact ev_move rfl (gn rfl)
                            simp only [nm, seval]
                            apply VE.cons
                            · exact ev_move rfl (gn rfl)
                            simp only [nm, seval]
                            apply VE.cons
                            · exact ev_indexn (k := z) (j := z) rfl (gn rfl) rfl rfl Tryd.underlying40 Tryd.sizeOf39 (by omega) (by omega)
                            simp only [nm, seval]
                            apply VE.cons
                            · exact ev_load1r (v := uv (H.l.getD z 0#32)) rfl (gn rfl) rfl rfl Tryd.underlying39 rfl (AL_get (by omega))
                            simp only [nm, seval]
                            apply VE.cons
                            · exact ev_move rfl (gn rfl)
                            simp only [nm, seval]
                            apply VE.cons
                            · exact ev_indexn (k := z) (j := z) rfl (gn rfl) rfl rfl Tryd.underlying40 Tryd.sizeOf39 (by omega) (by omega)
                            simp only [nm, seval]
                            apply VE.cons
                            · exact ev_load1r (v := uv (V.l.getD z 0#32)) rfl (gn rfl) rfl rfl Tryd.underlying39 rfl (UL_get (by omega))
                            simp only [nm, seval]
                            apply VE.cons
                            · exact ev_bin rfl (gn rfl) rfl rfl (fun w => add32 _ _ _ _ w)
                            simp only [nm, seval]
                            apply VE.cons
                            · exact ev_indexn (k := z) (j := z) rfl (gn rfl) rfl rfl Tryd.underlying40 Tryd.sizeOf39 (by omega) (by omega)
                            simp only [nm, seval]
                            apply VE.cons
                            · first | exact ev_storer (l' := WL (M ++ [wordAt bm i])) rfl (gn rfl) rfl rfl rfl Tryd.sizeOf39 rfl (by rw [WL_len (by omega)]; omega) rfl hw1 | exact ev_storer (l' := WL (M ++ [nextW M])) rfl (gn rfl) rfl rfl rfl Tryd.sizeOf39 rfl (by rw [WL_len (by omega)]; omega) rfl hw2 | exact ev_storer (l' := AL H V (z + 1)) rfl (gn rfl) rfl rfl rfl Tryd.sizeOf39 rfl (by rw [AL_len (by omega)]; omega) rfl (AL_set (by omega))
                            simp only [nm, seval]
                            exact VE.nil _
                          · kernel_rfl
                          change VOk _ _ _ _ _
                          apply vrp
                          · apply VE.cons
                            · exact ev_move rfl (gn rfl)
                            simp only [nm, seval]
                            apply VE.cons
                            · exact ev_add (c := ((z + 1 : Nat) : Int)) rfl (gn rfl) rfl rfl (by rw [i64w (by omega) (by omega)]; omega)
                            simp only [nm, seval]
                            apply VE.cons
                            · exact ev_assign rfl (gn rfl)
                            simp only [nm, seval]
                            exact VE.nil _
                          · kernel_rfl
                          refine ⟨⟨z + 1, by omega⟩, by show 8 - (z + 1) < 8 - z; omega, ?_⟩
                          exact weaker_forget (fun i => i == 3 || i == 4 || i == 5 || i == 8 || i == 9 || i == 14 || i == 20) []
                      · exact weaker_forget (fun i => i == 3 || i == 4 || i == 5 || i == 8 || i == 9 || i == 14 || i == 20) []
                    · refine vcond_t rfl ?_
                      have hlt6 : j < 64 := of_decide_eq_true h_q6
                      refine vskip ?_
                      change VOk _ _ _ _ _
                      refine vseq ?_
                      refine vblock ?_
                      refine vseq ?_
                      apply vrd (by kernel_rfl)
                      · apply VE.cons
                        · first | exact ev_index rfl (gn rfl) rfl rfl Tryd.underlying40 Tryd.sizeOf39 (by decide) (by decide) | exact ev_indexx rfl (gn rfl) rfl rfl Tryd.underlying40 Tryd.sizeOf39 (by decide) (by decide)
                        simp only [nm, seval]
                        apply VE.cons
                        · exact ev_load1r (v := uv Q.e) rfl (gn rfl) rfl rfl Tryd.underlying39 rfl rfl
                        simp only [nm, seval]
                        apply VE.cons
                        · first | exact ev_index rfl (gn rfl) rfl rfl Tryd.underlying40 Tryd.sizeOf39 (by decide) (by decide) | exact ev_indexx rfl (gn rfl) rfl rfl Tryd.underlying40 Tryd.sizeOf39 (by decide) (by decide)
                        simp only [nm, seval]
                        apply VE.cons
                        · exact ev_load1r (v := uv Q.a) rfl (gn rfl) rfl rfl Tryd.underlying39 rfl rfl
                        simp only [nm, seval]
                        apply VE.cons
                        · exact ev_assign rfl (gn rfl)
                        simp only [nm, seval]
                        apply VE.cons
                        · exact ev_assign rfl (gn rfl)
                        simp only [nm, seval]
                        exact VE.nil _
                      · kernel_rfl
                      change VOk _ _ _ _ _
                      refine vseq ?_
                      apply vrd (by kernel_rfl)
                      · apply VE.cons
                        · first | exact ev_index rfl (gn rfl) rfl rfl Tryd.underlying40 Tryd.sizeOf39 (by decide) (by decide) | exact ev_indexx rfl (gn rfl) rfl rfl Tryd.underlying40 Tryd.sizeOf39 (by decide) (by decide)
                        simp only [nm, seval]
                        apply VE.cons
                        · exact ev_load1r (v := uv Q.h) rfl (gn rfl) rfl rfl Tryd.underlying39 rfl rfl
                        simp only [nm, seval]
                        apply VE.cons
                        · exact ev_move rfl (gn rfl)
                        simp only [nm, seval]
                        apply VE.cons
                        · exact ev_callb (v := uv (rr (Q.e) 6)) rfl (gn rfl) rfl (en_of Tryd.func19 (by kernel_rfl) rfl) (fun w' hb => turn_ok (Q.e) (by decide) (by decide) w')
                        simp only [nm, seval]
                        apply VE.cons
                        · exact ev_move rfl (gn rfl)
                        simp only [nm, seval]
                        apply VE.cons
                        · exact ev_callb (v := uv (rr (Q.e) 11)) rfl (gn rfl) rfl (en_of Tryd.func19 (by kernel_rfl) rfl) (fun w' hb => turn_ok (Q.e) (by decide) (by decide) w')
                        simp only [nm, seval]
                        apply VE.cons
                        · exact ev_bin rfl (gn rfl) rfl rfl (fun w => xor32 _ _ _ _ w)
                        simp only [nm, seval]
                        apply VE.cons
                        · exact ev_move rfl (gn rfl)
                        simp only [nm, seval]
                        apply VE.cons
                        · exact ev_callb (v := uv (rr (Q.e) 25)) rfl (gn rfl) rfl (en_of Tryd.func19 (by kernel_rfl) rfl) (fun w' hb => turn_ok (Q.e) (by decide) (by decide) w')
                        simp only [nm, seval]
                        apply VE.cons
                        · exact ev_bin rfl (gn rfl) rfl rfl (fun w => xor32 _ _ _ _ w)
                        simp only [nm, seval]
                        apply VE.cons
                        · exact ev_bin rfl (gn rfl) rfl rfl (fun w => add32 _ _ _ _ w)
                        simp only [nm, seval]
                        apply VE.cons
                        · exact ev_move rfl (gn rfl)
                        simp only [nm, seval]
                        apply VE.cons
                        · first | exact ev_index rfl (gn rfl) rfl rfl Tryd.underlying40 Tryd.sizeOf39 (by decide) (by decide) | exact ev_indexx rfl (gn rfl) rfl rfl Tryd.underlying40 Tryd.sizeOf39 (by decide) (by decide)
                        simp only [nm, seval]
                        apply VE.cons
                        · exact ev_load1r (v := uv Q.f) rfl (gn rfl) rfl rfl Tryd.underlying39 rfl rfl
                        simp only [nm, seval]
                        apply VE.cons
                        · exact ev_bin rfl (gn rfl) rfl rfl (fun w => and32 _ _ _ _ w)
                        simp only [nm, seval]
                        apply VE.cons
                        · exact ev_move rfl (gn rfl)
                        simp only [nm, seval]
                        apply VE.cons
                        · exact ev_un rfl (gn rfl) rfl (fun w => not32 _ w)
                        simp only [nm, seval]
                        apply VE.cons
                        · first | exact ev_index rfl (gn rfl) rfl rfl Tryd.underlying40 Tryd.sizeOf39 (by decide) (by decide) | exact ev_indexx rfl (gn rfl) rfl rfl Tryd.underlying40 Tryd.sizeOf39 (by decide) (by decide)
                        simp only [nm, seval]
                        apply VE.cons
                        · exact ev_load1r (v := uv Q.g) rfl (gn rfl) rfl rfl Tryd.underlying39 rfl rfl
                        simp only [nm, seval]
                        apply VE.cons
                        · exact ev_bin rfl (gn rfl) rfl rfl (fun w => and32 _ _ _ _ w)
                        simp only [nm, seval]
                        apply VE.cons
                        · exact ev_bin rfl (gn rfl) rfl rfl (fun w => xor32 _ _ _ _ w)
                        simp only [nm, seval]
                        apply VE.cons
                        · exact ev_bin rfl (gn rfl) rfl rfl (fun w => add32 _ _ _ _ w)
                        simp only [nm, seval]
                        apply VE.cons
                        · exact ev_move rfl (gn rfl)
                        simp only [nm, seval]
                        apply VE.cons
                        · exact ev_indexn (k := j) (j := j) rfl (gn rfl) rfl rfl Tryd.underlying50 Tryd.sizeOf39 (by omega) (by omega)
                        simp only [nm, seval]
                        apply VE.cons
                        · exact ev_load1r (v := uv (K.getD j 0#32)) rfl (gn rfl) rfl rfl Tryd.underlying39 rfl (K_get (by omega))
                        simp only [nm, seval]
                        apply VE.cons
                        · exact ev_bin rfl (gn rfl) rfl rfl (fun w => add32 _ _ _ _ w)
                        simp only [nm, seval]
                        apply VE.cons
                        · exact ev_move rfl (gn rfl)
                        simp only [nm, seval]
                        apply VE.cons
                        · exact ev_indexn (k := j) (j := j) rfl (gn rfl) rfl rfl Tryd.underlying50 Tryd.sizeOf39 (by omega) (by omega)
                        simp only [nm, seval]
                        apply VE.cons
                        · exact ev_load1r (v := uv (Wd.getD j 0#32)) rfl (gn rfl) rfl rfl Tryd.underlying39 rfl (WL_get (by omega))
                        simp only [nm, seval]
                        apply VE.cons
                        · exact ev_bin rfl (gn rfl) rfl rfl (fun w => add32 _ _ _ _ w)
                        simp only [nm, seval]
                        apply VE.cons
                        · exact ev_assign rfl (gn rfl)
                        simp only [nm, seval]
                        exact VE.nil _
                      · kernel_rfl
                      change VOk _ _ _ _ _
                      refine vseq ?_
                      apply vrd (by kernel_rfl)
                      · apply VE.cons
                        · exact ev_move rfl (gn rfl)
                        simp only [nm, seval]
                        apply VE.cons
                        · exact ev_callb (v := uv (rr (Q.a) 2)) rfl (gn rfl) rfl (en_of Tryd.func19 (by kernel_rfl) rfl) (fun w' hb => turn_ok (Q.a) (by decide) (by decide) w')
                        simp only [nm, seval]
                        apply VE.cons
                        · exact ev_move rfl (gn rfl)
                        simp only [nm, seval]
                        apply VE.cons
                        · exact ev_callb (v := uv (rr (Q.a) 13)) rfl (gn rfl) rfl (en_of Tryd.func19 (by kernel_rfl) rfl) (fun w' hb => turn_ok (Q.a) (by decide) (by decide) w')
                        simp only [nm, seval]
                        apply VE.cons
                        · exact ev_bin rfl (gn rfl) rfl rfl (fun w => xor32 _ _ _ _ w)
                        simp only [nm, seval]
                        apply VE.cons
                        · exact ev_move rfl (gn rfl)
                        simp only [nm, seval]
                        apply VE.cons
                        · exact ev_callb (v := uv (rr (Q.a) 22)) rfl (gn rfl) rfl (en_of Tryd.func19 (by kernel_rfl) rfl) (fun w' hb => turn_ok (Q.a) (by decide) (by decide) w')
                        simp only [nm, seval]
                        apply VE.cons
                        · exact ev_bin rfl (gn rfl) rfl rfl (fun w => xor32 _ _ _ _ w)
                        simp only [nm, seval]
                        apply VE.cons
                        · exact ev_move rfl (gn rfl)
                        simp only [nm, seval]
                        apply VE.cons
                        · first | exact ev_index rfl (gn rfl) rfl rfl Tryd.underlying40 Tryd.sizeOf39 (by decide) (by decide) | exact ev_indexx rfl (gn rfl) rfl rfl Tryd.underlying40 Tryd.sizeOf39 (by decide) (by decide)
                        simp only [nm, seval]
                        apply VE.cons
                        · exact ev_load1r (v := uv Q.b) rfl (gn rfl) rfl rfl Tryd.underlying39 rfl rfl
                        simp only [nm, seval]
                        apply VE.cons
                        · exact ev_bin rfl (gn rfl) rfl rfl (fun w => and32 _ _ _ _ w)
                        simp only [nm, seval]
                        apply VE.cons
                        · exact ev_move rfl (gn rfl)
                        simp only [nm, seval]
                        apply VE.cons
                        · first | exact ev_index rfl (gn rfl) rfl rfl Tryd.underlying40 Tryd.sizeOf39 (by decide) (by decide) | exact ev_indexx rfl (gn rfl) rfl rfl Tryd.underlying40 Tryd.sizeOf39 (by decide) (by decide)
                        simp only [nm, seval]
                        apply VE.cons
                        · exact ev_load1r (v := uv Q.c) rfl (gn rfl) rfl rfl Tryd.underlying39 rfl rfl
                        simp only [nm, seval]
                        apply VE.cons
                        · exact ev_bin rfl (gn rfl) rfl rfl (fun w => and32 _ _ _ _ w)
                        simp only [nm, seval]
                        apply VE.cons
                        · exact ev_bin rfl (gn rfl) rfl rfl (fun w => xor32 _ _ _ _ w)
                        simp only [nm, seval]
                        apply VE.cons
                        · first | exact ev_index rfl (gn rfl) rfl rfl Tryd.underlying40 Tryd.sizeOf39 (by decide) (by decide) | exact ev_indexx rfl (gn rfl) rfl rfl Tryd.underlying40 Tryd.sizeOf39 (by decide) (by decide)
                        simp only [nm, seval]
                        apply VE.cons
                        · exact ev_load1r (v := uv Q.b) rfl (gn rfl) rfl rfl Tryd.underlying39 rfl rfl
                        simp only [nm, seval]
                        apply VE.cons
                        · first | exact ev_index rfl (gn rfl) rfl rfl Tryd.underlying40 Tryd.sizeOf39 (by decide) (by decide) | exact ev_indexx rfl (gn rfl) rfl rfl Tryd.underlying40 Tryd.sizeOf39 (by decide) (by decide)
                        simp only [nm, seval]
                        apply VE.cons
                        · exact ev_load1r (v := uv Q.c) rfl (gn rfl) rfl rfl Tryd.underlying39 rfl rfl
                        simp only [nm, seval]
                        apply VE.cons
                        · exact ev_bin rfl (gn rfl) rfl rfl (fun w => and32 _ _ _ _ w)
                        simp only [nm, seval]
                        apply VE.cons
                        · exact ev_bin rfl (gn rfl) rfl rfl (fun w => xor32 _ _ _ _ w)
                        simp only [nm, seval]
                        apply VE.cons
                        · exact ev_bin rfl (gn rfl) rfl rfl (fun w => add32 _ _ _ _ w)
                        simp only [nm, seval]
                        apply VE.cons
                        · exact ev_assign rfl (gn rfl)
                        simp only [nm, seval]
                        exact VE.nil _
                      · kernel_rfl
                      change VOk _ _ _ _ _
                      apply vrp
                      · apply VE.cons
                        · exact ev_move rfl (gn rfl)
                        simp only [nm, seval]
                        apply VE.cons
                        · exact ev_move rfl (gn rfl)
                        simp only [nm, seval]
                        apply VE.cons
                        · exact ev_bin rfl (gn rfl) rfl rfl (fun w => add32 _ _ _ _ w)
                        simp only [nm, seval]
                        apply VE.cons
                        · first | exact ev_index rfl (gn rfl) rfl rfl Tryd.underlying40 Tryd.sizeOf39 (by decide) (by decide) | exact ev_indexx rfl (gn rfl) rfl rfl Tryd.underlying40 Tryd.sizeOf39 (by decide) (by decide)
                        simp only [nm, seval]
                        apply VE.cons
                        · exact ev_load1r (v := uv Q.a) rfl (gn rfl) rfl rfl Tryd.underlying39 rfl rfl
                        simp only [nm, seval]
                        apply VE.cons
                        · first | exact ev_index rfl (gn rfl) rfl rfl Tryd.underlying40 Tryd.sizeOf39 (by decide) (by decide) | exact ev_indexx rfl (gn rfl) rfl rfl Tryd.underlying40 Tryd.sizeOf39 (by decide) (by decide)
                        simp only [nm, seval]
                        apply VE.cons
                        · exact ev_load1r (v := uv Q.b) rfl (gn rfl) rfl rfl Tryd.underlying39 rfl rfl
                        simp only [nm, seval]
                        apply VE.cons
                        · first | exact ev_index rfl (gn rfl) rfl rfl Tryd.underlying40 Tryd.sizeOf39 (by decide) (by decide) | exact ev_indexx rfl (gn rfl) rfl rfl Tryd.underlying40 Tryd.sizeOf39 (by decide) (by decide)
                        simp only [nm, seval]
                        apply VE.cons
                        · exact ev_load1r (v := uv Q.c) rfl (gn rfl) rfl rfl Tryd.underlying39 rfl rfl
                        simp only [nm, seval]
                        apply VE.cons
                        · first | exact ev_index rfl (gn rfl) rfl rfl Tryd.underlying40 Tryd.sizeOf39 (by decide) (by decide) | exact ev_indexx rfl (gn rfl) rfl rfl Tryd.underlying40 Tryd.sizeOf39 (by decide) (by decide)
                        simp only [nm, seval]
                        apply VE.cons
                        · exact ev_load1r (v := uv Q.d) rfl (gn rfl) rfl rfl Tryd.underlying39 rfl rfl
                        simp only [nm, seval]
                        apply VE.cons
                        · exact ev_move rfl (gn rfl)
                        simp only [nm, seval]
                        apply VE.cons
                        · exact ev_bin rfl (gn rfl) rfl rfl (fun w => add32 _ _ _ _ w)
                        simp only [nm, seval]
                        apply VE.cons
                        · first | exact ev_index rfl (gn rfl) rfl rfl Tryd.underlying40 Tryd.sizeOf39 (by decide) (by decide) | exact ev_indexx rfl (gn rfl) rfl rfl Tryd.underlying40 Tryd.sizeOf39 (by decide) (by decide)
                        simp only [nm, seval]
                        apply VE.cons
                        · exact ev_load1r (v := uv Q.e) rfl (gn rfl) rfl rfl Tryd.underlying39 rfl rfl
                        simp only [nm, seval]
                        apply VE.cons
                        · first | exact ev_index rfl (gn rfl) rfl rfl Tryd.underlying40 Tryd.sizeOf39 (by decide) (by decide) | exact ev_indexx rfl (gn rfl) rfl rfl Tryd.underlying40 Tryd.sizeOf39 (by decide) (by decide)
                        simp only [nm, seval]
                        apply VE.cons
                        · exact ev_load1r (v := uv Q.f) rfl (gn rfl) rfl rfl Tryd.underlying39 rfl rfl
                        simp only [nm, seval]
                        apply VE.cons
                        · first | exact ev_index rfl (gn rfl) rfl rfl Tryd.underlying40 Tryd.sizeOf39 (by decide) (by decide) | exact ev_indexx rfl (gn rfl) rfl rfl Tryd.underlying40 Tryd.sizeOf39 (by decide) (by decide)
                        simp only [nm, seval]
                        apply VE.cons
                        · exact ev_load1r (v := uv Q.g) rfl (gn rfl) rfl rfl Tryd.underlying39 rfl rfl
                        simp only [nm, seval]
                        apply VE.cons
                        · exact ev_build rfl (gn rfl) rfl (built40 _ _ _ _ _ _ _ _)
                        simp only [nm, seval]
                        apply VE.cons
                        · first | exact ev_storer (l' := UL H0) rfl (gn rfl) rfl rfl rfl Tryd.sizeOf40 rfl (by decide) rfl rfl | exact ev_storer (l' := UL H) rfl (gn rfl) rfl rfl rfl Tryd.sizeOf40 rfl (by decide) rfl rfl | exact ev_storer (l' := UL (Q.step (K.getD j 0#32) (Wd.getD j 0#32))) rfl (gn rfl) rfl rfl rfl Tryd.sizeOf40 rfl (Nat.le_refl 8) rfl (step_ref Q _ _)
                        simp only [nm, seval]
                        exact VE.nil _
                      · kernel_rfl
                      change VOk _ _ _ _ _
                      apply vrp
                      · apply VE.cons
                        · exact ev_move rfl (gn rfl)
                        simp only [nm, seval]
                        apply VE.cons
                        · exact ev_add (c := ((j + 1 : Nat) : Int)) rfl (gn rfl) rfl rfl (by rw [i64w (by omega) (by omega)]; omega)
                        simp only [nm, seval]
                        apply VE.cons
                        · exact ev_assign rfl (gn rfl)
                        simp only [nm, seval]
                        exact VE.nil _
                      · kernel_rfl
                      refine ⟨⟨j + 1, by omega⟩, by show 64 - (j + 1) < 64 - j; omega, ?_⟩
                      have e5 : Q.step (K.getD j 0#32) (Wd.getD j 0#32) = St.run Wd H (j + 1) := by rw [← hQ]; rfl
                      rw [e5]
                      exact weaker_forget (fun i => i == 3 || i == 4 || i == 5 || i == 8 || i == 9 || i == 14 || i == 15) []
                  · exact weaker_forget (fun i => i == 3 || i == 4 || i == 5 || i == 8 || i == 9 || i == 14 || i == 15) []
                · refine vcond_t rfl ?_
                  have hlt4 : i < 64 := of_decide_eq_true h_q4
                  refine vskip ?_
                  change VOk _ _ _ _ _
                  refine vseq ?_
                  refine vblock ?_
                  refine vseq ?_
                  refine vseq ?_
                  apply vrp
                  · apply VE.cons
                    · exact ev_move rfl (gn rfl)
                    simp only [nm, seval]
                    apply VE.cons
                    · exact ev_lss rfl (gn rfl) rfl rfl h_q5'
                    simp only [nm, seval]
                    exact VE.nil _
                  · kernel_rfl
                  change VOk _ _ _ _ _
                  cases q5
                  · refine vcond_f rfl ?_
                    have h16 : 16 ≤ i := by have := of_decide_eq_false h_q5; omega
                    obtain ⟨i2, hi2⟩ : ∃ j, i = 16 + j := ⟨i - 16, by omega⟩
                    have hMl2 : M.length = 16 + i2 := by omega
                    have hMn : schI bm (i + 1) = M ++ [nextW M] := by rw [← hM, hi2]; exact schI_hi
                    have hw2 : (WL M).take i ++ (uv (M.getD i2 0#32 + (rr (M.getD (1 + i2) 0#32) 7 ^^^ rr (M.getD (1 + i2) 0#32) 18 ^^^ M.getD (1 + i2) 0#32 >>> 3) + M.getD (9 + i2) 0#32 + (rr (M.getD (14 + i2) 0#32) 17 ^^^ rr (M.getD (14 + i2) 0#32) 19 ^^^ M.getD (14 + i2) 0#32 >>> 10))).cells.toList ++ (WL M).drop (i + 1) = WL (M ++ [nextW M]) := by rw [next_ref hMl2, ← hMl]; exact WL_set _ (by omega)
                    refine vskip ?_
                    change VOk _ _ _ _ _
                    refine vseq ?_
                    apply vrd (by kernel_rfl)
                    · apply VE.cons
                      · exact ev_move rfl (gn rfl)
                      simp only [nm, seval]
                      apply VE.cons
                      · exact ev_sub (c := ((1 + i2 : Nat) : Int)) rfl (gn rfl) rfl rfl (by rw [i64w (by omega) (by omega)]; omega)
                      simp only [nm, seval]
                      apply VE.cons
                      · exact ev_indexn (k := 1 + i2) (j := 1 + i2) rfl (gn rfl) rfl rfl Tryd.underlying50 Tryd.sizeOf39 (by omega) (by omega)
                      simp only [nm, seval]
                      apply VE.cons
                      · exact ev_load1r (v := uv (M.getD (1 + i2) 0#32)) rfl (gn rfl) rfl rfl Tryd.underlying39 rfl (WL_get (by omega))
                      simp only [nm, seval]
                      apply VE.cons
                      · exact ev_move rfl (gn rfl)
                      simp only [nm, seval]
                      apply VE.cons
                      · exact ev_sub (c := ((14 + i2 : Nat) : Int)) rfl (gn rfl) rfl rfl (by rw [i64w (by omega) (by omega)]; omega)
                      simp only [nm, seval]
                      apply VE.cons
                      · exact ev_indexn (k := 14 + i2) (j := 14 + i2) rfl (gn rfl) rfl rfl Tryd.underlying50 Tryd.sizeOf39 (by omega) (by omega)
                      simp only [nm, seval]
                      apply VE.cons
                      · exact ev_load1r (v := uv (M.getD (14 + i2) 0#32)) rfl (gn rfl) rfl rfl Tryd.underlying39 rfl (WL_get (by omega))
                      simp only [nm, seval]
                      apply VE.cons
                      · exact ev_assign rfl (gn rfl)
                      simp only [nm, seval]
                      apply VE.cons
                      · exact ev_assign rfl (gn rfl)
                      simp only [nm, seval]
                      exact VE.nil _
                    · kernel_rfl
                    change VOk _ _ _ _ _
                    apply vrd (by kernel_rfl)
                    · apply VE.cons
                      · exact ev_move rfl (gn rfl)
                      simp only [nm, seval]
                      apply VE.cons
                      · exact ev_move rfl (gn rfl)
                      simp only [nm, seval]
                      apply VE.cons
                      · exact ev_sub (c := ((i2 : Nat) : Int)) rfl (gn rfl) rfl rfl (by rw [i64w (by omega) (by omega)]; omega)
                      simp only [nm, seval]
                      apply VE.cons
                      · exact ev_indexn (k := i2) (j := i2) rfl (gn rfl) rfl rfl Tryd.underlying50 Tryd.sizeOf39 (by omega) (by omega)
                      simp only [nm, seval]
                      apply VE.cons
                      · exact ev_load1r (v := uv (M.getD i2 0#32)) rfl (gn rfl) rfl rfl Tryd.underlying39 rfl (WL_get (by omega))
                      simp only [nm, seval]
                      apply VE.cons
                      · exact ev_move rfl (gn rfl)
                      simp only [nm, seval]
                      apply VE.cons
                      · exact ev_callb (v := uv (rr ((M.getD (1 + i2) 0#32)) 7)) rfl (gn rfl) rfl (en_of Tryd.func19 (by kernel_rfl) rfl) (fun w' hb => turn_ok ((M.getD (1 + i2) 0#32)) (by decide) (by decide) w')
                      simp only [nm, seval]
                      apply VE.cons
                      · exact ev_move rfl (gn rfl)
                      simp only [nm, seval]
                      apply VE.cons
                      · exact ev_callb (v := uv (rr ((M.getD (1 + i2) 0#32)) 18)) rfl (gn rfl) rfl (en_of Tryd.func19 (by kernel_rfl) rfl) (fun w' hb => turn_ok ((M.getD (1 + i2) 0#32)) (by decide) (by decide) w')
                      simp only [nm, seval]
                      apply VE.cons
                      · exact ev_bin rfl (gn rfl) rfl rfl (fun w => xor32 _ _ _ _ w)
                      simp only [nm, seval]
                      apply VE.cons
                      · exact ev_move rfl (gn rfl)
                      simp only [nm, seval]
                      apply VE.cons
                      · exact ev_bin rfl (gn rfl) rfl rfl (fun w => shr32 _ 3 (by decide) _ _ w)
                      simp only [nm, seval]
                      apply VE.cons
                      · exact ev_bin rfl (gn rfl) rfl rfl (fun w => xor32 _ _ _ _ w)
                      simp only [nm, seval]
                      apply VE.cons
                      · exact ev_bin rfl (gn rfl) rfl rfl (fun w => add32 _ _ _ _ w)
                      simp only [nm, seval]
                      apply VE.cons
                      · exact ev_move rfl (gn rfl)
                      simp only [nm, seval]
                      apply VE.cons
                      · exact ev_sub (c := ((9 + i2 : Nat) : Int)) rfl (gn rfl) rfl rfl (by rw [i64w (by omega) (by omega)]; omega)
                      simp only [nm, seval]
                      apply VE.cons
                      · exact ev_indexn (k := 9 + i2) (j := 9 + i2) rfl (gn rfl) rfl rfl Tryd.underlying50 Tryd.sizeOf39 (by omega) (by omega)
                      simp only [nm, seval]
                      apply VE.cons
                      · exact ev_load1r (v := uv (M.getD (9 + i2) 0#32)) rfl (gn rfl) rfl rfl Tryd.underlying39 rfl (WL_get (by omega))
                      simp only [nm, seval]
                      apply VE.cons
                      · exact ev_bin rfl (gn rfl) rfl rfl (fun w => add32 _ _ _ _ w)
                      simp only [nm, seval]
                      apply VE.cons
                      · exact ev_move rfl (gn rfl)
                      simp only [nm, seval]
                      apply VE.cons
                      · exact ev_callb (v := uv (rr ((M.getD (14 + i2) 0#32)) 17)) rfl (gn rfl) rfl (en_of Tryd.func19 (by kernel_rfl) rfl) (fun w' hb => turn_ok ((M.getD (14 + i2) 0#32)) (by decide) (by decide) w')
                      simp only [nm, seval]
                      apply VE.cons
                      · exact ev_move rfl (gn rfl)
                      simp only [nm, seval]
                      apply VE.cons
                      · exact ev_callb (v := uv (rr ((M.getD (14 + i2) 0#32)) 19)) rfl (gn rfl) rfl (en_of Tryd.func19 (by kernel_rfl) rfl) (fun w' hb => turn_ok ((M.getD (14 + i2) 0#32)) (by decide) (by decide) w')
                      simp only [nm, seval]
                      apply VE.cons
                      · exact ev_bin rfl (gn rfl) rfl rfl (fun w => xor32 _ _ _ _ w)
                      simp only [nm, seval]
                      apply VE.cons
                      · exact ev_move rfl (gn rfl)
                      simp only [nm, seval]
                      apply VE.cons
                      · exact ev_bin rfl (gn rfl) rfl rfl (fun w => shr32 _ 10 (by decide) _ _ w)
                      simp only [nm, seval]
                      apply VE.cons
                      · exact ev_bin rfl (gn rfl) rfl rfl (fun w => xor32 _ _ _ _ w)
                      simp only [nm, seval]
                      apply VE.cons
                      · exact ev_bin rfl (gn rfl) rfl rfl (fun w => add32 _ _ _ _ w)
                      simp only [nm, seval]
                      apply VE.cons
                      · exact ev_indexn (k := i) (j := i) rfl (gn rfl) rfl rfl Tryd.underlying50 Tryd.sizeOf39 (by omega) (by omega)
                      simp only [nm, seval]
                      apply VE.cons
                      · first | exact ev_storer (l' := WL (M ++ [wordAt bm i])) rfl (gn rfl) rfl rfl rfl Tryd.sizeOf39 rfl (by rw [WL_len (by omega)]; omega) rfl hw1 | exact ev_storer (l' := WL (M ++ [nextW M])) rfl (gn rfl) rfl rfl rfl Tryd.sizeOf39 rfl (by rw [WL_len (by omega)]; omega) rfl hw2 | exact ev_storer (l' := AL H V (z + 1)) rfl (gn rfl) rfl rfl rfl Tryd.sizeOf39 rfl (by rw [AL_len (by omega)]; omega) rfl (AL_set (by omega))
                      simp only [nm, seval]
                      exact VE.nil _
                    · kernel_rfl
                    change VOk _ _ _ _ _
                    apply vrp
                    · apply VE.cons
                      · exact ev_move rfl (gn rfl)
                      simp only [nm, seval]
                      apply VE.cons
                      · exact ev_add (c := ((i + 1 : Nat) : Int)) rfl (gn rfl) rfl rfl (by rw [i64w (by omega) (by omega)]; omega)
                      simp only [nm, seval]
                      apply VE.cons
                      · exact ev_assign rfl (gn rfl)
                      simp only [nm, seval]
                      exact VE.nil _
                    · kernel_rfl
                    refine ⟨⟨i + 1, by omega⟩, by show 64 - (i + 1) < 64 - i; omega, ?_⟩
                    rw [← hMn]
                    exact weaker_forget (fun i => i == 3 || i == 4 || i == 5 || i == 8 || i == 9 || i == 10) []
                  · refine vcond_t rfl ?_
                    have hlt5 : i < 16 := of_decide_eq_true h_q5
                    have hMn : schI bm (i + 1) = M ++ [wordAt bm i] := by rw [← hM]; exact schI_lo hlt5
                    have hw1 : (WL M).take i ++ (uv (wordAt bm i)).cells.toList ++ (WL M).drop (i + 1) = WL (M ++ [wordAt bm i]) := by rw [← hMl]; exact WL_set _ (by omega)
                    have hpd0 : (Pd.map b8)[64 * m + 4 * i]? = some (b8 (bm.getD (4 * i) 0)) := by rw [← hbm]; exact part_get (j := 4 * i) hlt3 (by omega)
                    have hpd1 : (Pd.map b8)[64 * m + 4 * i + 1]? = some (b8 (bm.getD (4 * i + 1) 0)) := by rw [← hbm]; exact part_get (j := 4 * i + 1) hlt3 (by omega)
                    have hpd2 : (Pd.map b8)[64 * m + 4 * i + 2]? = some (b8 (bm.getD (4 * i + 2) 0)) := by rw [← hbm]; exact part_get (j := 4 * i + 2) hlt3 (by omega)
                    have hpd3 : (Pd.map b8)[64 * m + 4 * i + 3]? = some (b8 (bm.getD (4 * i + 3) 0)) := by rw [← hbm]; exact part_get (j := 4 * i + 3) hlt3 (by omega)
                    refine vseq ?_
                    apply vrp
                    · apply VE.cons
                      · exact ev_move rfl (gn rfl)
                      simp only [nm, seval]
                      apply VE.cons
                      · exact ev_move rfl (gn rfl)
                      simp only [nm, seval]
                      apply VE.cons
                      · exact ev_bin rfl (gn rfl) rfl rfl (fun w => mul4 (n := i) (by omega) _ _ w)
                      simp only [nm, seval]
                      apply VE.cons
                      · exact ev_add (c := ((64 * m + 4 * i : Nat) : Int)) rfl (gn rfl) rfl rfl (by rw [i64w (by omega) (by omega)]; omega)
                      simp only [nm, seval]
                      apply VE.cons
                      · exact ev_assign rfl (gn rfl)
                      simp only [nm, seval]
                      exact VE.nil _
                    · kernel_rfl
                    change VOk _ _ _ _ _
                    refine vseq ?_
                    apply vrd (by kernel_rfl)
                    · apply VE.cons
                      · exact ev_move rfl (gn rfl)
                      simp only [nm, seval]
                      apply VE.cons
                      · exact ev_move rfl (gn rfl)
                      simp only [nm, seval]
                      apply VE.cons
                      · exact ev_move rfl (gn rfl)
                      simp only [nm, seval]
                      apply VE.cons
                      · exact ev_idx (k := 64 * m + 4 * i) rfl (gn rfl) rfl rfl Tryd.underlying27 Tryd.sizeOf5 (rdg_row rfl) (by omega) (by decide)
                      simp only [nm, seval]
                      apply VE.cons
                      · exact ev_loadi rfl (gn rfl) rfl Tryd.underlying5 rfl (rdg_row rfl) (hpd0)
                      simp only [nm, seval]
                      apply VE.cons
                      · exact ev_conv rfl (gn rfl) rfl (fun w => cv32 (getD_lt hb8 _) w)
                      simp only [nm, seval]
                      apply VE.cons
                      · exact ev_bin rfl (gn rfl) rfl rfl (fun w => shl32 _ 24 (by decide) _ _ w)
                      simp only [nm, seval]
                      apply VE.cons
                      · exact ev_move rfl (gn rfl)
                      simp only [nm, seval]
                      apply VE.cons
                      · exact ev_move rfl (gn rfl)
                      simp only [nm, seval]
                      apply VE.cons
                      · exact ev_add (c := ((64 * m + 4 * i + 1 : Nat) : Int)) rfl (gn rfl) rfl rfl (by rw [i64w (by omega) (by omega)]; omega)
                      simp only [nm, seval]
                      apply VE.cons
                      · exact ev_idx (k := 64 * m + 4 * i + 1) rfl (gn rfl) rfl rfl Tryd.underlying27 Tryd.sizeOf5 (rdg_row rfl) (by omega) (by decide)
                      simp only [nm, seval]
                      apply VE.cons
                      · exact ev_loadi rfl (gn rfl) rfl Tryd.underlying5 rfl (rdg_row rfl) (hpd1)
                      simp only [nm, seval]
                      apply VE.cons
                      · exact ev_conv rfl (gn rfl) rfl (fun w => cv32 (getD_lt hb8 _) w)
                      simp only [nm, seval]
                      apply VE.cons
                      · exact ev_bin rfl (gn rfl) rfl rfl (fun w => shl32 _ 16 (by decide) _ _ w)
                      simp only [nm, seval]
                      apply VE.cons
                      · exact ev_bin rfl (gn rfl) rfl rfl (fun w => or32 _ _ _ _ w)
                      simp only [nm, seval]
                      apply VE.cons
                      · exact ev_move rfl (gn rfl)
                      simp only [nm, seval]
                      apply VE.cons
                      · exact ev_move rfl (gn rfl)
                      simp only [nm, seval]
                      apply VE.cons
                      · exact ev_add (c := ((64 * m + 4 * i + 2 : Nat) : Int)) rfl (gn rfl) rfl rfl (by rw [i64w (by omega) (by omega)]; omega)
                      simp only [nm, seval]
                      apply VE.cons
                      · exact ev_idx (k := 64 * m + 4 * i + 2) rfl (gn rfl) rfl rfl Tryd.underlying27 Tryd.sizeOf5 (rdg_row rfl) (by omega) (by decide)
                      simp only [nm, seval]
                      apply VE.cons
                      · exact ev_loadi rfl (gn rfl) rfl Tryd.underlying5 rfl (rdg_row rfl) (hpd2)
                      simp only [nm, seval]
                      apply VE.cons
                      · exact ev_conv rfl (gn rfl) rfl (fun w => cv32 (getD_lt hb8 _) w)
                      simp only [nm, seval]
                      apply VE.cons
                      · exact ev_bin rfl (gn rfl) rfl rfl (fun w => shl32 _ 8 (by decide) _ _ w)
                      simp only [nm, seval]
                      apply VE.cons
                      · exact ev_bin rfl (gn rfl) rfl rfl (fun w => or32 _ _ _ _ w)
                      simp only [nm, seval]
                      apply VE.cons
                      · exact ev_move rfl (gn rfl)
                      simp only [nm, seval]
                      apply VE.cons
                      · exact ev_move rfl (gn rfl)
                      simp only [nm, seval]
                      apply VE.cons
                      · exact ev_add (c := ((64 * m + 4 * i + 3 : Nat) : Int)) rfl (gn rfl) rfl rfl (by rw [i64w (by omega) (by omega)]; omega)
                      simp only [nm, seval]
                      apply VE.cons
                      · exact ev_idx (k := 64 * m + 4 * i + 3) rfl (gn rfl) rfl rfl Tryd.underlying27 Tryd.sizeOf5 (rdg_row rfl) (by omega) (by decide)
                      simp only [nm, seval]
                      apply VE.cons
                      · exact ev_loadi rfl (gn rfl) rfl Tryd.underlying5 rfl (rdg_row rfl) (hpd3)
                      simp only [nm, seval]
                      apply VE.cons
                      · exact ev_conv rfl (gn rfl) rfl (fun w => cv32 (getD_lt hb8 _) w)
                      simp only [nm, seval]
                      apply VE.cons
                      · exact ev_bin rfl (gn rfl) rfl rfl (fun w => or32 _ _ _ _ w)
                      simp only [nm, seval]
                      apply VE.cons
                      · exact ev_indexn (k := i) (j := i) rfl (gn rfl) rfl rfl Tryd.underlying50 Tryd.sizeOf39 (by omega) (by omega)
                      simp only [nm, seval]
                      apply VE.cons
                      · first | exact ev_storer (l' := WL (M ++ [wordAt bm i])) rfl (gn rfl) rfl rfl rfl Tryd.sizeOf39 rfl (by rw [WL_len (by omega)]; omega) rfl hw1 | exact ev_storer (l' := WL (M ++ [nextW M])) rfl (gn rfl) rfl rfl rfl Tryd.sizeOf39 rfl (by rw [WL_len (by omega)]; omega) rfl hw2 | exact ev_storer (l' := AL H V (z + 1)) rfl (gn rfl) rfl rfl rfl Tryd.sizeOf39 rfl (by rw [AL_len (by omega)]; omega) rfl (AL_set (by omega))
                      simp only [nm, seval]
                      exact VE.nil _
                    · kernel_rfl
                    change VOk _ _ _ _ _
                    refine vexit ?_
                    change VOk _ _ _ _ _
                    apply vrp
                    · apply VE.cons
                      · exact ev_move rfl (gn rfl)
                      simp only [nm, seval]
                      apply VE.cons
                      · exact ev_add (c := ((i + 1 : Nat) : Int)) rfl (gn rfl) rfl rfl (by rw [i64w (by omega) (by omega)]; omega)
                      simp only [nm, seval]
                      apply VE.cons
                      · exact ev_assign rfl (gn rfl)
                      simp only [nm, seval]
                      exact VE.nil _
                    · kernel_rfl
                    refine ⟨⟨i + 1, by omega⟩, by show 64 - (i + 1) < 64 - i; omega, ?_⟩
                    rw [← hMn]
                    exact weaker_forget (fun i => i == 3 || i == 4 || i == 5 || i == 8 || i == 9 || i == 10) []
              · exact weaker_forget (fun i => i == 3 || i == 4 || i == 5 || i == 8 || i == 9 || i == 10) []
          · rw [htd, htl]
            exact weaker_forget (fun i => i == 3 || i == 4 || i == 5 || i == 8) []
        · refine vcond_t rfl ?_
          have hy2 : y < 8 := by have := of_decide_eq_true h_q2; omega
          obtain ⟨s, hs⟩ : ∃ s : Nat, s = 56 - 8 * y := ⟨_, rfl⟩
          have hts : t = ((s : Nat) : Int) := by omega
          refine vskip ?_
          change VOk _ _ _ _ _
          refine vseq ?_
          refine vblock ?_
          apply vrp
          · apply VE.cons
            · exact ev_move rfl (gn rfl)
            simp only [nm, seval]
            apply VE.cons
            · exact ev_move rfl (gn rfl)
            simp only [nm, seval]
            apply VE.cons
            · exact ev_move rfl (gn rfl)
            simp only [nm, seval]
            apply VE.cons
            · exact ev_bin (b := .int .i64 ((s : Nat) : Int)) rfl (gn rfl) rfl (by simp only [nm, seval, hts]) (fun w => shr64 (8 * a.length) s (by omega) _ _ w)
            simp only [nm, seval]
            apply VE.cons
            · exact ev_conv rfl (gn rfl) rfl (fun w => cv475 _ w)
            simp only [nm, seval]
            apply VE.cons
            · exact ev_buildslice rfl rfl (gn rfl) rfl (e := 5) (l := [b8 (8 * a.length / 2 ^ s % 256)]) rfl (by decide) (fun _ => by kernel_rfl)
            simp only [nm, seval]
            apply VE.cons
            · exact ev_append rfl rfl (gn rfl) rfl rfl rfl (rdg_row rfl) Tryd.underlying27 el5 (by decide) (by simp [len8]; omega) rfl (by simp only [maxLen]; omega) (by omega) (by simp)
            simp only [nm, seval]
            apply VE.cons
            · exact ev_assign rfl (gn rfl)
            simp only [nm, seval]
            exact VE.nil _
          · kernel_rfl
          change VOk _ _ _ _ _
          apply vrp
          · apply VE.cons
            · exact ev_move rfl (gn rfl)
            simp only [nm, seval]
            apply VE.cons
            · exact ev_sub (c := t - 8) rfl (gn rfl) rfl rfl (by rw [i64w (by omega) (by omega)])
            simp only [nm, seval]
            apply VE.cons
            · exact ev_assign rfl (gn rfl)
            simp only [nm, seval]
            exact VE.nil _
          · kernel_rfl
          refine ⟨⟨(y + 1, t - 8), by show y + 1 ≤ 8; omega, by show t - 8 = 56 - 8 * ((y + 1 : Nat) : Int); omega⟩, by show 8 - (y + 1) < 8 - y; omega, ?_⟩
          have e2 : ((a ++ 128 :: List.replicate (zeros a.length) 0) ++ (len8 (8 * a.length)).take y).map b8 ++ [b8 (8 * a.length / 2 ^ s % 256)] = ((a ++ 128 :: List.replicate (zeros a.length) 0) ++ (len8 (8 * a.length)).take (y + 1)).map b8 := by rw [take_get (len8_get2 hy2 hs)]; simp
          rw [e2]
          exact (weaker_forget (fun i => i == 0 || i == 3 || i == 4 || i == 5 || i == 6 || i == 7) [51]).trans2 (fun f => weaker_ren 52 900 (by decide) rfl)
      · refine (weaker_forget (fun i => i == 0 || i == 3 || i == 4 || i == 5 || i == 6 || i == 7) []).trans2 (fun f => weaker_id (fun _ => undef) ?_)
        simp [forgetFr, memDel]
    · refine vcond_t rfl ?_
      have hlt : x < zeros a.length := of_decide_eq_true h_q
      refine vskip ?_
      change VOk _ _ _ _ _
      refine vblock ?_
      apply vrp
      · apply VE.cons
        · exact ev_move rfl (gn rfl)
        simp only [nm, seval]
        apply VE.cons
        · exact ev_buildslice rfl rfl (gn rfl) rfl (e := 5) (l := [b8 (0)]) rfl (by decide) (fun _ => by kernel_rfl)
        simp only [nm, seval]
        apply VE.cons
        · exact ev_append rfl rfl (gn rfl) rfl rfl rfl (rdg_row rfl) Tryd.underlying27 el5 (by decide) (by simp; try omega) rfl (by simp only [maxLen]; omega) (by omega) (by simp)
        simp only [nm, seval]
        apply VE.cons
        · exact ev_assign rfl (gn rfl)
        simp only [nm, seval]
        exact VE.nil _
      · kernel_rfl
      refine ⟨⟨x + 1, by have := of_decide_eq_true h_q; omega⟩, by show zeros a.length - (x + 1) < zeros a.length - x; have := of_decide_eq_true h_q; omega, ?_⟩
      have e1 : ((a ++ 128 :: List.replicate x 0)).map b8 ++ [b8 0] = ((a ++ 128 :: List.replicate (x + 1) 0)).map b8 := by rw [List.replicate_succ']; simp
      rw [e1]
      exact (weaker_forget (fun i => i == 0 || i == 3 || i == 4 || i == 5) [36]).trans2 (fun f => weaker_ren 37 900 (by decide) rfl)
  · rw [hWb]
    exact (weaker_forget (fun i => i == 0 || i == 3 || i == 4 || i == 5) [29]).trans2 (fun f => weaker_ren 30 900 (by decide) rfl)
end Go.Proofs.YtdhklekkpkbfeaaDoor
