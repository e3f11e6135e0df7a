import Derived.Test.YtdhklekkpkbfeaaDoorSb
namespace Go.Proofs.YtdhklekkpkbfeaaDoor
open Go.RowKit Go.Vx
open Go.Toll (Gw)
open TollSha
set_option maxHeartbeats 4000000
set_option maxRecDepth 100000
theorem el5 : ElInfo Tryd.prog 5 1 1 := by unfold ElInfo; kernel_rfl
theorem b8_all (bs : List Nat) : (bs.map b8).all (·.oneCell') = true := by
  rw [List.all_map]; exact List.all_eq_true.2 fun _ _ => rfl
theorem nat_gt (a c : Nat) : decide ((a : Int) > (c : Int)) = decide (a > c) := decide_eq_decide.2 (by omega)
theorem sl_bw {w w' : World} {v : Value} {n size : Nat} {l : List Value} {S : Nat → Prop} (h : SlAt w v n size l S) (hb : Bw w w') : SlAt w' v n size l S := by
  obtain ⟨ao, cap, h1, h2, h3, h4⟩ := h
  exact ⟨ao, cap, h1, h2, h3, h4.imp id fun ⟨g, a, b, c⟩ => ⟨g, a, b, fun i x hx => hb.cell (c i x hx)⟩⟩
theorem take_get {α : Type} {l : List α} {i : Nat} {x : α} (h : l[i]? = some x) : l.take (i + 1) = l.take i ++ [x] := by
  obtain ⟨hi, e⟩ := List.getElem?_eq_some_iff.1 h
  rw [List.take_succ_eq_append_getElem hi, e]
/-- a state's cells. -/
def stCells (a : List Nat) (wv : Value) : List Value := [uv (stH a).a, uv (stH a).b, uv (stH a).c, uv (stH a).d, uv (stH a).e, uv (stH a).f, uv (stH a).g, uv (stH a).h, wv, .int .i64 (a.length : Nat)]
def StAt (w : World) (g : Nat) (wv : Value) (a : List Nat) : Prop := ∀ j v, (stCells a wv)[j]? = some v → w.cell? ⟨g, j, none⟩ = some v
theorem ptr_nn (a : Addr) (p q : Operand) (w : World) : (do eqGuard .eql 24 p q (.pointer (some a)) (.pointer none); binOp .eql 24 (.pointer (some a)) (.pointer none) : Sem Value).run Tryd.prog w = .ok (.bool false) w := by
  go_simp
theorem rem64 (x : Nat) (p q : Operand) (w : World) : (do eqGuard .rem 3 p q (.int .i64 (x : Nat)) (.int .i64 64); binOp .rem 3 (.int .i64 (x : Nat)) (.int .i64 64) : Sem Value).run Tryd.prog w = .ok (.int .i64 ((x % 64 : Nat) : Int)) w := by
  have h2 : ((x : Int).tmod 64) = ((x % 64 : Nat) : Int) := by rw [Int.tmod_eq_emod_of_nonneg (Int.natCast_nonneg _)]; rfl
  go_simp
  all_goals (try exact h2)
  all_goals (try omega)
theorem cv347 {x : Nat} (hx : x < 1099511627776) (w : World) : (convert 3 47 (.int .i64 (x : Nat))).run Tryd.prog w = .ok (.int .u64 ((x : Nat) : Int)) w := by
  have e : IntKind.u64.wrap (x : Int) = (x : Int) := by rw [IntKind.wrap_u64]; omega
  unfold convert
  go_simp
  try exact e
theorem shl3 {x : Nat} (hx : x < 1099511627776) (p q : Operand) (w : World) : (do eqGuard .shl 47 p q (.int .u64 (x : Nat)) (.int .u64 3); binOp .shl 47 (.int .u64 (x : Nat)) (.int .u64 3) : Sem Value).run Tryd.prog w = .ok (.int .u64 ((8 * x : Nat) : Int)) w := by
  have e : IntKind.u64.wrap ((x : Int) * 8) = ((8 * x : Nat) : Int) := by rw [IntKind.wrap_u64]; omega
  go_simp
  try exact e
  try omega
theorem mul8 {n : Nat} (hn : n ≤ 1000) (p q : Operand) (w : World) : (do eqGuard .mul 3 p q (.int .i64 8) (.int .i64 (n : Nat)); binOp .mul 3 (.int .i64 8) (.int .i64 (n : Nat)) : Sem Value).run Tryd.prog w = .ok (.int .i64 ((8 * n : Nat) : Int)) w := by
  have e : IntKind.i64.wrap (8 * (n : Int)) = ((8 * n : Nat) : Int) := by rw [i64w (by omega) (by omega)]; omega
  go_simp
  try exact e
theorem shr64 (m k : Nat) (hk : k < 64) (p q : Operand) (w : World) : (do eqGuard .shr 47 p q (.int .u64 (m : Nat)) (.int .i64 (k : Nat)); binOp .shr 47 (.int .u64 (m : Nat)) (.int .i64 (k : Nat)) : Sem Value).run Tryd.prog w = .ok (.int .u64 ((m / 2 ^ k : Nat) : Int)) w := by
  have h1 : ¬ ((k : Int) < 0) := by omega
  go_simp
  try simp [h1]
  try rw [Nat.min_eq_left (by omega)]
theorem cv475 (x : Nat) (w : World) : (convert 47 5 (.int .u64 (x : Nat))).run Tryd.prog w = .ok (b8 (x % 256)) w := by
  have e : IntKind.u8.wrap (x : Int) = ((x % 256 : Nat) : Int) := by rw [IntKind.wrap_u8']; omega
  unfold convert b8
  go_simp
  try exact e
theorem cv395 (x : W) (w : World) : (convert 39 5 (uv x)).run Tryd.prog w = .ok (b8 (x.toNat % 256)) w := by
  have e : IntKind.u8.wrap (x.toNat : Int) = ((x.toNat % 256 : Nat) : Int) := by rw [IntKind.wrap_u8']; omega
  unfold convert b8 uv
  generalize x.toNat = y at e
  obtain ⟨z, hz⟩ : ∃ z, y % 256 = z := ⟨_, rfl⟩
  rw [hz] at e ⊢
  go_simp
  try exact e
theorem len8_get {m i : Nat} (h : i < 8) : (len8 m)[i]? = some (m / 2 ^ (8 * (7 - i)) % 256) := by
  have : i = 0 ∨ i = 1 ∨ i = 2 ∨ i = 3 ∨ i = 4 ∨ i = 5 ∨ i = 6 ∨ i = 7 := by omega
  rcases this with rfl | rfl | rfl | rfl | rfl | rfl | rfl | rfl <;> rfl
theorem pad_go {n x : Nat} (h : x ≤ zeros n) : decide ((((n % 64 + 1 + x) % 64 : Nat) : Int) ≠ 56) = decide (x < zeros n) := by
  unfold zeros at *
  exact decide_eq_decide.2 (by omega)
/-- the bytes that come out, filled up. -/
def OL (l : List Nat) : List Value := l.map b8 ++ List.replicate (32 - l.length) (b8 0)
theorem OL_len {l : List Nat} (h : l.length ≤ 32) : (OL l).length = 32 := by simp [OL]; omega
theorem OL_set {l : List Nat} (x : Nat) {k : Nat} (hk : k = l.length) (h : l.length < 32) : (OL l).take k ++ (b8 x).cells.toList ++ (OL l).drop (k + 1) = OL (l ++ [x]) := by
  subst hk
  have h1 : (OL l).take l.length = l.map b8 := by rw [OL, List.take_append_of_le_length (by simp), List.take_of_length_le (by simp)]
  have h2 : (OL l).drop (l.length + 1) = List.replicate (32 - (l.length + 1)) (b8 0) := by
    rw [OL, List.drop_append, List.drop_of_length_le (by simp), List.nil_append, List.drop_replicate]
    congr 1
    simp
    omega
  rw [h1, h2, OL, List.map_append, List.length_append]
  rfl
theorem OL_full {l : List Nat} (h : l.length = 32) : OL l = l.map b8 := by simp [OL, h]
theorem bytes4_sh (x : W) : bytes4 x = [(x >>> 24).toNat % 256, (x >>> 16).toNat % 256, (x >>> 8).toNat % 256, x.toNat % 256] := by
  simp only [bytes4, BitVec.toNat_ushiftRight, Nat.shiftRight_eq_div_pow]
theorem l8_get {H : St} {i : Nat} (h : i < 8) : H.l[i]? = some (H.l.getD i 0#32) := by
  have : i < H.l.length := h
  simp [List.getD, this]
theorem flat_step {H : St} {i : Nat} (h : i < 8) : (H.l.take (i + 1)).flatMap bytes4 = (H.l.take i).flatMap bytes4 ++ bytes4 (H.l.getD i 0#32) := by
  rw [take_get (l8_get h), List.flatMap_append]; simp
theorem flat_len {H : St} {i : Nat} (h : i ≤ 8) : ((H.l.take i).flatMap bytes4).length = 4 * i := by
  have := out_len (H.l.take i)
  unfold TollSha.out at this
  rw [this, List.length_take]
  have : H.l.length = 8 := rfl
  omega
theorem stH8 {a : List Nat} {wv : Value} {j : Nat} {v : Value} (h : ([uv (stH a).a, uv (stH a).b, uv (stH a).c, uv (stH a).d, uv (stH a).e, uv (stH a).f, uv (stH a).g, uv (stH a).h] : List Value)[j]? = some v) : (stCells a wv)[j]? = some v := by
  unfold stCells
  rw [show ([uv (stH a).a, uv (stH a).b, uv (stH a).c, uv (stH a).d, uv (stH a).e, uv (stH a).f, uv (stH a).g, uv (stH a).h, wv, .int .i64 (a.length : Nat)] : List Value) = [uv (stH a).a, uv (stH a).b, uv (stH a).c, uv (stH a).d, uv (stH a).e, uv (stH a).f, uv (stH a).g, uv (stH a).h] ++ [wv, .int .i64 (a.length : Nat)] from rfl]
  rw [List.getElem?_append_left (List.getElem?_eq_some_iff.1 h).1]
  exact h
theorem Sum_ok {g : Nat} {wv : Value} {a : List Nat} {S : Nat → Prop} (w : World) (hL : LaidK w) (hs : StAt w g wv a) (hw : SlAt w wv (stW a).length 1 ((stW a).map b8) S) (h8 : ∀ x ∈ a, x < 256) (hm : a.length < 1048576) : Calls Tryd.prog 9 #[.pointer (some ⟨g, 0, none⟩)] w fun e w' => e = .returned (.agg ((sha a).map b8).toArray) ∧ Bw w w' := by
  obtain ⟨Pd, hPd⟩ : ∃ Pd, padded a = Pd := ⟨_, rfl⟩
  have hwl := stW_len a
  have hwlt := stW_lt a
  have hz64 : zeros a.length < 64 := Nat.mod_lt _ (by decide)
  have hWb : [] ++ (stW a).map b8 ++ [b8 128] = (stW a ++ 128 :: List.replicate 0 0).map b8 := by simp
  have hnb : 64 * nb a ≤ Pd.length := by rw [← hPd]; exact nb_pad a
  have hpl : Pd.length % 64 = 0 := by rw [← hPd]; exact padded_len a
  have hge : ∀ m, Pd.length - 64 * m > 0 → 64 ≤ Pd.length - 64 * m := fun m h => by omega
  have hP8 : ∀ x ∈ Pd, x < 256 := by rw [← hPd]; exact padded_lt h8
  have hst : stH a = pressN H0 Pd (nb a) := by rw [← hPd]; exact stH_pad a
  have htd : (stW a ++ 128 :: List.replicate (zeros a.length) 0) ++ (len8 (8 * a.length)).take 8 = Pd.drop (64 * nb a) := by
    rw [← hPd, ← tail_drop]
    unfold tailB
    rw [List.append_assoc]
    rfl
  have htl : a.length % 64 + 1 + zeros a.length + 8 = Pd.length - 64 * nb a := by
    have := congrArg List.length htd
    simp only [List.length_append, List.length_cons, List.length_replicate, List.length_drop, hwl] at this
    have h8' : ((len8 (8 * a.length)).take 8).length = 8 := rfl
    omega
  go_enter Tryd.func9, Tryd.ntmps9
  refine ve_go ?_
  simp only [List.map_cons, List.map_nil]
  refine vseq ?_
  apply vrp
  · apply VE.cons
    · exact ev_allocr (l := OL []) rfl rfl (gn rfl) Tryd.zeroValue28 rfl
    simp only [nm, seval]
    exact VE.nil _
  · kernel_rfl
  change VOk _ _ _ _ _
  refine vseq ?_
  refine vseq ?_
  apply vrp
  · apply VE.cons
    · exact ev_move rfl (gn rfl)
    simp only [nm, seval]
    apply VE.cons
    · exact ev_bin rfl (gn rfl) rfl rfl (fun w => ptr_nn _ _ _ w)
    simp only [nm, seval]
    exact VE.nil _
  · kernel_rfl
  change VOk _ _ _ _ _
  refine vcond_f rfl ?_
  refine vskip ?_
  change VOk _ _ _ _ _
  refine vseq ?_
  apply vrp
  · apply VE.cons
    · exact ev_buildslice rfl rfl (gn rfl) rfl (e := 5) (l := []) rfl (by decide) (fun _ => by kernel_rfl)
    simp only [nm, seval]
    apply VE.cons
    · exact ev_move rfl (gn rfl)
    simp only [nm, seval]
    apply VE.cons
    · first | exact ev_nil rfl (gn rfl) rfl | exact ev_nilx rfl (gn rfl) rfl
    simp only [nm, seval]
    apply VE.cons
    · first | exact ev_field rfl (gn rfl) rfl Tryd.underlying42 rfl Tryd.sizeOf27 | exact ev_fieldx rfl (gn rfl) rfl Tryd.underlying42 rfl Tryd.sizeOf27
    simp only [nm, seval]
    apply VE.cons
    · exact ev_loadx1 rfl (gn rfl) rfl Tryd.underlying27 rfl (hs 8 _ rfl)
    simp only [nm, seval]
    apply VE.cons
    · exact ev_append rfl rfl (gn rfl) rfl rfl rfl (rdg_arg hw) Tryd.underlying27 el5 (by decide) (by simp) (b8_all _) (by simp only [maxLen]; omega) (by omega) (by simp)
    simp only [nm, seval]
    apply VE.cons
    · exact ev_buildslice rfl rfl (gn rfl) rfl (e := 5) (l := [b8 (128)]) rfl (by decide) (fun _ => by kernel_rfl)
    simp only [nm, seval]
    apply VE.cons
    · exact ev_append rfl rfl (gn rfl) rfl rfl rfl (rdg_row rfl) Tryd.underlying27 el5 (by decide) (by simp; try omega) rfl (by simp only [maxLen]; omega) (by omega) (by simp)
    simp only [nm, seval]
    apply VE.cons
    · exact ev_assign rfl (gn rfl)
    simp only [nm, seval]
    exact VE.nil _
  · kernel_rfl
  change VOk _ _ _ _ _
  refine vseq ?_
  refine vblock ?_
  refine vloop_w (α := {x : Nat // x ≤ zeros a.length}) (fun (x : {x : Nat // x ≤ zeros a.length}) f => ⟨[.v (.pointer (some ⟨g, 0, none⟩)), .v (f 1), .p 2 0, .d 900, .v (f 4), .v (f 5), .v (f 6), .v (f 7), .v (f 8), .v (f 9), .v (f 10), .v (f 11), .v (f 12), .v (f 13), .v (f 14), .v (f 15), .v (f 16), .v (f 17), .v (f 18), .v (f 19), .v (f 20), .v (f 21), .v (f 22), .v (f 23), .v (f 24), .v (f 25), .v (f 26), .v (f 27), .v (f 28), .v (f 29), .v (f 30), .v (f 31), .v (f 32), .v (f 33), .v (f 34), .v (f 35), .v (f 36), .v (f 37), .v (f 38), .v (f 39), .v (f 40), .v (f 41), .v (f 42), .v (f 43), .v (f 44), .v (f 45), .v (f 46), .v (f 47), .v (f 48), .v (f 49), .v (f 50), .v (f 51), .v (f 52), .v (f 53), .v (f 54), .v (f 55), .v (f 56), .v (f 57), .v (f 58), .v (f 59), .v (f 60), .v (f 61), .v (f 62), .v (f 63), .v (f 64), .v (f 65), .v (f 66), .v (f 67), .v (f 68), .v (f 69), .v (f 70), .v (f 71), .v (f 72), .v (f 73), .v (f 74), .v (f 75), .v (f 76), .v (f 77), .v (f 78), .v (f 79), .v (f 80), .v (f 81), .v (f 82), .v (f 83), .v (f 84), .v (f 85), .v (f 86), .v (f 87), .v (f 88), .v (f 89), .v (f 90), .v (f 91), .v (f 92)], memOf [(900, .row (a.length % 64 + 1 + x.1) 1 5 (.exact (((stW a ++ 128 :: List.replicate x.1 0)).map b8))), (2, .arr (OL []) 28)]⟩) (fun x => zeros a.length - x.1) ?_ (⟨0, Nat.zero_le _⟩) ?_
  · rintro ⟨x, hx⟩ f
    obtain ⟨q, h_q⟩ : ∃ q, decide (x < zeros a.length) = q := ⟨_, rfl⟩
    have h_q' := (pad_go hx).trans h_q
    change VOk _ _ _ _ _
    refine vseq ?_
    refine vseq ?_
    apply vrp
    · apply VE.cons
      · exact ev_move rfl (gn rfl)
      simp only [nm, seval]
      apply VE.cons
      · exact ev_len rfl (gn rfl) rfl Tryd.underlying27 (rdg_row rfl)
      simp only [nm, seval]
      apply VE.cons
      · exact ev_bin rfl (gn rfl) rfl rfl (fun w => rem64 _ _ _ w)
      simp only [nm, seval]
      apply VE.cons
      · exact ev_neq rfl (gn rfl) rfl rfl h_q'
      simp only [nm, seval]
      exact VE.nil _
    · kernel_rfl
    change VOk _ _ _ _ _
    cases q
    · refine vcond_f rfl ?_
      have hxz : x = zeros a.length := by have := of_decide_eq_false h_q; omega
      subst hxz
      refine vexit ?_
      change VOk _ _ _ _ _
      refine vseq ?_
      apply vrp
      · apply VE.cons
        · exact ev_move rfl (gn rfl)
        simp only [nm, seval]
        apply VE.cons
        · first | exact ev_nil rfl (gn rfl) rfl | exact ev_nilx rfl (gn rfl) rfl
        simp only [nm, seval]
        apply VE.cons
        · first | exact ev_field rfl (gn rfl) rfl Tryd.underlying42 rfl Tryd.sizeOf3 | exact ev_fieldx rfl (gn rfl) rfl Tryd.underlying42 rfl Tryd.sizeOf3
        simp only [nm, seval]
        apply VE.cons
        · exact ev_loadx1 rfl (gn rfl) rfl Tryd.underlying3 rfl (hs 9 _ rfl)
        simp only [nm, seval]
        apply VE.cons
        · exact ev_conv rfl (gn rfl) rfl (fun w => cv347 (by omega) w)
        simp only [nm, seval]
        apply VE.cons
        · exact ev_bin rfl (gn rfl) rfl rfl (fun w => shl3 (by omega) _ _ w)
        simp only [nm, seval]
        apply VE.cons
        · exact ev_assign rfl (gn rfl)
        simp only [nm, seval]
        exact VE.nil _
      · kernel_rfl
      change VOk _ _ _ _ _
      refine vseq ?_
      refine vseq ?_
      apply vrp
      · apply VE.cons
        · exact ev_move rfl (gn rfl)
        simp only [nm, seval]
        exact VE.nil _
      · kernel_rfl
      change VOk _ _ _ _ _
      refine vblock ?_
      refine vloop_w (α := {x : Nat // x ≤ 8}) (fun (x : {x : Nat // x ≤ 8}) f => ⟨[.v (.pointer (some ⟨g, 0, none⟩)), .v (f 1), .p 2 0, .d 900, .v (.int .u64 ((8 * a.length : Nat) : Int)), .v (f 5), .v (f 6), .v (f 7), .v (f 8), .v (f 9), .v (f 10), .v (f 11), .v (f 12), .v (f 13), .v (f 14), .v (f 15), .v (f 16), .v (f 17), .v (f 18), .v (f 19), .v (f 20), .v (f 21), .v (f 22), .v (f 23), .v (f 24), .v (f 25), .v (f 26), .v (f 27), .v (f 28), .v (f 29), .v (f 30), .v (f 31), .v (f 32), .v (f 33), .v (.int .i64 (x.1 : Nat)), .v (f 35), .v (f 36), .v (f 37), .v (f 38), .v (f 39), .v (f 40), .v (f 41), .v (f 42), .v (f 43), .v (f 44), .v (f 45), .v (f 46), .v (f 47), .v (f 48), .v (f 49), .v (f 50), .v (f 51), .v (f 52), .v (f 53), .v (f 54), .v (f 55), .v (f 56), .v (f 57), .v (f 58), .v (f 59), .v (f 60), .v (f 61), .v (f 62), .v (f 63), .v (f 64), .v (f 65), .v (f 66), .v (f 67), .v (f 68), .v (f 69), .v (f 70), .v (f 71), .v (f 72), .v (f 73), .v (f 74), .v (f 75), .v (f 76), .v (f 77), .v (f 78), .v (f 79), .v (f 80), .v (f 81), .v (f 82), .v (f 83), .v (f 84), .v (f 85), .v (f 86), .v (f 87), .v (f 88), .v (f 89), .v (f 90), .v (f 91), .v (f 92)], memOf [(900, .row (a.length % 64 + 1 + zeros a.length + x.1) 1 5 (.exact (((stW a ++ 128 :: List.replicate (zeros a.length) 0) ++ (len8 (8 * a.length)).take x.1).map b8))), (2, .arr (OL []) 28)]⟩) (fun x => 8 - x.1) ?_ (⟨0, Nat.zero_le _⟩) ?_
      · rintro ⟨y, hy⟩ f
        obtain ⟨q2, h_q2⟩ : ∃ q, decide (y < 8) = q := ⟨_, rfl⟩
        have h_q2' := (nat_lt y 8).trans h_q2
        change VOk _ _ _ _ _
        refine vseq ?_
        apply vrp
        · apply VE.cons
          · exact ev_lss rfl (gn rfl) rfl rfl h_q2'
          simp only [nm, seval]
          exact VE.nil _
        · kernel_rfl
        change VOk _ _ _ _ _
        refine vseq ?_
        cases q2
        · refine vcond_f rfl ?_
          have hy8 : y = 8 := by have := of_decide_eq_false h_q2; omega
          subst hy8
          refine vexit ?_
          change VOk _ _ _ _ _
          refine vseq ?_
          apply vrp
          · apply VE.cons
            · exact ev_move rfl (gn rfl)
            simp only [nm, seval]
            apply VE.cons
            · first | exact ev_nil rfl (gn rfl) rfl | exact ev_nilx rfl (gn rfl) rfl
            simp only [nm, seval]
            apply VE.cons
            · first | exact ev_field rfl (gn rfl) rfl Tryd.underlying42 rfl Tryd.sizeOf40 | exact ev_fieldx rfl (gn rfl) rfl Tryd.underlying42 rfl Tryd.sizeOf40
            simp only [nm, seval]
            apply VE.cons
            · exact ev_loadx (vs := [uv (stH a).a, uv (stH a).b, uv (stH a).c, uv (stH a).d, uv (stH a).e, uv (stH a).f, uv (stH a).g, uv (stH a).h]) rfl (gn rfl) rfl Tryd.underlying40 rfl Tryd.sizeOf40 (fun j v hj => (by rw [Nat.zero_add]; exact hs j v (stH8 hj))) rfl
            simp only [nm, seval]
            apply VE.cons
            · exact ev_alloc rfl rfl (gn rfl) Tryd.zeroValue40
            simp only [nm, seval]
            apply VE.cons
            · exact ev_store rfl (gn rfl) rfl rfl rfl Tryd.sizeOf40 rfl (by simp) rfl
            simp only [nm, seval]
            exact VE.nil _
          · kernel_rfl
          change VOk _ _ _ _ _
          refine vseq ?_
          refine vblock ?_
          refine vloop_w (α := {m : Nat // nb a ≤ m ∧ 64 * m ≤ Pd.length}) (fun (x : {m : Nat // nb a ≤ m ∧ 64 * m ≤ Pd.length}) f => ⟨[.v (.pointer (some ⟨g, 0, none⟩)), .v (f 1), .p 2 0, .d 900, .v (f 4), .v (f 5), .p 6 0, .v (f 7), .v (f 8), .v (f 9), .v (f 10), .v (f 11), .v (f 12), .v (f 13), .v (f 14), .v (f 15), .v (f 16), .v (f 17), .v (f 18), .v (f 19), .v (f 20), .v (f 21), .v (f 22), .v (f 23), .v (f 24), .v (f 25), .v (f 26), .v (f 27), .v (f 28), .v (f 29), .v (f 30), .v (f 31), .v (f 32), .v (f 33), .v (f 34), .v (f 35), .v (f 36), .v (f 37), .v (f 38), .v (f 39), .v (f 40), .v (f 41), .v (f 42), .v (f 43), .v (f 44), .v (f 45), .v (f 46), .v (f 47), .v (f 48), .v (f 49), .v (f 50), .v (f 51), .v (f 52), .v (f 53), .v (f 54), .v (f 55), .v (f 56), .v (f 57), .v (f 58), .v (f 59), .v (f 60), .v (f 61), .v (f 62), .v (f 63), .v (f 64), .v (f 65), .v (f 66), .v (f 67), .v (f 68), .v (f 69), .v (f 70), .v (f 71), .v (f 72), .v (f 73), .v (f 74), .v (f 75), .v (f 76), .v (f 77), .v (f 78), .v (f 79), .v (f 80), .v (f 81), .v (f 82), .v (f 83), .v (f 84), .v (f 85), .v (f 86), .v (f 87), .v (f 88), .v (f 89), .v (f 90), .v (f 91), .v (f 92)], memOf [(900, .row (Pd.length - 64 * x.1) 1 5 (.exact ((Pd.drop (64 * x.1)).map b8))), (6, .cells [.v (uv (pressN H0 Pd x.1).a), .v (uv (pressN H0 Pd x.1).b), .v (uv (pressN H0 Pd x.1).c), .v (uv (pressN H0 Pd x.1).d), .v (uv (pressN H0 Pd x.1).e), .v (uv (pressN H0 Pd x.1).f), .v (uv (pressN H0 Pd x.1).g), .v (uv (pressN H0 Pd x.1).h)] 40), (2, .arr (OL []) 28)]⟩) (fun x => Pd.length - 64 * x.1) ?_ (⟨nb a, Nat.le_refl _, hnb⟩) ?_
          · rintro ⟨m, hm1, hm2⟩ f
            obtain ⟨q3, h_q3⟩ : ∃ q, decide (Pd.length - 64 * m > 0) = q := ⟨_, rfl⟩
            have h_q3' := (nat_gt (Pd.length - 64 * m) 0).trans h_q3
            obtain ⟨H, hH⟩ : ∃ H, pressN H0 Pd m = H := ⟨_, rfl⟩
            rw [hH]
            change VOk _ _ _ _ _
            refine vseq ?_
            refine vseq ?_
            apply vrp
            · apply VE.cons
              · exact ev_move rfl (gn rfl)
              simp only [nm, seval]
              apply VE.cons
              · exact ev_len rfl (gn rfl) rfl Tryd.underlying27 (rdg_row rfl)
              simp only [nm, seval]
              apply VE.cons
              · exact ev_gtr rfl (gn rfl) rfl rfl h_q3'
              simp only [nm, seval]
              exact VE.nil _
            · kernel_rfl
            change VOk _ _ _ _ _
            cases q3
            · refine vcond_f rfl ?_
              have hme : 64 * m = Pd.length := by have := of_decide_eq_false h_q3; omega
              have hH' : pressN H0 Pd m = H := hH
              refine vexit ?_
              change VOk _ _ _ _ _
              refine vseq ?_
              apply vrp
              · apply VE.cons
                · exact ev_allocr (l := OL []) rfl rfl (gn rfl) Tryd.zeroValue28 rfl
                simp only [nm, seval]
                exact VE.nil _
              · kernel_rfl
              change VOk _ _ _ _ _
              refine vseq ?_
              refine vseq ?_
              apply vrp
              · apply VE.cons
                · first | exact ev_load rfl (gn rfl) rfl rfl Tryd.underlying40 rfl Tryd.sizeOf40 rfl rfl | exact ev_loadx rfl (gn rfl) rfl Tryd.underlying40 rfl Tryd.sizeOf40 (by assumption) rfl | exact ev_loada rfl (gn rfl) rfl rfl Tryd.underlying40 rfl Tryd.sizeOf40 rfl
                simp only [nm, seval]
                apply VE.cons
                · exact ev_move rfl (gn rfl)
                simp only [nm, seval]
                exact VE.nil _
              · kernel_rfl
              change VOk _ _ _ _ _
              refine vblock ?_
              refine vloop_w (α := {x : Nat // x ≤ 8}) (fun (x : {x : Nat // x ≤ 8}) f => ⟨[.v (f 0), .v (f 1), .p 2 0, .v (f 3), .v (f 4), .v (f 5), .v (f 6), .p 7 0, .v (f 8), .v (f 9), .v (f 10), .v (f 11), .v (f 12), .v (f 13), .v (f 14), .v (f 15), .v (f 16), .v (f 17), .v (f 18), .v (f 19), .v (f 20), .v (f 21), .v (f 22), .v (f 23), .v (f 24), .v (f 25), .v (f 26), .v (f 27), .v (f 28), .v (f 29), .v (f 30), .v (f 31), .v (f 32), .v (f 33), .v (f 34), .v (f 35), .v (f 36), .v (f 37), .v (f 38), .v (f 39), .v (f 40), .v (f 41), .v (f 42), .v (f 43), .v (f 44), .v (f 45), .v (f 46), .v (f 47), .v (f 48), .v (f 49), .v (f 50), .v (f 51), .v (f 52), .v (f 53), .v (f 54), .v (f 55), .v (f 56), .v (f 57), .v (f 58), .v (f 59), .v (.agg #[uv (H).a, uv (H).b, uv (H).c, uv (H).d, uv (H).e, uv (H).f, uv (H).g, uv (H).h]), .v (.int .i64 (x.1 : Nat)), .v (f 62), .v (f 63), .v (f 64), .v (f 65), .v (f 66), .v (f 67), .v (f 68), .v (f 69), .v (f 70), .v (f 71), .v (f 72), .v (f 73), .v (f 74), .v (f 75), .v (f 76), .v (f 77), .v (f 78), .v (f 79), .v (f 80), .v (f 81), .v (f 82), .v (f 83), .v (f 84), .v (f 85), .v (f 86), .v (f 87), .v (f 88), .v (f 89), .v (f 90), .v (f 91), .v (f 92)], memOf [(7, .arr (OL ((H.l.take x.1).flatMap bytes4)) 28), (2, .arr (OL []) 28)]⟩) (fun x => 8 - x.1) ?_ (⟨0, Nat.zero_le _⟩) ?_
              · rintro ⟨z, hz⟩ f
                obtain ⟨q4, h_q4⟩ : ∃ q, decide (z < 8) = q := ⟨_, rfl⟩
                have h_q4' := (nat_lt z 8).trans h_q4
                obtain ⟨F, hF⟩ : ∃ F, (H.l.take z).flatMap bytes4 = F := ⟨_, rfl⟩
                have hFl : F.length = 4 * z := by rw [← hF]; exact flat_len hz
                rw [hF]
                obtain ⟨X, hX⟩ : ∃ X, H.l.getD z 0#32 = X := ⟨_, rfl⟩
                change VOk _ _ _ _ _
                refine vseq ?_
                apply vrp
                · apply VE.cons
                  · exact ev_lss rfl (gn rfl) rfl rfl h_q4'
                  simp only [nm, seval]
                  exact VE.nil _
                · kernel_rfl
                change VOk _ _ _ _ _
                refine vseq ?_
                cases q4
                · refine vcond_f rfl ?_
                  have hz8 : z = 8 := by have := of_decide_eq_false h_q4; omega
                  subst hz8
                  have hsha : F = sha a := by rw [← hF, ← hH', ← sha_of (m := m) (a := a) (by rw [hPd]; exact hme), hPd]; rfl
                  refine vexit ?_
                  change VOk _ _ _ _ _
                  refine vseq ?_
                  apply vrp
                  · apply VE.cons
                    · exact ev_loadr (vs := (sha a).map b8) rfl (gn rfl) rfl rfl Tryd.underlying28 rfl Tryd.sizeOf28 (by rw [hsha, OL_full (sha_len a), List.drop_zero, List.take_of_length_le (by simp [sha_len])]) (by simp [sha_len])
                    simp only [nm, seval]
                    apply VE.cons
                    · exact ev_storer (l' := (sha a).map b8) rfl (gn rfl) rfl rfl rfl Tryd.sizeOf28 (by simp [Value.cells, sha_len]) (by rw [OL_len (by simp)]; decide) (by show ((sha a).map b8).toArray.toList.all _ = true; exact b8_all _) (by rw [List.take_zero, List.nil_append, List.drop_of_length_le (by rw [OL_len (by simp)]; decide), List.append_nil]; simp [Value.cells])
                    simp only [nm, seval]
                    exact VE.nil _
                  · kernel_rfl
                  change VOk _ _ _ _ _
                  refine vret ?_
                  refine post_ret (res1 Tryd.results9 (rv_cellr (vs := (sha a).map b8) rfl rfl Tryd.underlying28 rfl Tryd.sizeOf28 (List.take_of_length_le (by simp [sha_len])) (by simp [sha_len]))) ?_
                  intro ρ w' hr
                  exact ⟨rfl, hr.1⟩
                · refine vcond_t rfl ?_
                  have hlt : z < 8 := of_decide_eq_true h_q4
                  refine vskip ?_
                  change VOk _ _ _ _ _
                  refine vseq ?_
                  refine vblock ?_
                  refine vseq ?_
                  apply vrp
                  · apply VE.cons
                    · exact ev_move rfl (gn rfl)
                    simp only [nm, seval]
                    apply VE.cons
                    · exact ev_indexv (k := z) (v := uv X) rfl (gn rfl) rfl rfl Tryd.underlying40 Tryd.sizeOf39 Tryd.underlying39 rfl (of_decide_eq_true h_q4) (by have := l8_get (H := H) (of_decide_eq_true h_q4); rw [hX] at this; have h9 := congrArg (Option.map uv) this; rw [← List.getElem?_map] at h9; exact h9)
                    simp only [nm, seval]
                    apply VE.cons
                    · exact ev_assign rfl (gn rfl)
                    simp only [nm, seval]
                    apply VE.cons
                    · exact ev_assign rfl (gn rfl)
                    simp only [nm, seval]
                    exact VE.nil _
                  · kernel_rfl
                  change VOk _ _ _ _ _
                  apply vrp
                  · apply VE.cons
                    · exact ev_move rfl (gn rfl)
                    simp only [nm, seval]
                    apply VE.cons
                    · exact ev_bin rfl (gn rfl) rfl rfl (fun w => mul4 (n := z) (by omega) _ _ w)
                    simp only [nm, seval]
                    apply VE.cons
                    · exact ev_move rfl (gn rfl)
                    simp only [nm, seval]
                    apply VE.cons
                    · exact ev_bin rfl (gn rfl) rfl rfl (fun w => mul4 (n := z) (by omega) _ _ w)
                    simp only [nm, seval]
                    apply VE.cons
                    · exact ev_add (c := ((4 * z + 1 : Nat) : Int)) rfl (gn rfl) rfl rfl (by rw [i64w (by omega) (by omega)]; omega)
                    simp only [nm, seval]
                    apply VE.cons
                    · exact ev_move rfl (gn rfl)
                    simp only [nm, seval]
                    apply VE.cons
                    · exact ev_bin rfl (gn rfl) rfl rfl (fun w => mul4 (n := z) (by omega) _ _ w)
                    simp only [nm, seval]
                    apply VE.cons
                    · exact ev_add (c := ((4 * z + 2 : Nat) : Int)) rfl (gn rfl) rfl rfl (by rw [i64w (by omega) (by omega)]; omega)
                    simp only [nm, seval]
                    apply VE.cons
                    · exact ev_move rfl (gn rfl)
                    simp only [nm, seval]
                    apply VE.cons
                    · exact ev_bin rfl (gn rfl) rfl rfl (fun w => mul4 (n := z) (by omega) _ _ w)
                    simp only [nm, seval]
                    apply VE.cons
                    · exact ev_add (c := ((4 * z + 3 : Nat) : Int)) rfl (gn rfl) rfl rfl (by rw [i64w (by omega) (by omega)]; omega)
                    simp only [nm, seval]
                    apply VE.cons
                    · exact ev_move rfl (gn rfl)
                    simp only [nm, seval]
                    apply VE.cons
                    · exact ev_bin rfl (gn rfl) rfl rfl (fun w => shr32 _ 24 (by decide) _ _ w)
                    simp only [nm, seval]
                    apply VE.cons
                    · exact ev_conv rfl (gn rfl) rfl (fun w => cv395 _ w)
                    simp only [nm, seval]
                    apply VE.cons
                    · exact ev_move rfl (gn rfl)
                    simp only [nm, seval]
                    apply VE.cons
                    · exact ev_bin rfl (gn rfl) rfl rfl (fun w => shr32 _ 16 (by decide) _ _ w)
                    simp only [nm, seval]
                    apply VE.cons
                    · exact ev_conv rfl (gn rfl) rfl (fun w => cv395 _ w)
                    simp only [nm, seval]
                    apply VE.cons
                    · exact ev_move rfl (gn rfl)
                    simp only [nm, seval]
                    apply VE.cons
                    · exact ev_bin rfl (gn rfl) rfl rfl (fun w => shr32 _ 8 (by decide) _ _ w)
                    simp only [nm, seval]
                    apply VE.cons
                    · exact ev_conv rfl (gn rfl) rfl (fun w => cv395 _ w)
                    simp only [nm, seval]
                    apply VE.cons
                    · exact ev_move rfl (gn rfl)
                    simp only [nm, seval]
                    apply VE.cons
                    · exact ev_conv rfl (gn rfl) rfl (fun w => cv395 _ w)
                    simp only [nm, seval]
                    apply VE.cons
                    · exact ev_indexn (k := 4 * z) (j := 4 * z) rfl (gn rfl) rfl rfl Tryd.underlying28 Tryd.sizeOf5 (by omega) (by omega)
                    simp only [nm, seval]
                    apply VE.cons
                    · first | exact ev_storer (l' := OL (F ++ [(X >>> 24).toNat % 256])) rfl (gn rfl) rfl rfl rfl Tryd.sizeOf5 rfl (by rw [OL_len (by first | omega | (simp; omega))]; omega) rfl (OL_set _ (by first | omega | (simp; omega)) (by first | omega | (simp; omega))) | exact ev_storer (l' := OL (F ++ [(X >>> 24).toNat % 256] ++ [(X >>> 16).toNat % 256])) rfl (gn rfl) rfl rfl rfl Tryd.sizeOf5 rfl (by rw [OL_len (by first | omega | (simp; omega))]; omega) rfl (OL_set _ (by first | omega | (simp; omega)) (by first | omega | (simp; omega))) | exact ev_storer (l' := OL (F ++ [(X >>> 24).toNat % 256] ++ [(X >>> 16).toNat % 256] ++ [(X >>> 8).toNat % 256])) rfl (gn rfl) rfl rfl rfl Tryd.sizeOf5 rfl (by rw [OL_len (by first | omega | (simp; omega))]; omega) rfl (OL_set _ (by first | omega | (simp; omega)) (by first | omega | (simp; omega))) | exact ev_storer (l' := OL (F ++ [(X >>> 24).toNat % 256] ++ [(X >>> 16).toNat % 256] ++ [(X >>> 8).toNat % 256] ++ [X.toNat % 256])) rfl (gn rfl) rfl rfl rfl Tryd.sizeOf5 rfl (by rw [OL_len (by first | omega | (simp; omega))]; omega) rfl (OL_set _ (by first | omega | (simp; omega)) (by first | omega | (simp; omega)))
                    simp only [nm, seval]
                    apply VE.cons
                    · exact ev_indexn (k := 4 * z + 1) (j := 4 * z + 1) rfl (gn rfl) rfl rfl Tryd.underlying28 Tryd.sizeOf5 (by omega) (by omega)
                    simp only [nm, seval]
                    apply VE.cons
                    · first | exact ev_storer (l' := OL (F ++ [(X >>> 24).toNat % 256])) rfl (gn rfl) rfl rfl rfl Tryd.sizeOf5 rfl (by rw [OL_len (by first | omega | (simp; omega))]; omega) rfl (OL_set _ (by first | omega | (simp; omega)) (by first | omega | (simp; omega))) | exact ev_storer (l' := OL (F ++ [(X >>> 24).toNat % 256] ++ [(X >>> 16).toNat % 256])) rfl (gn rfl) rfl rfl rfl Tryd.sizeOf5 rfl (by rw [OL_len (by first | omega | (simp; omega))]; omega) rfl (OL_set _ (by first | omega | (simp; omega)) (by first | omega | (simp; omega))) | exact ev_storer (l' := OL (F ++ [(X >>> 24).toNat % 256] ++ [(X >>> 16).toNat % 256] ++ [(X >>> 8).toNat % 256])) rfl (gn rfl) rfl rfl rfl Tryd.sizeOf5 rfl (by rw [OL_len (by first | omega | (simp; omega))]; omega) rfl (OL_set _ (by first | omega | (simp; omega)) (by first | omega | (simp; omega))) | exact ev_storer (l' := OL (F ++ [(X >>> 24).toNat % 256] ++ [(X >>> 16).toNat % 256] ++ [(X >>> 8).toNat % 256] ++ [X.toNat % 256])) rfl (gn rfl) rfl rfl rfl Tryd.sizeOf5 rfl (by rw [OL_len (by first | omega | (simp; omega))]; omega) rfl (OL_set _ (by first | omega | (simp; omega)) (by first | omega | (simp; omega)))
                    simp only [nm, seval]
                    apply VE.cons
                    · exact ev_indexn (k := 4 * z + 2) (j := 4 * z + 2) rfl (gn rfl) rfl rfl Tryd.underlying28 Tryd.sizeOf5 (by omega) (by omega)
                    simp only [nm, seval]
                    apply VE.cons
                    · first | exact ev_storer (l' := OL (F ++ [(X >>> 24).toNat % 256])) rfl (gn rfl) rfl rfl rfl Tryd.sizeOf5 rfl (by rw [OL_len (by first | omega | (simp; omega))]; omega) rfl (OL_set _ (by first | omega | (simp; omega)) (by first | omega | (simp; omega))) | exact ev_storer (l' := OL (F ++ [(X >>> 24).toNat % 256] ++ [(X >>> 16).toNat % 256])) rfl (gn rfl) rfl rfl rfl Tryd.sizeOf5 rfl (by rw [OL_len (by first | omega | (simp; omega))]; omega) rfl (OL_set _ (by first | omega | (simp; omega)) (by first | omega | (simp; omega))) | exact ev_storer (l' := OL (F ++ [(X >>> 24).toNat % 256] ++ [(X >>> 16).toNat % 256] ++ [(X >>> 8).toNat % 256])) rfl (gn rfl) rfl rfl rfl Tryd.sizeOf5 rfl (by rw [OL_len (by first | omega | (simp; omega))]; omega) rfl (OL_set _ (by first | omega | (simp; omega)) (by first | omega | (simp; omega))) | exact ev_storer (l' := OL (F ++ [(X >>> 24).toNat % 256] ++ [(X >>> 16).toNat % 256] ++ [(X >>> 8).toNat % 256] ++ [X.toNat % 256])) rfl (gn rfl) rfl rfl rfl Tryd.sizeOf5 rfl (by rw [OL_len (by first | omega | (simp; omega))]; omega) rfl (OL_set _ (by first | omega | (simp; omega)) (by first | omega | (simp; omega)))
                    simp only [nm, seval]
                    apply VE.cons
                    · exact ev_indexn (k := 4 * z + 3) (j := 4 * z + 3) rfl (gn rfl) rfl rfl Tryd.underlying28 Tryd.sizeOf5 (by omega) (by omega)
                    simp only [nm, seval]
                    apply VE.cons
                    · first | exact ev_storer (l' := OL (F ++ [(X >>> 24).toNat % 256])) rfl (gn rfl) rfl rfl rfl Tryd.sizeOf5 rfl (by rw [OL_len (by first | omega | (simp; omega))]; omega) rfl (OL_set _ (by first | omega | (simp; omega)) (by first | omega | (simp; omega))) | exact ev_storer (l' := OL (F ++ [(X >>> 24).toNat % 256] ++ [(X >>> 16).toNat % 256])) rfl (gn rfl) rfl rfl rfl Tryd.sizeOf5 rfl (by rw [OL_len (by first | omega | (simp; omega))]; omega) rfl (OL_set _ (by first | omega | (simp; omega)) (by first | omega | (simp; omega))) | exact ev_storer (l' := OL (F ++ [(X >>> 24).toNat % 256] ++ [(X >>> 16).toNat % 256] ++ [(X >>> 8).toNat % 256])) rfl (gn rfl) rfl rfl rfl Tryd.sizeOf5 rfl (by rw [OL_len (by first | omega | (simp; omega))]; omega) rfl (OL_set _ (by first | omega | (simp; omega)) (by first | omega | (simp; omega))) | exact ev_storer (l' := OL (F ++ [(X >>> 24).toNat % 256] ++ [(X >>> 16).toNat % 256] ++ [(X >>> 8).toNat % 256] ++ [X.toNat % 256])) rfl (gn rfl) rfl rfl rfl Tryd.sizeOf5 rfl (by rw [OL_len (by first | omega | (simp; omega))]; omega) rfl (OL_set _ (by first | omega | (simp; omega)) (by first | omega | (simp; omega)))
                    simp only [nm, seval]
                    exact VE.nil _
                  · kernel_rfl
                  change VOk _ _ _ _ _
                  apply vrp
                  · apply VE.cons
                    · exact ev_add (c := ((z + 1 : Nat) : Int)) rfl (gn rfl) rfl rfl (by rw [i64w (by omega) (by omega)]; omega)
                    simp only [nm, seval]
                    apply VE.cons
                    · exact ev_move rfl (gn rfl)
                    simp only [nm, seval]
                    exact VE.nil _
                  · kernel_rfl
                  refine ⟨⟨z + 1, by have := of_decide_eq_true h_q4; omega⟩, by show 8 - (z + 1) < 8 - z; have := of_decide_eq_true h_q4; omega, ?_⟩
                  have e4 : F ++ [(X >>> 24).toNat % 256] ++ [(X >>> 16).toNat % 256] ++ [(X >>> 8).toNat % 256] ++ [X.toNat % 256] = (H.l.take (z + 1)).flatMap bytes4 := by rw [flat_step (of_decide_eq_true h_q4), hF, hX, bytes4_sh]; simp
                  rw [e4]
                  exact weaker_forget (fun i => i == 2 || i == 7 || i == 60 || i == 61) []
              · exact weaker_forget (fun i => i == 2 || i == 7 || i == 60 || i == 61) [900, 6]
            · refine vcond_t rfl ?_
              refine vskip ?_
              change VOk _ _ _ _ _
              refine vseq ?_
              refine vblock ?_
              apply vrd (by kernel_rfl)
              · apply VE.cons
                · first | exact ev_load rfl (gn rfl) rfl rfl Tryd.underlying40 rfl Tryd.sizeOf40 rfl rfl | exact ev_loadx rfl (gn rfl) rfl Tryd.underlying40 rfl Tryd.sizeOf40 (by assumption) rfl | exact ev_loada rfl (gn rfl) rfl rfl Tryd.underlying40 rfl Tryd.sizeOf40 rfl
                simp only [nm, seval]
                apply VE.cons
                · exact ev_move rfl (gn rfl)
                simp only [nm, seval]
                apply VE.cons
                · exact ev_cut (a := 0) (b := 64) (size := 1) rfl (gn rfl) rfl Tryd.underlying27 Tryd.sizeOf5 (rdg_row rfl) rfl rfl (by decide) (hge m (of_decide_eq_true h_q3))
                simp only [nm, seval]
                apply VE.cons
                · exact ev_callp (v := .agg #[uv (TollSha.press H ((Pd.drop (64 * m)).take 64)).a, uv (TollSha.press H ((Pd.drop (64 * m)).take 64)).b, uv (TollSha.press H ((Pd.drop (64 * m)).take 64)).c, uv (TollSha.press H ((Pd.drop (64 * m)).take 64)).d, uv (TollSha.press H ((Pd.drop (64 * m)).take 64)).e, uv (TollSha.press H ((Pd.drop (64 * m)).take 64)).f, uv (TollSha.press H ((Pd.drop (64 * m)).take 64)).g, uv (TollSha.press H ((Pd.drop (64 * m)).take 64)).h]) [900] rfl (gn rfl) rfl (en_of Tryd.func14 (by kernel_rfl) rfl) (fun ρ S w' hb hR => by obtain ⟨S0, s0⟩ := rdg_sub (lo := 0) (hi := 64) (n' := 64) (l' := ((Pd.drop (64 * m)).take 64).map b8) (rdg_row (id := 900) rfl) (Nat.zero_le _) (hge m (of_decide_eq_true h_q3)) (by rw [Nat.mul_one, Nat.mul_one, List.drop_zero, Nat.sub_zero, List.map_take]) rfl ρ S w' hb hR; exact press_ok H w' (hL.bw hb) s0 (by rw [List.length_take, List.length_drop]; have := hge m (of_decide_eq_true h_q3); omega) (fun x hx => hP8 x (List.mem_of_mem_drop (List.mem_of_mem_take hx))))
                simp only [nm, seval]
                apply VE.cons
                · exact ev_store rfl (gn rfl) rfl rfl rfl Tryd.sizeOf40 rfl (by simp) rfl
                simp only [nm, seval]
                exact VE.nil _
              · kernel_rfl
              change VOk _ _ _ _ _
              apply vrp
              · apply VE.cons
                · exact ev_move rfl (gn rfl)
                simp only [nm, seval]
                apply VE.cons
                · exact ev_cuttail (a := 64) (m := Pd.length - 64 * (m + 1)) (l' := (Pd.drop (64 * (m + 1))).map b8) rfl rfl (gn rfl) rfl rfl Tryd.underlying27 Tryd.sizeOf5 rfl (hge m (of_decide_eq_true h_q3)) (by rw [← List.map_drop, drop_step]) (by simp) (by omega)
                simp only [nm, seval]
                apply VE.cons
                · exact ev_assign rfl (gn rfl)
                simp only [nm, seval]
                exact VE.nil _
              · kernel_rfl
              have h64 : 64 ≤ Pd.length - 64 * m := hge m (of_decide_eq_true h_q3)
              refine ⟨⟨m + 1, by omega, by omega⟩, by show Pd.length - 64 * (m + 1) < Pd.length - 64 * m; omega, ?_⟩
              have e3 : TollSha.press H ((Pd.drop (64 * m)).take 64) = pressN H0 Pd (m + 1) := by rw [← hH]; rfl
              rw [e3]
              exact (weaker_forget (fun i => i == 0 || i == 2 || i == 3 || i == 6) []).trans2 (fun f => weaker_ren 55 900 (by decide) rfl)
          · rw [hst, htd, htl]
            exact (weaker_forget (fun i => i == 0 || i == 2 || i == 3 || i == 6) []).trans2 (fun f => weaker_swap (a := (6, _)) (b := (900, _)) (show (6 : Nat) ≠ 900 by decide))
        · refine vcond_t rfl ?_
          have hlt : y < 8 := of_decide_eq_true h_q2
          refine vskip ?_
          change VOk _ _ _ _ _
          refine vseq ?_
          refine vblock ?_
          refine vseq ?_
          apply vrp
          · apply VE.cons
            · exact ev_move rfl (gn rfl)
            simp only [nm, seval]
            apply VE.cons
            · exact ev_assign rfl (gn rfl)
            simp only [nm, seval]
            exact VE.nil _
          · kernel_rfl
          change VOk _ _ _ _ _
          apply vrp
          · apply VE.cons
            · exact ev_move rfl (gn rfl)
            simp only [nm, seval]
            apply VE.cons
            · exact ev_move rfl (gn rfl)
            simp only [nm, seval]
            apply VE.cons
            · exact ev_move rfl (gn rfl)
            simp only [nm, seval]
            apply VE.cons
            · exact ev_sub (c := ((7 - y : Nat) : Int)) rfl (gn rfl) rfl rfl (by rw [i64w (by omega) (by omega)]; omega)
            simp only [nm, seval]
            apply VE.cons
            · exact ev_bin rfl (gn rfl) rfl rfl (fun w => mul8 (n := 7 - y) (by omega) _ _ w)
            simp only [nm, seval]
            apply VE.cons
            · exact ev_bin rfl (gn rfl) rfl rfl (fun w => shr64 (8 * a.length) (8 * (7 - y)) (by omega) _ _ w)
            simp only [nm, seval]
            apply VE.cons
            · exact ev_conv rfl (gn rfl) rfl (fun w => cv475 _ w)
            simp only [nm, seval]
            apply VE.cons
            · exact ev_buildslice rfl rfl (gn rfl) rfl (e := 5) (l := [b8 (8 * a.length / 2 ^ (8 * (7 - y)) % 256)]) rfl (by decide) (fun _ => by kernel_rfl)
            simp only [nm, seval]
            apply VE.cons
            · exact ev_append rfl rfl (gn rfl) rfl rfl rfl (rdg_row rfl) Tryd.underlying27 el5 (by decide) (by simp [len8]; omega) rfl (by simp only [maxLen]; omega) (by omega) (by simp)
            simp only [nm, seval]
            apply VE.cons
            · exact ev_assign rfl (gn rfl)
            simp only [nm, seval]
            exact VE.nil _
          · kernel_rfl
          change VOk _ _ _ _ _
          apply vrp
          · apply VE.cons
            · exact ev_add (c := ((y + 1 : Nat) : Int)) rfl (gn rfl) rfl rfl (by rw [i64w (by omega) (by omega)]; omega)
            simp only [nm, seval]
            apply VE.cons
            · exact ev_move rfl (gn rfl)
            simp only [nm, seval]
            exact VE.nil _
          · kernel_rfl
          refine ⟨⟨y + 1, by have := of_decide_eq_true h_q2; omega⟩, by show 8 - (y + 1) < 8 - y; have := of_decide_eq_true h_q2; omega, ?_⟩
          have e2 : ((stW a ++ 128 :: List.replicate (zeros a.length) 0) ++ (len8 (8 * a.length)).take y).map b8 ++ [b8 (8 * a.length / 2 ^ (8 * (7 - y)) % 256)] = ((stW a ++ 128 :: List.replicate (zeros a.length) 0) ++ (len8 (8 * a.length)).take (y + 1)).map b8 := by rw [take_get (len8_get (of_decide_eq_true h_q2))]; simp
          rw [e2]
          exact (weaker_forget (fun i => i == 0 || i == 2 || i == 3 || i == 4 || i == 34) [44]).trans2 (fun f => weaker_ren 45 900 (by decide) rfl)
      · refine (weaker_forget (fun i => i == 0 || i == 2 || i == 3 || i == 4 || i == 34) []).trans2 (fun f => weaker_id (fun _ => undef) ?_)
        simp [forgetFr, memDel]
    · refine vcond_t rfl ?_
      have hlt : x < zeros a.length := of_decide_eq_true h_q
      refine vskip ?_
      change VOk _ _ _ _ _
      refine vblock ?_
      apply vrp
      · apply VE.cons
        · exact ev_move rfl (gn rfl)
        simp only [nm, seval]
        apply VE.cons
        · exact ev_buildslice rfl rfl (gn rfl) rfl (e := 5) (l := [b8 (0)]) rfl (by decide) (fun _ => by kernel_rfl)
        simp only [nm, seval]
        apply VE.cons
        · exact ev_append rfl rfl (gn rfl) rfl rfl rfl (rdg_row rfl) Tryd.underlying27 el5 (by decide) (by simp; try omega) rfl (by simp only [maxLen]; omega) (by omega) (by simp)
        simp only [nm, seval]
        apply VE.cons
        · exact ev_assign rfl (gn rfl)
        simp only [nm, seval]
        exact VE.nil _
      · kernel_rfl
      refine ⟨⟨x + 1, by have := of_decide_eq_true h_q; omega⟩, by show zeros a.length - (x + 1) < zeros a.length - x; have := of_decide_eq_true h_q; omega, ?_⟩
      have e1 : ((stW a ++ 128 :: List.replicate x 0)).map b8 ++ [b8 0] = ((stW a ++ 128 :: List.replicate (x + 1) 0)).map b8 := by rw [List.replicate_succ']; simp
      rw [e1]
      exact (weaker_forget (fun i => i == 0 || i == 2 || i == 3) [26]).trans2 (fun f => weaker_ren 27 900 (by decide) rfl)
  · rw [hWb, hwl, show a.length % 64 + 1 = a.length % 64 + 1 + 0 from rfl]
    exact (weaker_forget (fun i => i == 0 || i == 2 || i == 3) [19]).trans2 (fun f => weaker_ren 20 900 (by decide) rfl)
end Go.Proofs.YtdhklekkpkbfeaaDoor
