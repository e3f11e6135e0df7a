import Derived.Test.YtmgmiiongleaeaaDoorDr
namespace Go.Proofs.YtmgmiiongleaeaaDoor
open Go.RowKit Go.Vx
open Go.Toll (Gw)
set_option maxHeartbeats 4000000
set_option maxRecDepth 100000
theorem c_writeD {w : World} {base : Nat} {ρ : Nat → Nm} {S : Nat → Nat → Prop} {m : Mem} {rd : List Nat} (id : Nat) {t : Tr} (hok : t.ok) (hwt : wt t ≤ 1073741824) (hR : RelOn base ρ S w (restr rd m)) (hid : id ∈ rd) (hm : m id = some (.dat (datN t))) :
    Calls Tryd.prog 12 (SV.cs ρ [.d id]).toArray w fun e w' => ∃ v, e = .returned (.tuple #[v, .int .i64 (wrT t).2]) ∧ RetRow w w' v (wrT t).1.length 1 5 ((wrT t).1.map b8) ∧ Bw w w' := by
  obtain ⟨c, h1, h2⟩ := datN_get hR hid hm
  simp only [SV.cs, SV.c, h1]
  exact Write_ok w hok h2 hwt
mutual
theorem right_mono : ∀ (t : Tr) (d : Nat), rightT t (d + 1) = true → rightT t d = true
  | .mk t b ks, d, h => by
    simp only [rightT] at h ⊢
    cases h1 : decide (d + 1 > 8) with
    | true => rw [h1] at h; cases h
    | false =>
      have h2 : decide (d > 8) = false := by have := of_decide_eq_false h1; exact decide_eq_false (by omega)
      rw [h1] at h; rw [h2]
      simp only [cond_false] at h ⊢
      cases hm : !(madeT t) <;> rw [hm] at h <;> simp only [cond_true, cond_false] at h ⊢
      · cases hb : (decide (b.length > 0) || decide (ks.length > 20)) <;> rw [hb] at h <;> simp only [cond_true, cond_false] at h ⊢
        · rw [notR_mono ks (d + 1) (by simpa using h)]; rfl
        · exact h
      · exact h
theorem notR_mono : ∀ (ks : List Tr) (d : Nat), notR ks (d + 1) = false → notR ks d = false
  | [], _, _ => rfl
  | k :: ks, d, h => by
    simp only [notR, Bool.or_eq_false_iff, Bool.not_eq_false'] at h ⊢
    exact ⟨right_mono k d h.1, notR_mono ks d h.2⟩
end
theorem wrT_cases (t : Tr) : (rightT t 1 = false ∧ wrT t = ([], 2)) ∨ (rightT t 1 = true ∧ (bytesT t).length > 2048 ∧ wrT t = ([], 4)) ∨ (rightT t 1 = true ∧ (bytesT t).length ≤ 2048 ∧ wrT t = (bytesT t, 0)) := by
  unfold wrT
  cases rightT t 1 with
  | false => exact .inl ⟨rfl, rfl⟩
  | true =>
    cases h : decide ((bytesT t).length > 2048) with
    | true => exact .inr (.inl ⟨rfl, of_decide_eq_true h, rfl⟩)
    | false => exact .inr (.inr ⟨rfl, by have := of_decide_eq_false h; omega, rfl⟩)
/-- a structure of two. -/
def two (t1 t2 : Tr) : Tr := .mk 48 [] [t1, t2]
theorem two_ok {t1 t2 : Tr} (h1 : t1.ok) (h2 : t2.ok) : (two t1 t2).ok := by
  simp only [two, Tr.ok, oks, List.length_nil, List.length_cons]
  exact ⟨fun x hx => by simp at hx, by omega, by omega, h1, h2, True.intro⟩
theorem two_wt (t1 t2 : Tr) : wt (two t1 t2) = wt t1 + wt t2 + 10 := by simp only [two, wt, wts, List.length_nil]; omega
theorem two_right (t1 t2 : Tr) : rightT (two t1 t2) 1 = (rightT t1 2 && rightT t2 2) := by
  have h : rightT (two t1 t2) 1 = !(!(rightT t1 2) || (!(rightT t2 2) || false)) := rfl
  rw [h]; simp
theorem two_bytes (t1 t2 : Tr) : bytesT (two t1 t2) = 48 :: countD ((bytesT t1).length + (bytesT t2).length) ++ (bytesT t1 ++ bytesT t2) := by
  simp only [two, bytesT, bb, List.nil_append, List.length_append]
  rfl
theorem countD_short {n : Nat} (h : n < 65536) : (countD n).length ≤ 3 := by
  unfold countD
  rw [show decide (n < 65536) = true from decide_eq_true h]
  cases decide (n < 128) <;> cases decide (n < 256) <;> simp
theorem j_bad {t1 t2 : Tr} (h : (wrT t1).2 ≠ 0 ∨ (wrT t2).2 ≠ 0) : (wrT (two t1 t2)).2 ≠ 0 := by
  rcases wrT_cases (two t1 t2) with ⟨_, e⟩ | ⟨_, _, e⟩ | ⟨h1, h2, _⟩
  · rw [e]; decide
  · rw [e]; decide
  · rw [two_right, Bool.and_eq_true] at h1
    rw [two_bytes] at h2
    simp only [List.length_append, List.length_cons] at h2
    have g1 := right_mono t1 1 h1.1
    have g2 := right_mono t2 1 h1.2
    rcases h with h | h
    · rcases wrT_cases t1 with ⟨e, _⟩ | ⟨_, e, _⟩ | ⟨_, _, e⟩
      · rw [e] at g1; cases g1
      · omega
      · rw [e] at h; exact absurd rfl h
    · rcases wrT_cases t2 with ⟨e, _⟩ | ⟨_, e, _⟩ | ⟨_, _, e⟩
      · rw [e] at g2; cases g2
      · omega
      · rw [e] at h; exact absurd rfl h
theorem j_two {t1 t2 : Tr} (h1 : (wrT t1).2 = 0) (h2 : (wrT t2).2 = 0) : ((wrT (two t1 t2)).2 = 0 ∧ ∃ c, (wrT (two t1 t2)).1 = 48 :: c ++ ((wrT t1).1 ++ (wrT t2).1)) ∨
    ((wrT (two t1 t2)).2 = 2 ∧ rightT (two t1 t2) 1 = false) ∨ ((wrT (two t1 t2)).2 = 4 ∧ rightT (two t1 t2) 1 = true ∧ (wrT t1).1.length + (wrT t2).1.length > 2040) := by
  have e1 : (wrT t1).1 = bytesT t1 := by
    rcases wrT_cases t1 with ⟨_, e⟩ | ⟨_, _, e⟩ | ⟨_, _, e⟩
    · rw [e] at h1; cases h1
    · rw [e] at h1; cases h1
    · rw [e]
  have e2 : (wrT t2).1 = bytesT t2 := by
    rcases wrT_cases t2 with ⟨_, e⟩ | ⟨_, _, e⟩ | ⟨_, _, e⟩
    · rw [e] at h2; cases h2
    · rw [e] at h2; cases h2
    · rw [e]
  rw [e1, e2]
  rcases wrT_cases (two t1 t2) with ⟨h, e⟩ | ⟨h, hl, e⟩ | ⟨h, hl, e⟩
  · exact .inr (.inl ⟨by rw [e], h⟩)
  · refine .inr (.inr ⟨by rw [e], h, ?_⟩)
    rw [two_bytes] at hl
    simp only [List.length_append, List.length_cons] at hl
    by_cases hn : (bytesT t1).length + (bytesT t2).length < 65536
    · have := countD_short hn; omega
    · omega
  · exact .inl ⟨by rw [e], _, by rw [e]; exact two_bytes t1 t2⟩
theorem tail_of {z x c : List Nat} (hz : z = 48 :: c ++ x) : ((z.map b8).drop ((c.length + 1) * 1)).take ((z.length - (c.length + 1)) * 1) = x.map b8 := by
  subst hz
  rw [List.map_append, List.drop_append, List.drop_of_length_le (by simp), List.nil_append]
  rw [show (c.length + 1) * 1 - (List.map b8 (48 :: c)).length = 0 by simp, List.drop_zero]
  exact List.take_of_length_le (by simp)
theorem bs24_2 (v u : Value) (w : World) (h : v.cells.size = 3) (h2 : u.cells.size = 3) : (Instr.buildSlice 22 2 #[(0, v), (1, u)]).run Tryd.prog w = .ok (.slice (some ⟨w.heap.size, 0, none⟩) 2 2) (w.alloc (.cells (v.cells ++ u.cells) 24)) := by
  obtain ⟨a, b, c, hl⟩ := list3 (l := v.cells.toList) (by simpa using h)
  obtain ⟨a', b', c', hl2⟩ := list3 (l := u.cells.toList) (by simpa using h2)
  have hl' : v.cells = #[a, b, c] := by apply Array.ext'; rw [hl]
  have hl2' : u.cells = #[a', b', c'] := by apply Array.ext'; rw [hl2]
  have hz : ∀ w, (zeroValue 24).run Tryd.prog w = .ok (.agg #[.int .i64 0, .string (ByteArray.mk #[]), .slice none 0 0]) w := Tryd.zeroValue24
  have hs : ∀ w, (Go.sizeOf 24).run Tryd.prog w = .ok 3 w := Tryd.sizeOf24
  unfold Instr.buildSlice
  have hzc : Value.cells (.agg #[.int .i64 0, .string (ByteArray.mk #[]), .slice none 0 0]) = #[.int .i64 0, .string (ByteArray.mk #[]), .slice none 0 0] := rfl
  have hr : Array.range 6 = #[0, 1, 2, 3, 4, 5] := by decide
  simp [run_underlying Tryd.underlying22, hs, hz, Instr.fill, hl', hl2', hzc, newRow, newObj, hr]
  rfl
theorem ev_build02s {P : Program} {w0 : World} {ops : Array Oper} {o : Oper} {s : VS} {ty : TypeId} {x y : Operand} {a c : Value} {id off n cap : Nat} (ho : o.op = .build ty #[(0, x), (2, y)]) (hgd : Want ops o s)
    (hx : svEval s x = .v a) (hy : svEval s y = .s id off n cap) (hb : ∀ p m q, P.built ty [(0, a), (2, .slice p m q)] = some #[a, c, .slice p m q]) : Ev P ops w0 o s ⟨.agg [.v a, .v c, .s id off n cap], [], [], [], []⟩ :=
  Ev.run _ _ hgd fun ρ S w hbw hR => by
    have e0 := svEval_c s ρ x
    rw [hx] at e0
    have e1 := svEval_c s ρ y
    rw [hy] at e1
    simp only [execOp, ho, List.map_toArray, List.map_cons, List.map_nil, e0, e1, SV.c]
    rw [Sem.run_bind, run_build w ty _ #[a, c, .slice (some ⟨(ρ id).g, off, none⟩) n cap] (hb _ _ _)]
    simp [SV.cs, SV.c]
theorem built24k (t : Int) (p : Option Addr) (m q : Nat) : Tryd.prog.built 24 [(0, .int .i64 t), (2, .slice p m q)] = some #[.int .i64 t, .string (ByteArray.mk #[]), .slice p m q] := by kernel_rfl
/-- two nodes of the document's, in a slice: is a structure of both right? -/
theorem c_right2 {ρ : Nat → Nm} {S : Nat → Nat → Prop} {w w0 : World} {m : Mem} {rd : List Nat} {i j q : Nat} {t1 t2 : Tr} {bt : TypeId} (ok1 : t1.ok) (ok2 : t2.ok) (hR : RelOn w0.heap.size ρ S w (restr rd m)) (hi : i ∈ rd) (hj : j ∈ rd) (hq : q ∈ rd) (h1 : m i = some (.dat (datR t1))) (h2 : m j = some (.dat (datR t2)))
    (h3 : m q = some (.cells ([.fn (cellV 0) (.d i), .fn (cellV 1) (.d i), .fn (cellV 2) (.d i)] ++ [.fn (cellV 0) (.d j), .fn (cellV 1) (.d j), .fn (cellV 2) (.d j)]) bt)) :
    Calls Tryd.prog 18 (SV.cs ρ [.agg [.v (.int .i64 48), .v (.string (ByteArray.mk #[])), .s q 0 2 2], .v (.int .i64 1)]).toArray w fun e w' => e = .returned (.bool (rightT (two t1 t2) 1)) ∧ Bw w w' := by
  obtain ⟨c1, e1, d1⟩ := datR_get hR hi h1
  obtain ⟨c2, e2, d2⟩ := datR_get hR hj h2
  have f1 := (fn3 e1 (RN_len d1)).2
  have f2 := (fn3 e2 (RN_len d2)).2
  have hc : SV.cs ρ ([.fn (cellV 0) (.d i), .fn (cellV 1) (.d i), .fn (cellV 2) (.d i)] ++ [.fn (cellV 0) (.d j), .fn (cellV 1) (.d j), .fn (cellV 2) (.d j)]) = c1 ++ c2 := by
    rw [← f1, ← f2]; simp [cs_map]
  have hs : SlAt w (.slice (some ⟨(ρ q).g, 0, none⟩) 2 2) 2 3 (c1 ++ c2) (fun _ => True) := by
    have hg := (relon_get hR h3 hq).2
    refine ⟨_, _, rfl, Nat.le_refl _, by rw [List.length_append, RN_len d1, RN_len d2], .inr ⟨_, rfl, True.intro, fun i x hx => ?_⟩⟩
    rw [← hc] at hx
    exact cells_get hg hx
  have hn : RN w (fun _ => True) (two t1 t2) [.int .i64 48, .string (ByteArray.mk #[]), .slice (some ⟨(ρ q).g, 0, none⟩) 2 2] := by
    simp only [two, RN, RNs]
    exact ⟨_, c1 ++ c2, rfl, hs, c1, c2, rfl, RN_sub (fun _ _ => True.intro) d1, c2, [], by simp, RN_sub (fun _ _ => True.intro) d2, rfl⟩
  have := rright_all (two t1 t2) (two_ok ok1 ok2) 1 _ w _ (by decide) hn
  simp only [SV.cs, SV.c]
  exact this
theorem joins_a {t t' : Tr} {x00 x01 x02 x10 x11 x12 : Value} {S S' : Nat → Prop} (w : World) (ok0 : t.okL) (ok1 : t'.okL) (hx0 : RN w S t [x00, x01, x02]) (hx1 : RN w S' t' [x10, x11, x12]) (he : decide ((wrT (tm t)).2 ≠ 0) = true) (hg : decide ((wrT (two (tm t) (tm t'))).2 ≠ 0) = true) : Calls Tryd.prog 4 #[.agg #[x00, x01, x02], .agg #[x10, x11, x12]] w fun e w' => e = .returned (.bool true) ∧ Bw w w' := by
  have hk := tm_ok ok0
  have hk' := tm_ok ok1
  have hwt := tm_wt t
  have hwt' := tm_wt t'
  have hwu := two_wt (tm t) (tm t')
  go_enter Tryd.func4, Tryd.ntmps4
  refine ve_go ?_
  simp only [List.map_cons, List.map_nil]
  refine vseq ?_
  apply vrp
  · apply VE.cons
    · exact ev_box rfl rfl (gn rfl) rfl
    simp only [nm, seval]
    apply VE.cons
    · exact ev_box rfl rfl (gn rfl) rfl
    simp only [nm, seval]
    apply VE.cons
    · exact ev_assign rfl (gn rfl)
    simp only [nm, seval]
    exact VE.nil _
  · kernel_rfl
  change VOk _ _ _ _ _
  refine vseq ?_
  apply vrd (by kernel_rfl)
  · apply VE.cons
    · exact ev_loada rfl (gn rfl) rfl rfl Tryd.underlying24 rfl Tryd.sizeOf24 rfl
    simp only [nm, seval]
    apply VE.cons
    · exact ev_calld (D := datR (tm t)) [] rfl rfl (gn rfl) rfl (en_of Tryd.func10 (by kernel_rfl) rfl) (fun ρ S w' hb _ => tame_ok w' ok0 (RN_bw hb hx0))
    simp only [nm, seval]
    apply VE.cons
    · exact ev_loada rfl (gn rfl) rfl rfl Tryd.underlying24 rfl Tryd.sizeOf24 rfl
    simp only [nm, seval]
    apply VE.cons
    · exact ev_calld (D := datR (tm t')) [] rfl rfl (gn rfl) rfl (en_of Tryd.func10 (by kernel_rfl) rfl) (fun ρ S w' hb _ => tame_ok w' ok1 (RN_bw hb hx1))
    simp only [nm, seval]
    apply VE.cons
    · first | exact ev_storeR (vl := [.fn (cellV 0) (.d 13), .fn (cellV 1) (.d 13), .fn (cellV 2) (.d 13)]) [2, 13] rfl (gn rfl) rfl rfl rfl Tryd.sizeOf24 rfl (fun ρ S w' _ hR => by obtain ⟨c, h1, h2⟩ := datR_get (id := 13) hR (by simp) rfl; have hf := fn3 h1 (RN_len h2); exact ⟨hf.1, hf.2 ▸ RN_one h2⟩) rfl (by simp) | exact ev_storeR (vl := [.fn (cellV 0) (.d 15), .fn (cellV 1) (.d 15), .fn (cellV 2) (.d 15)]) [3, 15] rfl (gn rfl) rfl rfl rfl Tryd.sizeOf24 rfl (fun ρ S w' _ hR => by obtain ⟨c, h1, h2⟩ := datR_get (id := 15) hR (by simp) rfl; have hf := fn3 h1 (RN_len h2); exact ⟨hf.1, hf.2 ▸ RN_one h2⟩) rfl (by simp)
    simp only [nm, seval]
    apply VE.cons
    · first | exact ev_storeR (vl := [.fn (cellV 0) (.d 13), .fn (cellV 1) (.d 13), .fn (cellV 2) (.d 13)]) [2, 13] rfl (gn rfl) rfl rfl rfl Tryd.sizeOf24 rfl (fun ρ S w' _ hR => by obtain ⟨c, h1, h2⟩ := datR_get (id := 13) hR (by simp) rfl; have hf := fn3 h1 (RN_len h2); exact ⟨hf.1, hf.2 ▸ RN_one h2⟩) rfl (by simp) | exact ev_storeR (vl := [.fn (cellV 0) (.d 15), .fn (cellV 1) (.d 15), .fn (cellV 2) (.d 15)]) [3, 15] rfl (gn rfl) rfl rfl rfl Tryd.sizeOf24 rfl (fun ρ S w' _ hR => by obtain ⟨c, h1, h2⟩ := datR_get (id := 15) hR (by simp) rfl; have hf := fn3 h1 (RN_len h2); exact ⟨hf.1, hf.2 ▸ RN_one h2⟩) rfl (by simp)
    simp only [nm, seval]
    exact VE.nil _
  · kernel_rfl
  change VOk _ _ _ _ _
  refine vseq ?_
  apply vrp
  · apply VE.cons
    · exact ev_loada rfl (gn rfl) rfl rfl Tryd.underlying24 rfl Tryd.sizeOf24 rfl
    simp only [nm, seval]
    apply VE.cons
    · exact ev_calld (D := datN (tm t)) [13] rfl rfl (gn rfl) rfl (en_of Tryd.func11 (by kernel_rfl) rfl) (fun ρ S w' hb hR => c_to 13 hk hR (by simp) rfl)
    simp only [nm, seval]
    apply VE.cons
    · exact ev_callrowt [18] rfl rfl (gn rfl) rfl (en_of Tryd.func12 (by kernel_rfl) rfl) (n := (wrT (tm t)).1.length) (size := 1) (l := (wrT (tm t)).1.map b8) (y := .int .i64 (wrT (tm t)).2) (by simp) (fun ρ S w' hb hR => c_writeD 18 hk (by omega) hR (by simp) rfl)
    simp only [nm, seval]
    apply VE.cons
    · exact ev_move rfl (gn rfl)
    simp only [nm, seval]
    apply VE.cons
    · first | exact ev_extract rfl (gn rfl) rfl rfl | exact ev_extractt rfl (gn rfl) rfl rfl
    simp only [nm, seval]
    apply VE.cons
    · first | exact ev_extract rfl (gn rfl) rfl rfl | exact ev_extractt rfl (gn rfl) rfl rfl
    simp only [nm, seval]
    apply VE.cons
    · exact ev_assign rfl (gn rfl)
    simp only [nm, seval]
    apply VE.cons
    · exact ev_assign rfl (gn rfl)
    simp only [nm, seval]
    exact VE.nil _
  · kernel_rfl
  change VOk _ _ _ _ _
  refine vseq ?_
  apply vrp
  · apply VE.cons
    · exact ev_loada rfl (gn rfl) rfl rfl Tryd.underlying24 rfl Tryd.sizeOf24 rfl
    simp only [nm, seval]
    apply VE.cons
    · exact ev_calld (D := datN (tm t')) [15] rfl rfl (gn rfl) rfl (en_of Tryd.func11 (by kernel_rfl) rfl) (fun ρ S w' hb hR => c_to 15 hk' hR (by simp) rfl)
    simp only [nm, seval]
    apply VE.cons
    · exact ev_callrowt [24] rfl rfl (gn rfl) rfl (en_of Tryd.func12 (by kernel_rfl) rfl) (n := (wrT (tm t')).1.length) (size := 1) (l := (wrT (tm t')).1.map b8) (y := .int .i64 (wrT (tm t')).2) (by simp) (fun ρ S w' hb hR => c_writeD 24 hk' (by omega) hR (by simp) rfl)
    simp only [nm, seval]
    apply VE.cons
    · exact ev_move rfl (gn rfl)
    simp only [nm, seval]
    apply VE.cons
    · first | exact ev_extract rfl (gn rfl) rfl rfl | exact ev_extractt rfl (gn rfl) rfl rfl
    simp only [nm, seval]
    apply VE.cons
    · first | exact ev_extract rfl (gn rfl) rfl rfl | exact ev_extractt rfl (gn rfl) rfl rfl
    simp only [nm, seval]
    apply VE.cons
    · exact ev_assign rfl (gn rfl)
    simp only [nm, seval]
    apply VE.cons
    · exact ev_assign rfl (gn rfl)
    simp only [nm, seval]
    exact VE.nil _
  · kernel_rfl
  change VOk _ _ _ _ _
  refine vseq ?_
  apply vrd (by kernel_rfl)
  · apply VE.cons
    · exact ev_loada rfl (gn rfl) rfl rfl Tryd.underlying24 rfl Tryd.sizeOf24 rfl
    simp only [nm, seval]
    apply VE.cons
    · exact ev_calld (D := datN (tm t)) [13] rfl rfl (gn rfl) rfl (en_of Tryd.func11 (by kernel_rfl) rfl) (fun ρ S w' hb hR => c_to 13 hk hR (by simp) rfl)
    simp only [nm, seval]
    apply VE.cons
    · exact ev_loada rfl (gn rfl) rfl rfl Tryd.underlying24 rfl Tryd.sizeOf24 rfl
    simp only [nm, seval]
    apply VE.cons
    · exact ev_calld (D := datN (tm t')) [15] rfl rfl (gn rfl) rfl (en_of Tryd.func11 (by kernel_rfl) rfl) (fun ρ S w' hb hR => c_to 15 hk' hR (by simp) rfl)
    simp only [nm, seval]
    apply VE.cons
    · exact ev_buildsl2 (n := 3) (l := [.fn (cellV 0) (.d 30), .fn (cellV 1) (.d 30), .fn (cellV 2) (.d 30)]) (l2 := [.fn (cellV 0) (.d 32), .fn (cellV 1) (.d 32), .fn (cellV 2) (.d 32)]) [30, 32] rfl rfl (gn rfl) rfl rfl (fun ρ S w' hR => by obtain ⟨c1, e1, d1⟩ := datN_get (id := 30) hR (by simp) rfl; obtain ⟨c2, e2, d2⟩ := datN_get (id := 32) hR (by simp) rfl; exact ⟨(fn3 e1 (DN_len d1)).1, (fn3 e2 (DN_len d2)).1⟩) rfl rfl rfl bs29_2
    simp only [nm, seval]
    apply VE.cons
    · exact ev_callrowD (n := 2) (size := 3) (ty := 29) (datNs [tm t, tm t']) (ofV 48) [33, 30, 32] rfl rfl (gn rfl) rfl (en_of Tryd.func17 (by kernel_rfl) rfl) (fun ρ S w' hb hR => of_two (i := 30) (j := 32) (q := 33) hR (by simp) (by simp) (by simp) rfl rfl rfl 48)
    simp only [nm, seval]
    apply VE.cons
    · exact ev_callrowt [34] rfl rfl (gn rfl) rfl (en_of Tryd.func12 (by kernel_rfl) rfl) (n := (wrT (two (tm t) (tm t'))).1.length) (size := 1) (ty := 5) (l := (wrT (two (tm t) (tm t'))).1.map b8) (y := .int .i64 (wrT (two (tm t) (tm t'))).2) (by simp) (fun ρ S w' hb hR => by obtain ⟨S', hd⟩ := node_row (t := 48) (ks := [tm t, tm t']) (id := 34) hR (by simp) rfl; exact Write_ok (t := (two (tm t) (tm t'))) w' (two_ok hk hk') hd (by omega))
    simp only [nm, seval]
    apply VE.cons
    · exact ev_move rfl (gn rfl)
    simp only [nm, seval]
    apply VE.cons
    · first | exact ev_extract rfl (gn rfl) rfl rfl | exact ev_extractt rfl (gn rfl) rfl rfl
    simp only [nm, seval]
    apply VE.cons
    · first | exact ev_extract rfl (gn rfl) rfl rfl | exact ev_extractt rfl (gn rfl) rfl rfl
    simp only [nm, seval]
    apply VE.cons
    · exact ev_assign rfl (gn rfl)
    simp only [nm, seval]
    apply VE.cons
    · exact ev_assign rfl (gn rfl)
    simp only [nm, seval]
    exact VE.nil _
  · kernel_rfl
  change VOk _ _ _ _ _
  refine vseq ?_
  refine vseq ?_
  apply vrp
  · apply VE.cons
    · exact ev_callb rfl (gn rfl) rfl (en_of Tryd.func14 (by kernel_rfl) rfl) (fun w' hb => ders_ok w')
    simp only [nm, seval]
    apply VE.cons
    · exact ev_not rfl (gn rfl) rfl
    simp only [nm, seval]
    apply VE.cons
    · exact ev_move rfl (gn rfl)
    simp only [nm, seval]
    apply VE.cons
    · first | exact Ev.skip (fun _ => rfl) | exact ev_move rfl (fun _ => rfl)
    simp only [nm, seval]
    apply VE.cons
    · first | exact Ev.skip (fun _ => rfl) | exact ev_neq (p := true) rfl (fun _ => rfl) rfl rfl (he)
    simp only [nm, seval]
    apply VE.cons
    · first | exact ev_pick_t rfl (gn rfl) rfl rfl | exact ev_pick_f rfl (gn rfl) rfl rfl
    simp only [nm, seval]
    apply VE.cons
    · exact ev_move rfl (gn rfl)
    simp only [nm, seval]
    apply VE.cons
    · first | exact Ev.skip (fun _ => rfl) | exact ev_move rfl (fun _ => rfl)
    simp only [nm, seval]
    apply VE.cons
    · first | exact Ev.skip (fun _ => rfl) | refine ev_pure' (fun _ => rfl) (fun ρ w => by simp only [VS.act, SV.c, List.map_cons, List.map_nil]; go_simp; exact rfl) (fun _ _ => rfl)
    simp only [nm, seval]
    apply VE.cons
    · first | exact ev_pick_t rfl (gn rfl) rfl rfl | exact ev_pick_f rfl (gn rfl) rfl rfl
    simp only [nm, seval]
    exact VE.nil _
  · kernel_rfl
  change VOk _ _ _ _ _
  refine vcond_t rfl ?_
  refine vseq ?_
  apply vrp
  · apply VE.cons
    · exact ev_callb rfl (gn rfl) rfl (en_of Tryd.func14 (by kernel_rfl) rfl) (fun w' hb => ders_ok w')
    simp only [nm, seval]
    apply VE.cons
    · exact ev_move rfl (gn rfl)
    simp only [nm, seval]
    apply VE.cons
    · first | exact Ev.skip (fun _ => rfl) | exact ev_move rfl (fun _ => rfl)
    simp only [nm, seval]
    apply VE.cons
    · first | exact Ev.skip (fun _ => rfl) | exact ev_neq (p := true) rfl (fun _ => rfl) rfl rfl (hg)
    simp only [nm, seval]
    apply VE.cons
    · first | exact Ev.skip (fun _ => rfl) | exact ev_move rfl (fun _ => rfl)
    simp only [nm, seval]
    apply VE.cons
    · first | exact Ev.skip (fun _ => rfl) | exact ev_move rfl (fun _ => rfl)
    simp only [nm, seval]
    apply VE.cons
    · first | exact Ev.skip (fun _ => rfl) | refine ev_pure' (fun _ => rfl) (fun ρ w => by simp only [VS.act, SV.c, List.map_cons, List.map_nil]; go_simp; exact rfl) (fun _ _ => rfl)
    simp only [nm, seval]
    apply VE.cons
    · first | exact Ev.skip (fun _ => rfl) | exact ev_move rfl (fun _ => rfl)
    simp only [nm, seval]
    apply VE.cons
    · first | exact Ev.skip (fun _ => rfl) | exact ev_move rfl (fun _ => rfl)
    simp only [nm, seval]
    apply VE.cons
    · first | exact Ev.skip (fun _ => rfl) | refine ev_pure' (fun _ => rfl) (fun ρ w => by simp only [VS.act, SV.c, List.map_cons, List.map_nil]; go_simp; exact rfl) (fun _ _ => rfl)
    simp only [nm, seval]
    apply VE.cons
    · first | exact Ev.skip (fun _ => rfl) | exact ev_pick_t rfl (fun _ => rfl) rfl rfl | exact ev_pick_f rfl (fun _ => rfl) rfl rfl
    simp only [nm, seval]
    apply VE.cons
    · first | exact Ev.skip (fun _ => rfl) | exact ev_pick_t rfl (fun _ => rfl) rfl rfl | exact ev_pick_f rfl (fun _ => rfl) rfl rfl
    simp only [nm, seval]
    apply VE.cons
    · first | exact ev_pick_t rfl (gn rfl) rfl rfl | exact ev_pick_f rfl (gn rfl) rfl rfl
    simp only [nm, seval]
    apply VE.cons
    · exact ev_assign rfl (gn rfl)
    simp only [nm, seval]
    exact VE.nil _
  · kernel_rfl
  change VOk _ _ _ _ _
  refine vret ?_
  refine post_ret (res1 Tryd.results4 (rv_tmp rfl)) ?_
  intro ρ w' hr
  exact ⟨rfl, hr.1⟩
theorem joins_b {t t' : Tr} {x00 x01 x02 x10 x11 x12 : Value} {S S' : Nat → Prop} (w : World) (ok0 : t.okL) (ok1 : t'.okL) (hx0 : RN w S t [x00, x01, x02]) (hx1 : RN w S' t' [x10, x11, x12]) (he : decide ((wrT (tm t)).2 ≠ 0) = false) (hf : decide ((wrT (tm t')).2 ≠ 0) = true) (hg : decide ((wrT (two (tm t) (tm t'))).2 ≠ 0) = true) : Calls Tryd.prog 4 #[.agg #[x00, x01, x02], .agg #[x10, x11, x12]] w fun e w' => e = .returned (.bool true) ∧ Bw w w' := by
  have hk := tm_ok ok0
  have hk' := tm_ok ok1
  have hwt := tm_wt t
  have hwt' := tm_wt t'
  have hwu := two_wt (tm t) (tm t')
  go_enter Tryd.func4, Tryd.ntmps4
  refine ve_go ?_
  simp only [List.map_cons, List.map_nil]
  refine vseq ?_
  apply vrp
  · apply VE.cons
    · exact ev_box rfl rfl (gn rfl) rfl
    simp only [nm, seval]
    apply VE.cons
    · exact ev_box rfl rfl (gn rfl) rfl
    simp only [nm, seval]
    apply VE.cons
    · exact ev_assign rfl (gn rfl)
    simp only [nm, seval]
    exact VE.nil _
  · kernel_rfl
  change VOk _ _ _ _ _
  refine vseq ?_
  apply vrd (by kernel_rfl)
  · apply VE.cons
    · exact ev_loada rfl (gn rfl) rfl rfl Tryd.underlying24 rfl Tryd.sizeOf24 rfl
    simp only [nm, seval]
    apply VE.cons
    · exact ev_calld (D := datR (tm t)) [] rfl rfl (gn rfl) rfl (en_of Tryd.func10 (by kernel_rfl) rfl) (fun ρ S w' hb _ => tame_ok w' ok0 (RN_bw hb hx0))
    simp only [nm, seval]
    apply VE.cons
    · exact ev_loada rfl (gn rfl) rfl rfl Tryd.underlying24 rfl Tryd.sizeOf24 rfl
    simp only [nm, seval]
    apply VE.cons
    · exact ev_calld (D := datR (tm t')) [] rfl rfl (gn rfl) rfl (en_of Tryd.func10 (by kernel_rfl) rfl) (fun ρ S w' hb _ => tame_ok w' ok1 (RN_bw hb hx1))
    simp only [nm, seval]
    apply VE.cons
    · first | exact ev_storeR (vl := [.fn (cellV 0) (.d 13), .fn (cellV 1) (.d 13), .fn (cellV 2) (.d 13)]) [2, 13] rfl (gn rfl) rfl rfl rfl Tryd.sizeOf24 rfl (fun ρ S w' _ hR => by obtain ⟨c, h1, h2⟩ := datR_get (id := 13) hR (by simp) rfl; have hf := fn3 h1 (RN_len h2); exact ⟨hf.1, hf.2 ▸ RN_one h2⟩) rfl (by simp) | exact ev_storeR (vl := [.fn (cellV 0) (.d 15), .fn (cellV 1) (.d 15), .fn (cellV 2) (.d 15)]) [3, 15] rfl (gn rfl) rfl rfl rfl Tryd.sizeOf24 rfl (fun ρ S w' _ hR => by obtain ⟨c, h1, h2⟩ := datR_get (id := 15) hR (by simp) rfl; have hf := fn3 h1 (RN_len h2); exact ⟨hf.1, hf.2 ▸ RN_one h2⟩) rfl (by simp)
    simp only [nm, seval]
    apply VE.cons
    · first | exact ev_storeR (vl := [.fn (cellV 0) (.d 13), .fn (cellV 1) (.d 13), .fn (cellV 2) (.d 13)]) [2, 13] rfl (gn rfl) rfl rfl rfl Tryd.sizeOf24 rfl (fun ρ S w' _ hR => by obtain ⟨c, h1, h2⟩ := datR_get (id := 13) hR (by simp) rfl; have hf := fn3 h1 (RN_len h2); exact ⟨hf.1, hf.2 ▸ RN_one h2⟩) rfl (by simp) | exact ev_storeR (vl := [.fn (cellV 0) (.d 15), .fn (cellV 1) (.d 15), .fn (cellV 2) (.d 15)]) [3, 15] rfl (gn rfl) rfl rfl rfl Tryd.sizeOf24 rfl (fun ρ S w' _ hR => by obtain ⟨c, h1, h2⟩ := datR_get (id := 15) hR (by simp) rfl; have hf := fn3 h1 (RN_len h2); exact ⟨hf.1, hf.2 ▸ RN_one h2⟩) rfl (by simp)
    simp only [nm, seval]
    exact VE.nil _
  · kernel_rfl
  change VOk _ _ _ _ _
  refine vseq ?_
  apply vrp
  · apply VE.cons
    · exact ev_loada rfl (gn rfl) rfl rfl Tryd.underlying24 rfl Tryd.sizeOf24 rfl
    simp only [nm, seval]
    apply VE.cons
    · exact ev_calld (D := datN (tm t)) [13] rfl rfl (gn rfl) rfl (en_of Tryd.func11 (by kernel_rfl) rfl) (fun ρ S w' hb hR => c_to 13 hk hR (by simp) rfl)
    simp only [nm, seval]
    apply VE.cons
    · exact ev_callrowt [18] rfl rfl (gn rfl) rfl (en_of Tryd.func12 (by kernel_rfl) rfl) (n := (wrT (tm t)).1.length) (size := 1) (l := (wrT (tm t)).1.map b8) (y := .int .i64 (wrT (tm t)).2) (by simp) (fun ρ S w' hb hR => c_writeD 18 hk (by omega) hR (by simp) rfl)
    simp only [nm, seval]
    apply VE.cons
    · exact ev_move rfl (gn rfl)
    simp only [nm, seval]
    apply VE.cons
    · first | exact ev_extract rfl (gn rfl) rfl rfl | exact ev_extractt rfl (gn rfl) rfl rfl
    simp only [nm, seval]
    apply VE.cons
    · first | exact ev_extract rfl (gn rfl) rfl rfl | exact ev_extractt rfl (gn rfl) rfl rfl
    simp only [nm, seval]
    apply VE.cons
    · exact ev_assign rfl (gn rfl)
    simp only [nm, seval]
    apply VE.cons
    · exact ev_assign rfl (gn rfl)
    simp only [nm, seval]
    exact VE.nil _
  · kernel_rfl
  change VOk _ _ _ _ _
  refine vseq ?_
  apply vrp
  · apply VE.cons
    · exact ev_loada rfl (gn rfl) rfl rfl Tryd.underlying24 rfl Tryd.sizeOf24 rfl
    simp only [nm, seval]
    apply VE.cons
    · exact ev_calld (D := datN (tm t')) [15] rfl rfl (gn rfl) rfl (en_of Tryd.func11 (by kernel_rfl) rfl) (fun ρ S w' hb hR => c_to 15 hk' hR (by simp) rfl)
    simp only [nm, seval]
    apply VE.cons
    · exact ev_callrowt [24] rfl rfl (gn rfl) rfl (en_of Tryd.func12 (by kernel_rfl) rfl) (n := (wrT (tm t')).1.length) (size := 1) (l := (wrT (tm t')).1.map b8) (y := .int .i64 (wrT (tm t')).2) (by simp) (fun ρ S w' hb hR => c_writeD 24 hk' (by omega) hR (by simp) rfl)
    simp only [nm, seval]
    apply VE.cons
    · exact ev_move rfl (gn rfl)
    simp only [nm, seval]
    apply VE.cons
    · first | exact ev_extract rfl (gn rfl) rfl rfl | exact ev_extractt rfl (gn rfl) rfl rfl
    simp only [nm, seval]
    apply VE.cons
    · first | exact ev_extract rfl (gn rfl) rfl rfl | exact ev_extractt rfl (gn rfl) rfl rfl
    simp only [nm, seval]
    apply VE.cons
    · exact ev_assign rfl (gn rfl)
    simp only [nm, seval]
    apply VE.cons
    · exact ev_assign rfl (gn rfl)
    simp only [nm, seval]
    exact VE.nil _
  · kernel_rfl
  change VOk _ _ _ _ _
  refine vseq ?_
  apply vrd (by kernel_rfl)
  · apply VE.cons
    · exact ev_loada rfl (gn rfl) rfl rfl Tryd.underlying24 rfl Tryd.sizeOf24 rfl
    simp only [nm, seval]
    apply VE.cons
    · exact ev_calld (D := datN (tm t)) [13] rfl rfl (gn rfl) rfl (en_of Tryd.func11 (by kernel_rfl) rfl) (fun ρ S w' hb hR => c_to 13 hk hR (by simp) rfl)
    simp only [nm, seval]
    apply VE.cons
    · exact ev_loada rfl (gn rfl) rfl rfl Tryd.underlying24 rfl Tryd.sizeOf24 rfl
    simp only [nm, seval]
    apply VE.cons
    · exact ev_calld (D := datN (tm t')) [15] rfl rfl (gn rfl) rfl (en_of Tryd.func11 (by kernel_rfl) rfl) (fun ρ S w' hb hR => c_to 15 hk' hR (by simp) rfl)
    simp only [nm, seval]
    apply VE.cons
    · exact ev_buildsl2 (n := 3) (l := [.fn (cellV 0) (.d 30), .fn (cellV 1) (.d 30), .fn (cellV 2) (.d 30)]) (l2 := [.fn (cellV 0) (.d 32), .fn (cellV 1) (.d 32), .fn (cellV 2) (.d 32)]) [30, 32] rfl rfl (gn rfl) rfl rfl (fun ρ S w' hR => by obtain ⟨c1, e1, d1⟩ := datN_get (id := 30) hR (by simp) rfl; obtain ⟨c2, e2, d2⟩ := datN_get (id := 32) hR (by simp) rfl; exact ⟨(fn3 e1 (DN_len d1)).1, (fn3 e2 (DN_len d2)).1⟩) rfl rfl rfl bs29_2
    simp only [nm, seval]
    apply VE.cons
    · exact ev_callrowD (n := 2) (size := 3) (ty := 29) (datNs [tm t, tm t']) (ofV 48) [33, 30, 32] rfl rfl (gn rfl) rfl (en_of Tryd.func17 (by kernel_rfl) rfl) (fun ρ S w' hb hR => of_two (i := 30) (j := 32) (q := 33) hR (by simp) (by simp) (by simp) rfl rfl rfl 48)
    simp only [nm, seval]
    apply VE.cons
    · exact ev_callrowt [34] rfl rfl (gn rfl) rfl (en_of Tryd.func12 (by kernel_rfl) rfl) (n := (wrT (two (tm t) (tm t'))).1.length) (size := 1) (ty := 5) (l := (wrT (two (tm t) (tm t'))).1.map b8) (y := .int .i64 (wrT (two (tm t) (tm t'))).2) (by simp) (fun ρ S w' hb hR => by obtain ⟨S', hd⟩ := node_row (t := 48) (ks := [tm t, tm t']) (id := 34) hR (by simp) rfl; exact Write_ok (t := (two (tm t) (tm t'))) w' (two_ok hk hk') hd (by omega))
    simp only [nm, seval]
    apply VE.cons
    · exact ev_move rfl (gn rfl)
    simp only [nm, seval]
    apply VE.cons
    · first | exact ev_extract rfl (gn rfl) rfl rfl | exact ev_extractt rfl (gn rfl) rfl rfl
    simp only [nm, seval]
    apply VE.cons
    · first | exact ev_extract rfl (gn rfl) rfl rfl | exact ev_extractt rfl (gn rfl) rfl rfl
    simp only [nm, seval]
    apply VE.cons
    · exact ev_assign rfl (gn rfl)
    simp only [nm, seval]
    apply VE.cons
    · exact ev_assign rfl (gn rfl)
    simp only [nm, seval]
    exact VE.nil _
  · kernel_rfl
  change VOk _ _ _ _ _
  refine vseq ?_
  refine vseq ?_
  apply vrp
  · apply VE.cons
    · exact ev_callb rfl (gn rfl) rfl (en_of Tryd.func14 (by kernel_rfl) rfl) (fun w' hb => ders_ok w')
    simp only [nm, seval]
    apply VE.cons
    · exact ev_not rfl (gn rfl) rfl
    simp only [nm, seval]
    apply VE.cons
    · exact ev_move rfl (gn rfl)
    simp only [nm, seval]
    apply VE.cons
    · first | exact Ev.skip (fun _ => rfl) | exact ev_move rfl (fun _ => rfl)
    simp only [nm, seval]
    apply VE.cons
    · first | exact Ev.skip (fun _ => rfl) | exact ev_neq (p := false) rfl (fun _ => rfl) rfl rfl (he)
    simp only [nm, seval]
    apply VE.cons
    · first | exact ev_pick_t rfl (gn rfl) rfl rfl | exact ev_pick_f rfl (gn rfl) rfl rfl
    simp only [nm, seval]
    apply VE.cons
    · exact ev_move rfl (gn rfl)
    simp only [nm, seval]
    apply VE.cons
    · first | exact Ev.skip (fun _ => rfl) | exact ev_move rfl (fun _ => rfl)
    simp only [nm, seval]
    apply VE.cons
    · first | exact Ev.skip (fun _ => rfl) | exact ev_neq (p := true) rfl (fun _ => rfl) rfl rfl (hf)
    simp only [nm, seval]
    apply VE.cons
    · first | exact ev_pick_t rfl (gn rfl) rfl rfl | exact ev_pick_f rfl (gn rfl) rfl rfl
    simp only [nm, seval]
    exact VE.nil _
  · kernel_rfl
  change VOk _ _ _ _ _
  refine vcond_t rfl ?_
  refine vseq ?_
  apply vrp
  · apply VE.cons
    · exact ev_callb rfl (gn rfl) rfl (en_of Tryd.func14 (by kernel_rfl) rfl) (fun w' hb => ders_ok w')
    simp only [nm, seval]
    apply VE.cons
    · exact ev_move rfl (gn rfl)
    simp only [nm, seval]
    apply VE.cons
    · first | exact Ev.skip (fun _ => rfl) | exact ev_move rfl (fun _ => rfl)
    simp only [nm, seval]
    apply VE.cons
    · first | exact Ev.skip (fun _ => rfl) | exact ev_neq (p := true) rfl (fun _ => rfl) rfl rfl (hg)
    simp only [nm, seval]
    apply VE.cons
    · first | exact Ev.skip (fun _ => rfl) | exact ev_move rfl (fun _ => rfl)
    simp only [nm, seval]
    apply VE.cons
    · first | exact Ev.skip (fun _ => rfl) | exact ev_move rfl (fun _ => rfl)
    simp only [nm, seval]
    apply VE.cons
    · first | exact Ev.skip (fun _ => rfl) | refine ev_pure' (fun _ => rfl) (fun ρ w => by simp only [VS.act, SV.c, List.map_cons, List.map_nil]; go_simp; exact rfl) (fun _ _ => rfl)
    simp only [nm, seval]
    apply VE.cons
    · first | exact Ev.skip (fun _ => rfl) | exact ev_move rfl (fun _ => rfl)
    simp only [nm, seval]
    apply VE.cons
    · first | exact Ev.skip (fun _ => rfl) | exact ev_move rfl (fun _ => rfl)
    simp only [nm, seval]
    apply VE.cons
    · first | exact Ev.skip (fun _ => rfl) | refine ev_pure' (fun _ => rfl) (fun ρ w => by simp only [VS.act, SV.c, List.map_cons, List.map_nil]; go_simp; exact rfl) (fun _ _ => rfl)
    simp only [nm, seval]
    apply VE.cons
    · first | exact Ev.skip (fun _ => rfl) | exact ev_pick_t rfl (fun _ => rfl) rfl rfl | exact ev_pick_f rfl (fun _ => rfl) rfl rfl
    simp only [nm, seval]
    apply VE.cons
    · first | exact Ev.skip (fun _ => rfl) | exact ev_pick_t rfl (fun _ => rfl) rfl rfl | exact ev_pick_f rfl (fun _ => rfl) rfl rfl
    simp only [nm, seval]
    apply VE.cons
    · first | exact ev_pick_t rfl (gn rfl) rfl rfl | exact ev_pick_f rfl (gn rfl) rfl rfl
    simp only [nm, seval]
    apply VE.cons
    · exact ev_assign rfl (gn rfl)
    simp only [nm, seval]
    exact VE.nil _
  · kernel_rfl
  change VOk _ _ _ _ _
  refine vret ?_
  refine post_ret (res1 Tryd.results4 (rv_tmp rfl)) ?_
  intro ρ w' hr
  exact ⟨rfl, hr.1⟩
theorem joins_c {t t' : Tr} {x00 x01 x02 x10 x11 x12 : Value} {S S' : Nat → Prop} (w : World) (ok0 : t.okL) (ok1 : t'.okL) (hx0 : RN w S t [x00, x01, x02]) (hx1 : RN w S' t' [x10, x11, x12]) (he : decide ((wrT (tm t)).2 ≠ 0) = false) (hf : decide ((wrT (tm t')).2 ≠ 0) = false) (hg : decide ((wrT (two (tm t) (tm t'))).2 ≠ 0) = true) (h2 : decide ((wrT (two (tm t) (tm t'))).2 = 2) = true) (hr : rightT (two (tm t) (tm t')) 1 = false) : Calls Tryd.prog 4 #[.agg #[x00, x01, x02], .agg #[x10, x11, x12]] w fun e w' => e = .returned (.bool true) ∧ Bw w w' := by
  have hk := tm_ok ok0
  have hk' := tm_ok ok1
  have hwt := tm_wt t
  have hwt' := tm_wt t'
  have hwu := two_wt (tm t) (tm t')
  go_enter Tryd.func4, Tryd.ntmps4
  refine ve_go ?_
  simp only [List.map_cons, List.map_nil]
  refine vseq ?_
  apply vrp
  · apply VE.cons
    · exact ev_box rfl rfl (gn rfl) rfl
    simp only [nm, seval]
    apply VE.cons
    · exact ev_box rfl rfl (gn rfl) rfl
    simp only [nm, seval]
    apply VE.cons
    · exact ev_assign rfl (gn rfl)
    simp only [nm, seval]
    exact VE.nil _
  · kernel_rfl
  change VOk _ _ _ _ _
  refine vseq ?_
  apply vrd (by kernel_rfl)
  · apply VE.cons
    · exact ev_loada rfl (gn rfl) rfl rfl Tryd.underlying24 rfl Tryd.sizeOf24 rfl
    simp only [nm, seval]
    apply VE.cons
    · exact ev_calld (D := datR (tm t)) [] rfl rfl (gn rfl) rfl (en_of Tryd.func10 (by kernel_rfl) rfl) (fun ρ S w' hb _ => tame_ok w' ok0 (RN_bw hb hx0))
    simp only [nm, seval]
    apply VE.cons
    · exact ev_loada rfl (gn rfl) rfl rfl Tryd.underlying24 rfl Tryd.sizeOf24 rfl
    simp only [nm, seval]
    apply VE.cons
    · exact ev_calld (D := datR (tm t')) [] rfl rfl (gn rfl) rfl (en_of Tryd.func10 (by kernel_rfl) rfl) (fun ρ S w' hb _ => tame_ok w' ok1 (RN_bw hb hx1))
    simp only [nm, seval]
    apply VE.cons
    · first | exact ev_storeR (vl := [.fn (cellV 0) (.d 13), .fn (cellV 1) (.d 13), .fn (cellV 2) (.d 13)]) [2, 13] rfl (gn rfl) rfl rfl rfl Tryd.sizeOf24 rfl (fun ρ S w' _ hR => by obtain ⟨c, h1, h2⟩ := datR_get (id := 13) hR (by simp) rfl; have hf := fn3 h1 (RN_len h2); exact ⟨hf.1, hf.2 ▸ RN_one h2⟩) rfl (by simp) | exact ev_storeR (vl := [.fn (cellV 0) (.d 15), .fn (cellV 1) (.d 15), .fn (cellV 2) (.d 15)]) [3, 15] rfl (gn rfl) rfl rfl rfl Tryd.sizeOf24 rfl (fun ρ S w' _ hR => by obtain ⟨c, h1, h2⟩ := datR_get (id := 15) hR (by simp) rfl; have hf := fn3 h1 (RN_len h2); exact ⟨hf.1, hf.2 ▸ RN_one h2⟩) rfl (by simp)
    simp only [nm, seval]
    apply VE.cons
    · first | exact ev_storeR (vl := [.fn (cellV 0) (.d 13), .fn (cellV 1) (.d 13), .fn (cellV 2) (.d 13)]) [2, 13] rfl (gn rfl) rfl rfl rfl Tryd.sizeOf24 rfl (fun ρ S w' _ hR => by obtain ⟨c, h1, h2⟩ := datR_get (id := 13) hR (by simp) rfl; have hf := fn3 h1 (RN_len h2); exact ⟨hf.1, hf.2 ▸ RN_one h2⟩) rfl (by simp) | exact ev_storeR (vl := [.fn (cellV 0) (.d 15), .fn (cellV 1) (.d 15), .fn (cellV 2) (.d 15)]) [3, 15] rfl (gn rfl) rfl rfl rfl Tryd.sizeOf24 rfl (fun ρ S w' _ hR => by obtain ⟨c, h1, h2⟩ := datR_get (id := 15) hR (by simp) rfl; have hf := fn3 h1 (RN_len h2); exact ⟨hf.1, hf.2 ▸ RN_one h2⟩) rfl (by simp)
    simp only [nm, seval]
    exact VE.nil _
  · kernel_rfl
  change VOk _ _ _ _ _
  refine vseq ?_
  apply vrp
  · apply VE.cons
    · exact ev_loada rfl (gn rfl) rfl rfl Tryd.underlying24 rfl Tryd.sizeOf24 rfl
    simp only [nm, seval]
    apply VE.cons
    · exact ev_calld (D := datN (tm t)) [13] rfl rfl (gn rfl) rfl (en_of Tryd.func11 (by kernel_rfl) rfl) (fun ρ S w' hb hR => c_to 13 hk hR (by simp) rfl)
    simp only [nm, seval]
    apply VE.cons
    · exact ev_callrowt [18] rfl rfl (gn rfl) rfl (en_of Tryd.func12 (by kernel_rfl) rfl) (n := (wrT (tm t)).1.length) (size := 1) (l := (wrT (tm t)).1.map b8) (y := .int .i64 (wrT (tm t)).2) (by simp) (fun ρ S w' hb hR => c_writeD 18 hk (by omega) hR (by simp) rfl)
    simp only [nm, seval]
    apply VE.cons
    · exact ev_move rfl (gn rfl)
    simp only [nm, seval]
    apply VE.cons
    · first | exact ev_extract rfl (gn rfl) rfl rfl | exact ev_extractt rfl (gn rfl) rfl rfl
    simp only [nm, seval]
    apply VE.cons
    · first | exact ev_extract rfl (gn rfl) rfl rfl | exact ev_extractt rfl (gn rfl) rfl rfl
    simp only [nm, seval]
    apply VE.cons
    · exact ev_assign rfl (gn rfl)
    simp only [nm, seval]
    apply VE.cons
    · exact ev_assign rfl (gn rfl)
    simp only [nm, seval]
    exact VE.nil _
  · kernel_rfl
  change VOk _ _ _ _ _
  refine vseq ?_
  apply vrp
  · apply VE.cons
    · exact ev_loada rfl (gn rfl) rfl rfl Tryd.underlying24 rfl Tryd.sizeOf24 rfl
    simp only [nm, seval]
    apply VE.cons
    · exact ev_calld (D := datN (tm t')) [15] rfl rfl (gn rfl) rfl (en_of Tryd.func11 (by kernel_rfl) rfl) (fun ρ S w' hb hR => c_to 15 hk' hR (by simp) rfl)
    simp only [nm, seval]
    apply VE.cons
    · exact ev_callrowt [24] rfl rfl (gn rfl) rfl (en_of Tryd.func12 (by kernel_rfl) rfl) (n := (wrT (tm t')).1.length) (size := 1) (l := (wrT (tm t')).1.map b8) (y := .int .i64 (wrT (tm t')).2) (by simp) (fun ρ S w' hb hR => c_writeD 24 hk' (by omega) hR (by simp) rfl)
    simp only [nm, seval]
    apply VE.cons
    · exact ev_move rfl (gn rfl)
    simp only [nm, seval]
    apply VE.cons
    · first | exact ev_extract rfl (gn rfl) rfl rfl | exact ev_extractt rfl (gn rfl) rfl rfl
    simp only [nm, seval]
    apply VE.cons
    · first | exact ev_extract rfl (gn rfl) rfl rfl | exact ev_extractt rfl (gn rfl) rfl rfl
    simp only [nm, seval]
    apply VE.cons
    · exact ev_assign rfl (gn rfl)
    simp only [nm, seval]
    apply VE.cons
    · exact ev_assign rfl (gn rfl)
    simp only [nm, seval]
    exact VE.nil _
  · kernel_rfl
  change VOk _ _ _ _ _
  refine vseq ?_
  apply vrd (by kernel_rfl)
  · apply VE.cons
    · exact ev_loada rfl (gn rfl) rfl rfl Tryd.underlying24 rfl Tryd.sizeOf24 rfl
    simp only [nm, seval]
    apply VE.cons
    · exact ev_calld (D := datN (tm t)) [13] rfl rfl (gn rfl) rfl (en_of Tryd.func11 (by kernel_rfl) rfl) (fun ρ S w' hb hR => c_to 13 hk hR (by simp) rfl)
    simp only [nm, seval]
    apply VE.cons
    · exact ev_loada rfl (gn rfl) rfl rfl Tryd.underlying24 rfl Tryd.sizeOf24 rfl
    simp only [nm, seval]
    apply VE.cons
    · exact ev_calld (D := datN (tm t')) [15] rfl rfl (gn rfl) rfl (en_of Tryd.func11 (by kernel_rfl) rfl) (fun ρ S w' hb hR => c_to 15 hk' hR (by simp) rfl)
    simp only [nm, seval]
    apply VE.cons
    · exact ev_buildsl2 (n := 3) (l := [.fn (cellV 0) (.d 30), .fn (cellV 1) (.d 30), .fn (cellV 2) (.d 30)]) (l2 := [.fn (cellV 0) (.d 32), .fn (cellV 1) (.d 32), .fn (cellV 2) (.d 32)]) [30, 32] rfl rfl (gn rfl) rfl rfl (fun ρ S w' hR => by obtain ⟨c1, e1, d1⟩ := datN_get (id := 30) hR (by simp) rfl; obtain ⟨c2, e2, d2⟩ := datN_get (id := 32) hR (by simp) rfl; exact ⟨(fn3 e1 (DN_len d1)).1, (fn3 e2 (DN_len d2)).1⟩) rfl rfl rfl bs29_2
    simp only [nm, seval]
    apply VE.cons
    · exact ev_callrowD (n := 2) (size := 3) (ty := 29) (datNs [tm t, tm t']) (ofV 48) [33, 30, 32] rfl rfl (gn rfl) rfl (en_of Tryd.func17 (by kernel_rfl) rfl) (fun ρ S w' hb hR => of_two (i := 30) (j := 32) (q := 33) hR (by simp) (by simp) (by simp) rfl rfl rfl 48)
    simp only [nm, seval]
    apply VE.cons
    · exact ev_callrowt [34] rfl rfl (gn rfl) rfl (en_of Tryd.func12 (by kernel_rfl) rfl) (n := (wrT (two (tm t) (tm t'))).1.length) (size := 1) (ty := 5) (l := (wrT (two (tm t) (tm t'))).1.map b8) (y := .int .i64 (wrT (two (tm t) (tm t'))).2) (by simp) (fun ρ S w' hb hR => by obtain ⟨S', hd⟩ := node_row (t := 48) (ks := [tm t, tm t']) (id := 34) hR (by simp) rfl; exact Write_ok (t := (two (tm t) (tm t'))) w' (two_ok hk hk') hd (by omega))
    simp only [nm, seval]
    apply VE.cons
    · exact ev_move rfl (gn rfl)
    simp only [nm, seval]
    apply VE.cons
    · first | exact ev_extract rfl (gn rfl) rfl rfl | exact ev_extractt rfl (gn rfl) rfl rfl
    simp only [nm, seval]
    apply VE.cons
    · first | exact ev_extract rfl (gn rfl) rfl rfl | exact ev_extractt rfl (gn rfl) rfl rfl
    simp only [nm, seval]
    apply VE.cons
    · exact ev_assign rfl (gn rfl)
    simp only [nm, seval]
    apply VE.cons
    · exact ev_assign rfl (gn rfl)
    simp only [nm, seval]
    exact VE.nil _
  · kernel_rfl
  change VOk _ _ _ _ _
  refine vseq ?_
  refine vseq ?_
  apply vrp
  · apply VE.cons
    · exact ev_callb rfl (gn rfl) rfl (en_of Tryd.func14 (by kernel_rfl) rfl) (fun w' hb => ders_ok w')
    simp only [nm, seval]
    apply VE.cons
    · exact ev_not rfl (gn rfl) rfl
    simp only [nm, seval]
    apply VE.cons
    · exact ev_move rfl (gn rfl)
    simp only [nm, seval]
    apply VE.cons
    · first | exact Ev.skip (fun _ => rfl) | exact ev_move rfl (fun _ => rfl)
    simp only [nm, seval]
    apply VE.cons
    · first | exact Ev.skip (fun _ => rfl) | exact ev_neq (p := false) rfl (fun _ => rfl) rfl rfl (he)
    simp only [nm, seval]
    apply VE.cons
    · first | exact ev_pick_t rfl (gn rfl) rfl rfl | exact ev_pick_f rfl (gn rfl) rfl rfl
    simp only [nm, seval]
    apply VE.cons
    · exact ev_move rfl (gn rfl)
    simp only [nm, seval]
    apply VE.cons
    · first | exact Ev.skip (fun _ => rfl) | exact ev_move rfl (fun _ => rfl)
    simp only [nm, seval]
    apply VE.cons
    · first | exact Ev.skip (fun _ => rfl) | exact ev_neq (p := false) rfl (fun _ => rfl) rfl rfl (hf)
    simp only [nm, seval]
    apply VE.cons
    · first | exact ev_pick_t rfl (gn rfl) rfl rfl | exact ev_pick_f rfl (gn rfl) rfl rfl
    simp only [nm, seval]
    exact VE.nil _
  · kernel_rfl
  change VOk _ _ _ _ _
  refine vcond_f rfl ?_
  refine vskip ?_
  change VOk _ _ _ _ _
  refine vseq ?_
  refine vseq ?_
  apply vrp
  · apply VE.cons
    · exact ev_move rfl (gn rfl)
    simp only [nm, seval]
    apply VE.cons
    · exact ev_neq (p := true) rfl (gn rfl) rfl rfl (hg)
    simp only [nm, seval]
    exact VE.nil _
  · kernel_rfl
  change VOk _ _ _ _ _
  refine vcond_t rfl ?_
  refine vseq ?_
  apply vrp
  · apply VE.cons
    · exact ev_loada rfl (gn rfl) rfl rfl Tryd.underlying24 rfl Tryd.sizeOf24 rfl
    simp only [nm, seval]
    apply VE.cons
    · exact ev_loada rfl (gn rfl) rfl rfl Tryd.underlying24 rfl Tryd.sizeOf24 rfl
    simp only [nm, seval]
    apply VE.cons
    · exact ev_buildsl2 (n := 3) (l := [.fn (cellV 0) (.d 13), .fn (cellV 1) (.d 13), .fn (cellV 2) (.d 13)]) (l2 := [.fn (cellV 0) (.d 15), .fn (cellV 1) (.d 15), .fn (cellV 2) (.d 15)]) [13, 15] rfl rfl (gn rfl) rfl rfl (fun ρ S w' hR => by obtain ⟨c1, e1, d1⟩ := datR_get (id := 13) hR (by simp) rfl; obtain ⟨c2, e2, d2⟩ := datR_get (id := 15) hR (by simp) rfl; exact ⟨by rw [fn3 e1 (RN_len d1) |>.2, ← fn3 e1 (RN_len d1) |>.2]; exact agg_cells _, agg_cells _⟩) rfl rfl rfl bs24_2
    simp only [nm, seval]
    apply VE.cons
    · exact ev_build02s rfl (gn rfl) rfl rfl (fun p m q => built24k 48 p m q)
    simp only [nm, seval]
    apply VE.cons
    · exact ev_callp (v := .bool false) [65, 13, 15] rfl (gn rfl) rfl (en_of Tryd.func18 (by kernel_rfl) rfl) (fun ρ S w' hb hR => by have := c_right2 (i := 13) (j := 15) (q := 65) hk hk' hR (by simp) (by simp) (by simp) rfl rfl rfl; rw [hr] at this; exact this)
    simp only [nm, seval]
    apply VE.cons
    · exact ev_not rfl (gn rfl) rfl
    simp only [nm, seval]
    apply VE.cons
    · exact ev_move rfl (gn rfl)
    simp only [nm, seval]
    apply VE.cons
    · first | exact Ev.skip (fun _ => rfl) | exact ev_move rfl (fun _ => rfl)
    simp only [nm, seval]
    apply VE.cons
    · first | exact Ev.skip (fun _ => rfl) | exact ev_eql (p := true) rfl (fun _ => rfl) rfl rfl (h2)
    simp only [nm, seval]
    apply VE.cons
    · first | exact ev_pick_t rfl (gn rfl) rfl rfl | exact ev_pick_f rfl (gn rfl) rfl rfl
    simp only [nm, seval]
    apply VE.cons
    · exact ev_move rfl (gn rfl)
    simp only [nm, seval]
    apply VE.cons
    · first | exact Ev.skip (fun _ => rfl) | exact ev_move rfl (fun _ => rfl)
    simp only [nm, seval]
    apply VE.cons
    · first | exact Ev.skip (fun _ => rfl) | refine ev_pure' (fun _ => rfl) (fun ρ w => by simp only [VS.act, SV.c, List.map_cons, List.map_nil]; go_simp; exact rfl) (fun _ _ => rfl)
    simp only [nm, seval]
    apply VE.cons
    · first | exact Ev.skip (fun _ => rfl) | exact ev_move rfl (fun _ => rfl)
    simp only [nm, seval]
    apply VE.cons
    · first | exact Ev.skip (fun _ => rfl) | refine ev_pure' (fun _ => rfl) (fun ρ w => by simp only [VS.act, SV.c, List.map_cons, List.map_nil]; go_simp; exact rfl) (fun _ _ => rfl)
    simp only [nm, seval]
    apply VE.cons
    · first | exact Ev.skip (fun _ => rfl) | refine ev_pure' (fun _ => rfl) (fun ρ w => by simp only [VS.act, SV.c, List.map_cons, List.map_nil]; go_simp; exact rfl) (fun _ _ => rfl)
    simp only [nm, seval]
    apply VE.cons
    · first | exact Ev.skip (fun _ => rfl) | refine ev_pure' (fun _ => rfl) (fun ρ w => by simp only [VS.act, SV.c, List.map_cons, List.map_nil]; go_simp; exact rfl) (fun _ _ => rfl)
    simp only [nm, seval]
    apply VE.cons
    · first | exact Ev.skip (fun _ => rfl) | exact ev_move rfl (fun _ => rfl)
    simp only [nm, seval]
    apply VE.cons
    · first | exact Ev.skip (fun _ => rfl) | exact ev_move rfl (fun _ => rfl)
    simp only [nm, seval]
    apply VE.cons
    · first | exact Ev.skip (fun _ => rfl) | refine ev_pure' (fun _ => rfl) (fun ρ w => by simp only [VS.act, SV.c, List.map_cons, List.map_nil]; go_simp; exact rfl) (fun _ _ => rfl)
    simp only [nm, seval]
    apply VE.cons
    · first | exact Ev.skip (fun _ => rfl) | exact ev_pick_t rfl (fun _ => rfl) rfl rfl | exact ev_pick_f rfl (fun _ => rfl) rfl rfl
    simp only [nm, seval]
    apply VE.cons
    · first | exact ev_pick_t rfl (gn rfl) rfl rfl | exact ev_pick_f rfl (gn rfl) rfl rfl
    simp only [nm, seval]
    apply VE.cons
    · exact ev_assign rfl (gn rfl)
    simp only [nm, seval]
    exact VE.nil _
  · kernel_rfl
  change VOk _ _ _ _ _
  refine vret ?_
  refine post_ret (res1 Tryd.results4 (rv_tmp rfl)) ?_
  intro ρ w' hr
  exact ⟨rfl, hr.1⟩
theorem joins_d {t t' : Tr} {x00 x01 x02 x10 x11 x12 : Value} {S S' : Nat → Prop} (w : World) (ok0 : t.okL) (ok1 : t'.okL) (hx0 : RN w S t [x00, x01, x02]) (hx1 : RN w S' t' [x10, x11, x12]) (he : decide ((wrT (tm t)).2 ≠ 0) = false) (hf : decide ((wrT (tm t')).2 ≠ 0) = false) (hg : decide ((wrT (two (tm t) (tm t'))).2 ≠ 0) = true) (h4 : decide ((wrT (two (tm t) (tm t'))).2 = 4) = true) (hr : rightT (two (tm t) (tm t')) 1 = true) (hn : (wrT (tm t)).1.length + (wrT (tm t')).1.length > 2040) : Calls Tryd.prog 4 #[.agg #[x00, x01, x02], .agg #[x10, x11, x12]] w fun e w' => e = .returned (.bool true) ∧ Bw w w' := by
  have hk := tm_ok ok0
  have hk' := tm_ok ok1
  have hwt := tm_wt t
  have hwt' := tm_wt t'
  have hwu := two_wt (tm t) (tm t')
  have hl1 := wrT_len (tm t)
  have hl2 := wrT_len (tm t')
  go_enter Tryd.func4, Tryd.ntmps4
  refine ve_go ?_
  simp only [List.map_cons, List.map_nil]
  refine vseq ?_
  apply vrp
  · apply VE.cons
    · exact ev_box rfl rfl (gn rfl) rfl
    simp only [nm, seval]
    apply VE.cons
    · exact ev_box rfl rfl (gn rfl) rfl
    simp only [nm, seval]
    apply VE.cons
    · exact ev_assign rfl (gn rfl)
    simp only [nm, seval]
    exact VE.nil _
  · kernel_rfl
  change VOk _ _ _ _ _
  refine vseq ?_
  apply vrd (by kernel_rfl)
  · apply VE.cons
    · exact ev_loada rfl (gn rfl) rfl rfl Tryd.underlying24 rfl Tryd.sizeOf24 rfl
    simp only [nm, seval]
    apply VE.cons
    · exact ev_calld (D := datR (tm t)) [] rfl rfl (gn rfl) rfl (en_of Tryd.func10 (by kernel_rfl) rfl) (fun ρ S w' hb _ => tame_ok w' ok0 (RN_bw hb hx0))
    simp only [nm, seval]
    apply VE.cons
    · exact ev_loada rfl (gn rfl) rfl rfl Tryd.underlying24 rfl Tryd.sizeOf24 rfl
    simp only [nm, seval]
    apply VE.cons
    · exact ev_calld (D := datR (tm t')) [] rfl rfl (gn rfl) rfl (en_of Tryd.func10 (by kernel_rfl) rfl) (fun ρ S w' hb _ => tame_ok w' ok1 (RN_bw hb hx1))
    simp only [nm, seval]
    apply VE.cons
    · first | exact ev_storeR (vl := [.fn (cellV 0) (.d 13), .fn (cellV 1) (.d 13), .fn (cellV 2) (.d 13)]) [2, 13] rfl (gn rfl) rfl rfl rfl Tryd.sizeOf24 rfl (fun ρ S w' _ hR => by obtain ⟨c, h1, h2⟩ := datR_get (id := 13) hR (by simp) rfl; have hf := fn3 h1 (RN_len h2); exact ⟨hf.1, hf.2 ▸ RN_one h2⟩) rfl (by simp) | exact ev_storeR (vl := [.fn (cellV 0) (.d 15), .fn (cellV 1) (.d 15), .fn (cellV 2) (.d 15)]) [3, 15] rfl (gn rfl) rfl rfl rfl Tryd.sizeOf24 rfl (fun ρ S w' _ hR => by obtain ⟨c, h1, h2⟩ := datR_get (id := 15) hR (by simp) rfl; have hf := fn3 h1 (RN_len h2); exact ⟨hf.1, hf.2 ▸ RN_one h2⟩) rfl (by simp)
    simp only [nm, seval]
    apply VE.cons
    · first | exact ev_storeR (vl := [.fn (cellV 0) (.d 13), .fn (cellV 1) (.d 13), .fn (cellV 2) (.d 13)]) [2, 13] rfl (gn rfl) rfl rfl rfl Tryd.sizeOf24 rfl (fun ρ S w' _ hR => by obtain ⟨c, h1, h2⟩ := datR_get (id := 13) hR (by simp) rfl; have hf := fn3 h1 (RN_len h2); exact ⟨hf.1, hf.2 ▸ RN_one h2⟩) rfl (by simp) | exact ev_storeR (vl := [.fn (cellV 0) (.d 15), .fn (cellV 1) (.d 15), .fn (cellV 2) (.d 15)]) [3, 15] rfl (gn rfl) rfl rfl rfl Tryd.sizeOf24 rfl (fun ρ S w' _ hR => by obtain ⟨c, h1, h2⟩ := datR_get (id := 15) hR (by simp) rfl; have hf := fn3 h1 (RN_len h2); exact ⟨hf.1, hf.2 ▸ RN_one h2⟩) rfl (by simp)
    simp only [nm, seval]
    exact VE.nil _
  · kernel_rfl
  change VOk _ _ _ _ _
  refine vseq ?_
  apply vrp
  · apply VE.cons
    · exact ev_loada rfl (gn rfl) rfl rfl Tryd.underlying24 rfl Tryd.sizeOf24 rfl
    simp only [nm, seval]
    apply VE.cons
    · exact ev_calld (D := datN (tm t)) [13] rfl rfl (gn rfl) rfl (en_of Tryd.func11 (by kernel_rfl) rfl) (fun ρ S w' hb hR => c_to 13 hk hR (by simp) rfl)
    simp only [nm, seval]
    apply VE.cons
    · exact ev_callrowt [18] rfl rfl (gn rfl) rfl (en_of Tryd.func12 (by kernel_rfl) rfl) (n := (wrT (tm t)).1.length) (size := 1) (l := (wrT (tm t)).1.map b8) (y := .int .i64 (wrT (tm t)).2) (by simp) (fun ρ S w' hb hR => c_writeD 18 hk (by omega) hR (by simp) rfl)
    simp only [nm, seval]
    apply VE.cons
    · exact ev_move rfl (gn rfl)
    simp only [nm, seval]
    apply VE.cons
    · first | exact ev_extract rfl (gn rfl) rfl rfl | exact ev_extractt rfl (gn rfl) rfl rfl
    simp only [nm, seval]
    apply VE.cons
    · first | exact ev_extract rfl (gn rfl) rfl rfl | exact ev_extractt rfl (gn rfl) rfl rfl
    simp only [nm, seval]
    apply VE.cons
    · exact ev_assign rfl (gn rfl)
    simp only [nm, seval]
    apply VE.cons
    · exact ev_assign rfl (gn rfl)
    simp only [nm, seval]
    exact VE.nil _
  · kernel_rfl
  change VOk _ _ _ _ _
  refine vseq ?_
  apply vrp
  · apply VE.cons
    · exact ev_loada rfl (gn rfl) rfl rfl Tryd.underlying24 rfl Tryd.sizeOf24 rfl
    simp only [nm, seval]
    apply VE.cons
    · exact ev_calld (D := datN (tm t')) [15] rfl rfl (gn rfl) rfl (en_of Tryd.func11 (by kernel_rfl) rfl) (fun ρ S w' hb hR => c_to 15 hk' hR (by simp) rfl)
    simp only [nm, seval]
    apply VE.cons
    · exact ev_callrowt [24] rfl rfl (gn rfl) rfl (en_of Tryd.func12 (by kernel_rfl) rfl) (n := (wrT (tm t')).1.length) (size := 1) (l := (wrT (tm t')).1.map b8) (y := .int .i64 (wrT (tm t')).2) (by simp) (fun ρ S w' hb hR => c_writeD 24 hk' (by omega) hR (by simp) rfl)
    simp only [nm, seval]
    apply VE.cons
    · exact ev_move rfl (gn rfl)
    simp only [nm, seval]
    apply VE.cons
    · first | exact ev_extract rfl (gn rfl) rfl rfl | exact ev_extractt rfl (gn rfl) rfl rfl
    simp only [nm, seval]
    apply VE.cons
    · first | exact ev_extract rfl (gn rfl) rfl rfl | exact ev_extractt rfl (gn rfl) rfl rfl
    simp only [nm, seval]
    apply VE.cons
    · exact ev_assign rfl (gn rfl)
    simp only [nm, seval]
    apply VE.cons
    · exact ev_assign rfl (gn rfl)
    simp only [nm, seval]
    exact VE.nil _
  · kernel_rfl
  change VOk _ _ _ _ _
  refine vseq ?_
  apply vrd (by kernel_rfl)
  · apply VE.cons
    · exact ev_loada rfl (gn rfl) rfl rfl Tryd.underlying24 rfl Tryd.sizeOf24 rfl
    simp only [nm, seval]
    apply VE.cons
    · exact ev_calld (D := datN (tm t)) [13] rfl rfl (gn rfl) rfl (en_of Tryd.func11 (by kernel_rfl) rfl) (fun ρ S w' hb hR => c_to 13 hk hR (by simp) rfl)
    simp only [nm, seval]
    apply VE.cons
    · exact ev_loada rfl (gn rfl) rfl rfl Tryd.underlying24 rfl Tryd.sizeOf24 rfl
    simp only [nm, seval]
    apply VE.cons
    · exact ev_calld (D := datN (tm t')) [15] rfl rfl (gn rfl) rfl (en_of Tryd.func11 (by kernel_rfl) rfl) (fun ρ S w' hb hR => c_to 15 hk' hR (by simp) rfl)
    simp only [nm, seval]
    apply VE.cons
    · exact ev_buildsl2 (n := 3) (l := [.fn (cellV 0) (.d 30), .fn (cellV 1) (.d 30), .fn (cellV 2) (.d 30)]) (l2 := [.fn (cellV 0) (.d 32), .fn (cellV 1) (.d 32), .fn (cellV 2) (.d 32)]) [30, 32] rfl rfl (gn rfl) rfl rfl (fun ρ S w' hR => by obtain ⟨c1, e1, d1⟩ := datN_get (id := 30) hR (by simp) rfl; obtain ⟨c2, e2, d2⟩ := datN_get (id := 32) hR (by simp) rfl; exact ⟨(fn3 e1 (DN_len d1)).1, (fn3 e2 (DN_len d2)).1⟩) rfl rfl rfl bs29_2
    simp only [nm, seval]
    apply VE.cons
    · exact ev_callrowD (n := 2) (size := 3) (ty := 29) (datNs [tm t, tm t']) (ofV 48) [33, 30, 32] rfl rfl (gn rfl) rfl (en_of Tryd.func17 (by kernel_rfl) rfl) (fun ρ S w' hb hR => of_two (i := 30) (j := 32) (q := 33) hR (by simp) (by simp) (by simp) rfl rfl rfl 48)
    simp only [nm, seval]
    apply VE.cons
    · exact ev_callrowt [34] rfl rfl (gn rfl) rfl (en_of Tryd.func12 (by kernel_rfl) rfl) (n := (wrT (two (tm t) (tm t'))).1.length) (size := 1) (ty := 5) (l := (wrT (two (tm t) (tm t'))).1.map b8) (y := .int .i64 (wrT (two (tm t) (tm t'))).2) (by simp) (fun ρ S w' hb hR => by obtain ⟨S', hd⟩ := node_row (t := 48) (ks := [tm t, tm t']) (id := 34) hR (by simp) rfl; exact Write_ok (t := (two (tm t) (tm t'))) w' (two_ok hk hk') hd (by omega))
    simp only [nm, seval]
    apply VE.cons
    · exact ev_move rfl (gn rfl)
    simp only [nm, seval]
    apply VE.cons
    · first | exact ev_extract rfl (gn rfl) rfl rfl | exact ev_extractt rfl (gn rfl) rfl rfl
    simp only [nm, seval]
    apply VE.cons
    · first | exact ev_extract rfl (gn rfl) rfl rfl | exact ev_extractt rfl (gn rfl) rfl rfl
    simp only [nm, seval]
    apply VE.cons
    · exact ev_assign rfl (gn rfl)
    simp only [nm, seval]
    apply VE.cons
    · exact ev_assign rfl (gn rfl)
    simp only [nm, seval]
    exact VE.nil _
  · kernel_rfl
  change VOk _ _ _ _ _
  refine vseq ?_
  refine vseq ?_
  apply vrp
  · apply VE.cons
    · exact ev_callb rfl (gn rfl) rfl (en_of Tryd.func14 (by kernel_rfl) rfl) (fun w' hb => ders_ok w')
    simp only [nm, seval]
    apply VE.cons
    · exact ev_not rfl (gn rfl) rfl
    simp only [nm, seval]
    apply VE.cons
    · exact ev_move rfl (gn rfl)
    simp only [nm, seval]
    apply VE.cons
    · first | exact Ev.skip (fun _ => rfl) | exact ev_move rfl (fun _ => rfl)
    simp only [nm, seval]
    apply VE.cons
    · first | exact Ev.skip (fun _ => rfl) | exact ev_neq (p := false) rfl (fun _ => rfl) rfl rfl (he)
    simp only [nm, seval]
    apply VE.cons
    · first | exact ev_pick_t rfl (gn rfl) rfl rfl | exact ev_pick_f rfl (gn rfl) rfl rfl
    simp only [nm, seval]
    apply VE.cons
    · exact ev_move rfl (gn rfl)
    simp only [nm, seval]
    apply VE.cons
    · first | exact Ev.skip (fun _ => rfl) | exact ev_move rfl (fun _ => rfl)
    simp only [nm, seval]
    apply VE.cons
    · first | exact Ev.skip (fun _ => rfl) | exact ev_neq (p := false) rfl (fun _ => rfl) rfl rfl (hf)
    simp only [nm, seval]
    apply VE.cons
    · first | exact ev_pick_t rfl (gn rfl) rfl rfl | exact ev_pick_f rfl (gn rfl) rfl rfl
    simp only [nm, seval]
    exact VE.nil _
  · kernel_rfl
  change VOk _ _ _ _ _
  refine vcond_f rfl ?_
  refine vskip ?_
  change VOk _ _ _ _ _
  refine vseq ?_
  refine vseq ?_
  apply vrp
  · apply VE.cons
    · exact ev_move rfl (gn rfl)
    simp only [nm, seval]
    apply VE.cons
    · exact ev_neq (p := true) rfl (gn rfl) rfl rfl (hg)
    simp only [nm, seval]
    exact VE.nil _
  · kernel_rfl
  change VOk _ _ _ _ _
  refine vcond_t rfl ?_
  refine vseq ?_
  apply vrp
  · apply VE.cons
    · exact ev_loada rfl (gn rfl) rfl rfl Tryd.underlying24 rfl Tryd.sizeOf24 rfl
    simp only [nm, seval]
    apply VE.cons
    · exact ev_loada rfl (gn rfl) rfl rfl Tryd.underlying24 rfl Tryd.sizeOf24 rfl
    simp only [nm, seval]
    apply VE.cons
    · exact ev_buildsl2 (n := 3) (l := [.fn (cellV 0) (.d 13), .fn (cellV 1) (.d 13), .fn (cellV 2) (.d 13)]) (l2 := [.fn (cellV 0) (.d 15), .fn (cellV 1) (.d 15), .fn (cellV 2) (.d 15)]) [13, 15] rfl rfl (gn rfl) rfl rfl (fun ρ S w' hR => by obtain ⟨c1, e1, d1⟩ := datR_get (id := 13) hR (by simp) rfl; obtain ⟨c2, e2, d2⟩ := datR_get (id := 15) hR (by simp) rfl; exact ⟨by rw [fn3 e1 (RN_len d1) |>.2, ← fn3 e1 (RN_len d1) |>.2]; exact agg_cells _, agg_cells _⟩) rfl rfl rfl bs24_2
    simp only [nm, seval]
    apply VE.cons
    · exact ev_build02s rfl (gn rfl) rfl rfl (fun p m q => built24k 48 p m q)
    simp only [nm, seval]
    apply VE.cons
    · exact ev_callp (v := .bool true) [65, 13, 15] rfl (gn rfl) rfl (en_of Tryd.func18 (by kernel_rfl) rfl) (fun ρ S w' hb hR => by have := c_right2 (i := 13) (j := 15) (q := 65) hk hk' hR (by simp) (by simp) (by simp) rfl rfl rfl; rw [hr] at this; exact this)
    simp only [nm, seval]
    apply VE.cons
    · exact ev_not rfl (gn rfl) rfl
    simp only [nm, seval]
    apply VE.cons
    · exact ev_move rfl (gn rfl)
    simp only [nm, seval]
    apply VE.cons
    · first | exact Ev.skip (fun _ => rfl) | exact ev_move rfl (fun _ => rfl)
    simp only [nm, seval]
    apply VE.cons
    · first | exact Ev.skip (fun _ => rfl) | refine ev_pure' (fun _ => rfl) (fun ρ w => by simp only [VS.act, SV.c, List.map_cons, List.map_nil]; go_simp; exact rfl) (fun _ _ => rfl)
    simp only [nm, seval]
    apply VE.cons
    · first | exact ev_pick_t rfl (gn rfl) rfl rfl | exact ev_pick_f rfl (gn rfl) rfl rfl
    simp only [nm, seval]
    apply VE.cons
    · exact ev_move rfl (gn rfl)
    simp only [nm, seval]
    apply VE.cons
    · first | exact Ev.skip (fun _ => rfl) | exact ev_move rfl (fun _ => rfl)
    simp only [nm, seval]
    apply VE.cons
    · first | exact Ev.skip (fun _ => rfl) | exact ev_len rfl (fun _ => rfl) rfl Tryd.underlying26 (rdg_row rfl)
    simp only [nm, seval]
    apply VE.cons
    · first | exact Ev.skip (fun _ => rfl) | exact ev_move rfl (fun _ => rfl)
    simp only [nm, seval]
    apply VE.cons
    · first | exact Ev.skip (fun _ => rfl) | exact ev_len rfl (fun _ => rfl) rfl Tryd.underlying26 (rdg_row rfl)
    simp only [nm, seval]
    apply VE.cons
    · first | exact Ev.skip (fun _ => rfl) | exact ev_add (c := (((wrT (tm t)).1.length + (wrT (tm t')).1.length : Nat) : Int)) rfl (fun _ => rfl) rfl rfl (by rw [i64w (by omega) (by omega)]; omega)
    simp only [nm, seval]
    apply VE.cons
    · first | exact Ev.skip (fun _ => rfl) | exact ev_gtr (p := true) rfl (fun _ => rfl) rfl rfl (decide_eq_true (by omega))
    simp only [nm, seval]
    apply VE.cons
    · first | exact Ev.skip (fun _ => rfl) | exact ev_move rfl (fun _ => rfl)
    simp only [nm, seval]
    apply VE.cons
    · first | exact Ev.skip (fun _ => rfl) | exact ev_move rfl (fun _ => rfl)
    simp only [nm, seval]
    apply VE.cons
    · first | exact Ev.skip (fun _ => rfl) | exact ev_eql (p := true) rfl (fun _ => rfl) rfl rfl (h4)
    simp only [nm, seval]
    apply VE.cons
    · first | exact Ev.skip (fun _ => rfl) | exact ev_pick_t rfl (fun _ => rfl) rfl rfl | exact ev_pick_f rfl (fun _ => rfl) rfl rfl
    simp only [nm, seval]
    apply VE.cons
    · first | exact ev_pick_t rfl (gn rfl) rfl rfl | exact ev_pick_f rfl (gn rfl) rfl rfl
    simp only [nm, seval]
    apply VE.cons
    · exact ev_assign rfl (gn rfl)
    simp only [nm, seval]
    exact VE.nil _
  · kernel_rfl
  change VOk _ _ _ _ _
  refine vret ?_
  refine post_ret (res1 Tryd.results4 (rv_tmp rfl)) ?_
  intro ρ w' hr
  exact ⟨rfl, hr.1⟩
theorem joins_e {t t' : Tr} {x00 x01 x02 x10 x11 x12 : Value} {S S' : Nat → Prop} (w : World) (ok0 : t.okL) (ok1 : t'.okL) (hx0 : RN w S t [x00, x01, x02]) (hx1 : RN w S' t' [x10, x11, x12]) (he : decide ((wrT (tm t)).2 ≠ 0) = false) (hf : decide ((wrT (tm t')).2 ≠ 0) = false) (hg : decide ((wrT (two (tm t) (tm t'))).2 ≠ 0) = false) (c : List Nat) (hz : (wrT (two (tm t) (tm t'))).1 = 48 :: c ++ ((wrT (tm t)).1 ++ (wrT (tm t')).1)) : Calls Tryd.prog 4 #[.agg #[x00, x01, x02], .agg #[x10, x11, x12]] w fun e w' => e = .returned (.bool true) ∧ Bw w w' := by
  have hk := tm_ok ok0
  have hk' := tm_ok ok1
  have hwt := tm_wt t
  have hwt' := tm_wt t'
  have hwu := two_wt (tm t) (tm t')
  have hl1 := wrT_len (tm t)
  have hl2 := wrT_len (tm t')
  have hln : (wrT (two (tm t) (tm t'))).1.length = c.length + 1 + ((wrT (tm t)).1.length + (wrT (tm t')).1.length) := by rw [hz]; simp only [List.length_append, List.length_cons]
  have hlu := wrT_len (two (tm t) (tm t'))
  have hlt : ∀ x ∈ ((wrT (tm t)).1 ++ (wrT (tm t')).1), x < 256 := fun x hx => (List.mem_append.1 hx).elim (wrT_lt hk x) (wrT_lt hk' x)
  go_enter Tryd.func4, Tryd.ntmps4
  refine ve_go ?_
  simp only [List.map_cons, List.map_nil]
  refine vseq ?_
  apply vrp
  · apply VE.cons
    · exact ev_box rfl rfl (gn rfl) rfl
    simp only [nm, seval]
    apply VE.cons
    · exact ev_box rfl rfl (gn rfl) rfl
    simp only [nm, seval]
    apply VE.cons
    · exact ev_assign rfl (gn rfl)
    simp only [nm, seval]
    exact VE.nil _
  · kernel_rfl
  change VOk _ _ _ _ _
  refine vseq ?_
  apply vrd (by kernel_rfl)
  · apply VE.cons
    · exact ev_loada rfl (gn rfl) rfl rfl Tryd.underlying24 rfl Tryd.sizeOf24 rfl
    simp only [nm, seval]
    apply VE.cons
    · exact ev_calld (D := datR (tm t)) [] rfl rfl (gn rfl) rfl (en_of Tryd.func10 (by kernel_rfl) rfl) (fun ρ S w' hb _ => tame_ok w' ok0 (RN_bw hb hx0))
    simp only [nm, seval]
    apply VE.cons
    · exact ev_loada rfl (gn rfl) rfl rfl Tryd.underlying24 rfl Tryd.sizeOf24 rfl
    simp only [nm, seval]
    apply VE.cons
    · exact ev_calld (D := datR (tm t')) [] rfl rfl (gn rfl) rfl (en_of Tryd.func10 (by kernel_rfl) rfl) (fun ρ S w' hb _ => tame_ok w' ok1 (RN_bw hb hx1))
    simp only [nm, seval]
    apply VE.cons
    · first | exact ev_storeR (vl := [.fn (cellV 0) (.d 13), .fn (cellV 1) (.d 13), .fn (cellV 2) (.d 13)]) [2, 13] rfl (gn rfl) rfl rfl rfl Tryd.sizeOf24 rfl (fun ρ S w' _ hR => by obtain ⟨c, h1, h2⟩ := datR_get (id := 13) hR (by simp) rfl; have hf := fn3 h1 (RN_len h2); exact ⟨hf.1, hf.2 ▸ RN_one h2⟩) rfl (by simp) | exact ev_storeR (vl := [.fn (cellV 0) (.d 15), .fn (cellV 1) (.d 15), .fn (cellV 2) (.d 15)]) [3, 15] rfl (gn rfl) rfl rfl rfl Tryd.sizeOf24 rfl (fun ρ S w' _ hR => by obtain ⟨c, h1, h2⟩ := datR_get (id := 15) hR (by simp) rfl; have hf := fn3 h1 (RN_len h2); exact ⟨hf.1, hf.2 ▸ RN_one h2⟩) rfl (by simp)
    simp only [nm, seval]
    apply VE.cons
    · first | exact ev_storeR (vl := [.fn (cellV 0) (.d 13), .fn (cellV 1) (.d 13), .fn (cellV 2) (.d 13)]) [2, 13] rfl (gn rfl) rfl rfl rfl Tryd.sizeOf24 rfl (fun ρ S w' _ hR => by obtain ⟨c, h1, h2⟩ := datR_get (id := 13) hR (by simp) rfl; have hf := fn3 h1 (RN_len h2); exact ⟨hf.1, hf.2 ▸ RN_one h2⟩) rfl (by simp) | exact ev_storeR (vl := [.fn (cellV 0) (.d 15), .fn (cellV 1) (.d 15), .fn (cellV 2) (.d 15)]) [3, 15] rfl (gn rfl) rfl rfl rfl Tryd.sizeOf24 rfl (fun ρ S w' _ hR => by obtain ⟨c, h1, h2⟩ := datR_get (id := 15) hR (by simp) rfl; have hf := fn3 h1 (RN_len h2); exact ⟨hf.1, hf.2 ▸ RN_one h2⟩) rfl (by simp)
    simp only [nm, seval]
    exact VE.nil _
  · kernel_rfl
  change VOk _ _ _ _ _
  refine vseq ?_
  apply vrp
  · apply VE.cons
    · exact ev_loada rfl (gn rfl) rfl rfl Tryd.underlying24 rfl Tryd.sizeOf24 rfl
    simp only [nm, seval]
    apply VE.cons
    · exact ev_calld (D := datN (tm t)) [13] rfl rfl (gn rfl) rfl (en_of Tryd.func11 (by kernel_rfl) rfl) (fun ρ S w' hb hR => c_to 13 hk hR (by simp) rfl)
    simp only [nm, seval]
    apply VE.cons
    · exact ev_callrowt [18] rfl rfl (gn rfl) rfl (en_of Tryd.func12 (by kernel_rfl) rfl) (n := (wrT (tm t)).1.length) (size := 1) (l := (wrT (tm t)).1.map b8) (y := .int .i64 (wrT (tm t)).2) (by simp) (fun ρ S w' hb hR => c_writeD 18 hk (by omega) hR (by simp) rfl)
    simp only [nm, seval]
    apply VE.cons
    · exact ev_move rfl (gn rfl)
    simp only [nm, seval]
    apply VE.cons
    · first | exact ev_extract rfl (gn rfl) rfl rfl | exact ev_extractt rfl (gn rfl) rfl rfl
    simp only [nm, seval]
    apply VE.cons
    · first | exact ev_extract rfl (gn rfl) rfl rfl | exact ev_extractt rfl (gn rfl) rfl rfl
    simp only [nm, seval]
    apply VE.cons
    · exact ev_assign rfl (gn rfl)
    simp only [nm, seval]
    apply VE.cons
    · exact ev_assign rfl (gn rfl)
    simp only [nm, seval]
    exact VE.nil _
  · kernel_rfl
  change VOk _ _ _ _ _
  refine vseq ?_
  apply vrp
  · apply VE.cons
    · exact ev_loada rfl (gn rfl) rfl rfl Tryd.underlying24 rfl Tryd.sizeOf24 rfl
    simp only [nm, seval]
    apply VE.cons
    · exact ev_calld (D := datN (tm t')) [15] rfl rfl (gn rfl) rfl (en_of Tryd.func11 (by kernel_rfl) rfl) (fun ρ S w' hb hR => c_to 15 hk' hR (by simp) rfl)
    simp only [nm, seval]
    apply VE.cons
    · exact ev_callrowt [24] rfl rfl (gn rfl) rfl (en_of Tryd.func12 (by kernel_rfl) rfl) (n := (wrT (tm t')).1.length) (size := 1) (l := (wrT (tm t')).1.map b8) (y := .int .i64 (wrT (tm t')).2) (by simp) (fun ρ S w' hb hR => c_writeD 24 hk' (by omega) hR (by simp) rfl)
    simp only [nm, seval]
    apply VE.cons
    · exact ev_move rfl (gn rfl)
    simp only [nm, seval]
    apply VE.cons
    · first | exact ev_extract rfl (gn rfl) rfl rfl | exact ev_extractt rfl (gn rfl) rfl rfl
    simp only [nm, seval]
    apply VE.cons
    · first | exact ev_extract rfl (gn rfl) rfl rfl | exact ev_extractt rfl (gn rfl) rfl rfl
    simp only [nm, seval]
    apply VE.cons
    · exact ev_assign rfl (gn rfl)
    simp only [nm, seval]
    apply VE.cons
    · exact ev_assign rfl (gn rfl)
    simp only [nm, seval]
    exact VE.nil _
  · kernel_rfl
  change VOk _ _ _ _ _
  refine vseq ?_
  apply vrd (by kernel_rfl)
  · apply VE.cons
    · exact ev_loada rfl (gn rfl) rfl rfl Tryd.underlying24 rfl Tryd.sizeOf24 rfl
    simp only [nm, seval]
    apply VE.cons
    · exact ev_calld (D := datN (tm t)) [13] rfl rfl (gn rfl) rfl (en_of Tryd.func11 (by kernel_rfl) rfl) (fun ρ S w' hb hR => c_to 13 hk hR (by simp) rfl)
    simp only [nm, seval]
    apply VE.cons
    · exact ev_loada rfl (gn rfl) rfl rfl Tryd.underlying24 rfl Tryd.sizeOf24 rfl
    simp only [nm, seval]
    apply VE.cons
    · exact ev_calld (D := datN (tm t')) [15] rfl rfl (gn rfl) rfl (en_of Tryd.func11 (by kernel_rfl) rfl) (fun ρ S w' hb hR => c_to 15 hk' hR (by simp) rfl)
    simp only [nm, seval]
    apply VE.cons
    · exact ev_buildsl2 (n := 3) (l := [.fn (cellV 0) (.d 30), .fn (cellV 1) (.d 30), .fn (cellV 2) (.d 30)]) (l2 := [.fn (cellV 0) (.d 32), .fn (cellV 1) (.d 32), .fn (cellV 2) (.d 32)]) [30, 32] rfl rfl (gn rfl) rfl rfl (fun ρ S w' hR => by obtain ⟨c1, e1, d1⟩ := datN_get (id := 30) hR (by simp) rfl; obtain ⟨c2, e2, d2⟩ := datN_get (id := 32) hR (by simp) rfl; exact ⟨(fn3 e1 (DN_len d1)).1, (fn3 e2 (DN_len d2)).1⟩) rfl rfl rfl bs29_2
    simp only [nm, seval]
    apply VE.cons
    · exact ev_callrowD (n := 2) (size := 3) (ty := 29) (datNs [tm t, tm t']) (ofV 48) [33, 30, 32] rfl rfl (gn rfl) rfl (en_of Tryd.func17 (by kernel_rfl) rfl) (fun ρ S w' hb hR => of_two (i := 30) (j := 32) (q := 33) hR (by simp) (by simp) (by simp) rfl rfl rfl 48)
    simp only [nm, seval]
    apply VE.cons
    · exact ev_callrowt [34] rfl rfl (gn rfl) rfl (en_of Tryd.func12 (by kernel_rfl) rfl) (n := (wrT (two (tm t) (tm t'))).1.length) (size := 1) (ty := 5) (l := (wrT (two (tm t) (tm t'))).1.map b8) (y := .int .i64 (wrT (two (tm t) (tm t'))).2) (by simp) (fun ρ S w' hb hR => by obtain ⟨S', hd⟩ := node_row (t := 48) (ks := [tm t, tm t']) (id := 34) hR (by simp) rfl; exact Write_ok (t := (two (tm t) (tm t'))) w' (two_ok hk hk') hd (by omega))
    simp only [nm, seval]
    apply VE.cons
    · exact ev_move rfl (gn rfl)
    simp only [nm, seval]
    apply VE.cons
    · first | exact ev_extract rfl (gn rfl) rfl rfl | exact ev_extractt rfl (gn rfl) rfl rfl
    simp only [nm, seval]
    apply VE.cons
    · first | exact ev_extract rfl (gn rfl) rfl rfl | exact ev_extractt rfl (gn rfl) rfl rfl
    simp only [nm, seval]
    apply VE.cons
    · exact ev_assign rfl (gn rfl)
    simp only [nm, seval]
    apply VE.cons
    · exact ev_assign rfl (gn rfl)
    simp only [nm, seval]
    exact VE.nil _
  · kernel_rfl
  change VOk _ _ _ _ _
  refine vseq ?_
  refine vseq ?_
  apply vrp
  · apply VE.cons
    · exact ev_callb rfl (gn rfl) rfl (en_of Tryd.func14 (by kernel_rfl) rfl) (fun w' hb => ders_ok w')
    simp only [nm, seval]
    apply VE.cons
    · exact ev_not rfl (gn rfl) rfl
    simp only [nm, seval]
    apply VE.cons
    · exact ev_move rfl (gn rfl)
    simp only [nm, seval]
    apply VE.cons
    · first | exact Ev.skip (fun _ => rfl) | exact ev_move rfl (fun _ => rfl)
    simp only [nm, seval]
    apply VE.cons
    · first | exact Ev.skip (fun _ => rfl) | exact ev_neq (p := false) rfl (fun _ => rfl) rfl rfl (he)
    simp only [nm, seval]
    apply VE.cons
    · first | exact ev_pick_t rfl (gn rfl) rfl rfl | exact ev_pick_f rfl (gn rfl) rfl rfl
    simp only [nm, seval]
    apply VE.cons
    · exact ev_move rfl (gn rfl)
    simp only [nm, seval]
    apply VE.cons
    · first | exact Ev.skip (fun _ => rfl) | exact ev_move rfl (fun _ => rfl)
    simp only [nm, seval]
    apply VE.cons
    · first | exact Ev.skip (fun _ => rfl) | exact ev_neq (p := false) rfl (fun _ => rfl) rfl rfl (hf)
    simp only [nm, seval]
    apply VE.cons
    · first | exact ev_pick_t rfl (gn rfl) rfl rfl | exact ev_pick_f rfl (gn rfl) rfl rfl
    simp only [nm, seval]
    exact VE.nil _
  · kernel_rfl
  change VOk _ _ _ _ _
  refine vcond_f rfl ?_
  refine vskip ?_
  change VOk _ _ _ _ _
  refine vseq ?_
  refine vseq ?_
  apply vrp
  · apply VE.cons
    · exact ev_move rfl (gn rfl)
    simp only [nm, seval]
    apply VE.cons
    · exact ev_neq (p := false) rfl (gn rfl) rfl rfl (hg)
    simp only [nm, seval]
    exact VE.nil _
  · kernel_rfl
  change VOk _ _ _ _ _
  refine vcond_f rfl ?_
  refine vskip ?_
  change VOk _ _ _ _ _
  refine vseq ?_
  apply vrp
  · apply VE.cons
    · exact ev_move rfl (gn rfl)
    simp only [nm, seval]
    apply VE.cons
    · exact ev_len rfl (gn rfl) rfl Tryd.underlying26 (rdg_row rfl)
    simp only [nm, seval]
    apply VE.cons
    · exact ev_move rfl (gn rfl)
    simp only [nm, seval]
    apply VE.cons
    · exact ev_len rfl (gn rfl) rfl Tryd.underlying26 (rdg_row rfl)
    simp only [nm, seval]
    apply VE.cons
    · exact ev_add (c := (((wrT (tm t)).1.length + (wrT (tm t')).1.length : Nat) : Int)) rfl (gn rfl) rfl rfl (by rw [i64w (by omega) (by omega)]; omega)
    simp only [nm, seval]
    apply VE.cons
    · exact ev_assign rfl (gn rfl)
    simp only [nm, seval]
    exact VE.nil _
  · kernel_rfl
  change VOk _ _ _ _ _
  refine vseq ?_
  apply vrd (by kernel_rfl)
  · apply VE.cons
    · exact ev_move rfl (gn rfl)
    simp only [nm, seval]
    apply VE.cons
    · exact ev_len rfl (gn rfl) rfl Tryd.underlying26 (rdg_row rfl)
    simp only [nm, seval]
    apply VE.cons
    · exact ev_move rfl (gn rfl)
    simp only [nm, seval]
    apply VE.cons
    · exact ev_gtr (p := true) rfl (gn rfl) rfl rfl (decide_eq_true (by omega))
    simp only [nm, seval]
    apply VE.cons
    · exact ev_move rfl (gn rfl)
    simp only [nm, seval]
    apply VE.cons
    · first | exact Ev.skip (fun _ => rfl) | exact ev_move rfl (fun _ => rfl)
    simp only [nm, seval]
    apply VE.cons
    · first | exact Ev.skip (fun _ => rfl) | exact ev_move rfl (fun _ => rfl)
    simp only [nm, seval]
    apply VE.cons
    · first | exact Ev.skip (fun _ => rfl) | exact ev_len rfl (fun _ => rfl) rfl Tryd.underlying26 (rdg_row rfl)
    simp only [nm, seval]
    apply VE.cons
    · first | exact Ev.skip (fun _ => rfl) | exact ev_move rfl (fun _ => rfl)
    simp only [nm, seval]
    apply VE.cons
    · first | exact Ev.skip (fun _ => rfl) | exact ev_sub (c := ((c.length + 1 : Nat) : Int)) rfl (fun _ => rfl) rfl rfl (by rw [i64w (by omega) (by omega)]; omega)
    simp only [nm, seval]
    apply VE.cons
    · first | exact Ev.skip (fun _ => rfl) | exact ev_cut (a := c.length + 1) (b := (wrT (two (tm t) (tm t'))).1.length) (size := 1) rfl (fun _ => rfl) rfl Tryd.underlying26 Tryd.sizeOf5 (rdg_row rfl) rfl rfl (by omega) (by omega)
    simp only [nm, seval]
    apply VE.cons
    · first | exact Ev.skip (fun _ => rfl) | exact ev_convb (bs := ((wrT (tm t)).1 ++ (wrT (tm t')).1)) rfl (fun _ => rfl) rfl Tryd.underlying26 Tryd.underlying5 Tryd.underlying9 (rdg_sub (rdg_row rfl) (by omega) (by omega) (tail_of hz) rfl)
    simp only [nm, seval]
    apply VE.cons
    · first | exact Ev.skip (fun _ => rfl) | exact ev_move rfl (fun _ => rfl)
    simp only [nm, seval]
    apply VE.cons
    · first | exact Ev.skip (fun _ => rfl) | exact ev_convb (bs := (wrT (tm t)).1) rfl (fun _ => rfl) rfl Tryd.underlying26 Tryd.underlying5 Tryd.underlying9 (rdg_row rfl)
    simp only [nm, seval]
    apply VE.cons
    · first | exact Ev.skip (fun _ => rfl) | exact ev_move rfl (fun _ => rfl)
    simp only [nm, seval]
    apply VE.cons
    · first | exact Ev.skip (fun _ => rfl) | exact ev_convb (bs := (wrT (tm t')).1) rfl (fun _ => rfl) rfl Tryd.underlying26 Tryd.underlying5 Tryd.underlying9 (rdg_row rfl)
    simp only [nm, seval]
    apply VE.cons
    · first | exact Ev.skip (fun _ => rfl) | exact ev_bin (c := .string (bstr ((wrT (tm t)).1 ++ (wrT (tm t')).1))) rfl (fun _ => rfl) rfl rfl (fun w => str_add _ _ (by omega) _ _ w)
    simp only [nm, seval]
    apply VE.cons
    · first | exact Ev.skip (fun _ => rfl) | exact ev_bin (c := .bool true) rfl (fun _ => rfl) rfl rfl (fun w => str_is (decide_eq_true rfl) hlt hlt _ _ w)
    simp only [nm, seval]
    apply VE.cons
    · first | exact ev_pick_t rfl (gn rfl) rfl rfl | exact ev_pick_f rfl (gn rfl) rfl rfl
    simp only [nm, seval]
    apply VE.cons
    · exact ev_move rfl (gn rfl)
    simp only [nm, seval]
    apply VE.cons
    · first | exact Ev.skip (fun _ => rfl) | exact ev_move rfl (fun _ => rfl)
    simp only [nm, seval]
    apply VE.cons
    · first | exact Ev.skip (fun _ => rfl) | exact ev_idx (k := 0) rfl (fun _ => rfl) rfl rfl Tryd.underlying26 Tryd.sizeOf5 (rdg_row rfl) (by omega) (by decide)
    simp only [nm, seval]
    apply VE.cons
    · first | exact Ev.skip (fun _ => rfl) | exact ev_loadi rfl (fun _ => rfl) rfl Tryd.underlying5 rfl (rdg_row rfl) (by rw [hz]; rfl)
    simp only [nm, seval]
    apply VE.cons
    · first | exact Ev.skip (fun _ => rfl) | exact ev_eql (p := true) rfl (fun _ => rfl) rfl rfl (by decide)
    simp only [nm, seval]
    apply VE.cons
    · first | exact ev_pick_t rfl (gn rfl) rfl rfl | exact ev_pick_f rfl (gn rfl) rfl rfl
    simp only [nm, seval]
    apply VE.cons
    · exact ev_assign rfl (gn rfl)
    simp only [nm, seval]
    exact VE.nil _
  · kernel_rfl
  change VOk _ _ _ _ _
  refine vret ?_
  refine post_ret (res1 Tryd.results4 (rv_tmp rfl)) ?_
  intro ρ w' hr
  exact ⟨rfl, hr.1⟩
theorem joins_law {t t' : Tr} {x00 x01 x02 x10 x11 x12 : Value} {S S' : Nat → Prop} (w : World) (ok0 : t.okL) (ok1 : t'.okL) (hx0 : RN w S t [x00, x01, x02]) (hx1 : RN w S' t' [x10, x11, x12])  : Calls Tryd.prog 4 #[.agg #[x00, x01, x02], .agg #[x10, x11, x12]] w fun e w' => e = .returned (.bool true) ∧ Bw w w' := by
  by_cases he : (wrT (tm t)).2 ≠ 0
  · exact joins_a w ok0 ok1 hx0 hx1 (decide_eq_true he) (decide_eq_true (j_bad (.inl he)))
  by_cases hf : (wrT (tm t')).2 ≠ 0
  · exact joins_b w ok0 ok1 hx0 hx1 (decide_eq_false he) (decide_eq_true hf) (decide_eq_true (j_bad (.inr hf)))
  rcases j_two (Decidable.not_not.1 he) (Decidable.not_not.1 hf) with ⟨h, c, hz⟩ | ⟨h, hr⟩ | ⟨h, hr, hn⟩
  · exact joins_e w ok0 ok1 hx0 hx1 (decide_eq_false he) (decide_eq_false hf) (decide_eq_false (by rw [h]; decide)) c hz
  · exact joins_c w ok0 ok1 hx0 hx1 (decide_eq_false he) (decide_eq_false hf) (decide_eq_true (by rw [h]; decide)) (decide_eq_true h) hr
  · exact joins_d w ok0 ok1 hx0 hx1 (decide_eq_false he) (decide_eq_false hf) (decide_eq_true (by rw [h]; decide)) (decide_eq_true h) hr hn
end Go.Proofs.YtmgmiiongleaeaaDoor
