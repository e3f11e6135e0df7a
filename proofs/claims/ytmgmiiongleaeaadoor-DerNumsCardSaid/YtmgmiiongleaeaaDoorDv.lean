import Derived.Test.YtmgmiiongleaeaaDoorDu
namespace Go.Proofs.YtmgmiiongleaeaaDoor
open Go.RowKit Go.Vx
open Go.Toll (Gw)
set_option maxHeartbeats 4000000
set_option maxRecDepth 100000
theorem neqB (a b : Bool) (p q : Operand) (w : World) : (do eqGuard .neq 4 p q (.bool a) (.bool b); binOp .neq 4 (.bool a) (.bool b) : Sem Value).run Tryd.prog w = .ok (.bool (a != b)) w := by
  go_simp
  cases a <;> cases b <;> rfl
def tagT : Tr → Int
  | .mk t _ _ => t
theorem rn_parts {w : World} {S : Nat → Prop} {t : Tr} {c : List Value} (h : RN w S t c) : ∃ kv, c = [.int .i64 (tagT t), .string (bstr (bodyOfT t)), kv] := by
  cases t with
  | mk tg b ks =>
    simp only [RN] at h
    obtain ⟨kv, cs, rfl, _⟩ := h
    exact ⟨kv, rfl⟩
/-- a load of one cell of an own block, whose value is known. -/
theorem ev_load1v {P : Program} {w0 : World} {ops : Array Oper} {o : Oper} {s : VS} {ty : TypeId} {x : Operand} {id off : Nat} {l : List SV} {bt : TypeId} {d : TypeDesc} {y : SV} {v : Value} {rd : List Nat} (ho : o.op = .load ty x) (hgd : Want ops o s) (hx : svEval s x = .p id off) (hm : s.mem id = some (.cells l bt))
    (hu : P.underlying ty = some d) (hd : isAggD d = false) (hy : l[off]? = some y) (hv : ∀ ρ S w', RelOn w0.heap.size ρ S w' (restr (id :: rd) s.mem) → y.c ρ = v) : Ev P ops w0 o s ⟨.v v, [], [], [], id :: rd⟩ :=
  Ev.run _ _ hgd fun ρ S w hb hR => by
    have h1 := svEval_c s ρ x
    rw [hx] at h1
    have hc := cell_own (relon_get hR hm (by simp)).2 hy
    simp [execOp, ho, h1, SV.c, Instr.loadAt, Instr.sureAddr, loadVar, run_isAgg hu, hd, hc, hv ρ S w hR]
theorem cell_tag {ρ : Nat → Nm} {id : Nat} {c : List Value} {w : World} {S : Nat → Prop} {t : Tr} (h1 : (ρ id).val = .agg c.toArray) (h2 : RN w S t c) : SV.c ρ (.fn (cellV 0) (.d id)) = .int .i64 (tagT t) := by
  obtain ⟨kv, rfl⟩ := rn_parts h2
  simp [SV.c, h1, cellV, Value.cells]
theorem cell_body {ρ : Nat → Nm} {id : Nat} {c : List Value} {w : World} {S : Nat → Prop} {t : Tr} (h1 : (ρ id).val = .agg c.toArray) (h2 : RN w S t c) : SV.c ρ (.fn (cellV 1) (.d id)) = .string (bstr (bodyOfT t)) := by
  obtain ⟨kv, rfl⟩ := rn_parts h2
  simp [SV.c, h1, cellV, Value.cells]
theorem c_toNum {w : World} {base : Nat} {ρ : Nat → Nm} {S : Nat → Nat → Prop} {m : Mem} {rd : List Nat} (id : Nat) {t : Tr} (hok : t.ok) (hR : RelOn base ρ S w (restr rd m)) (hid : id ∈ rd) (hm : m id = some (.dat (datN t))) :
    Calls Tryd.prog 19 (SV.cs ρ [.d id]).toArray w fun e w' => e = .returned (.tuple #[.int .i64 (tnN t).1, .int .i64 (tnN t).2]) ∧ Bw w w' := by
  obtain ⟨c, h1, h2⟩ := datN_get hR hid hm
  simp only [SV.cs, SV.c, h1]
  exact toNum_ok w hok h2
theorem c_toBig {w : World} {base : Nat} {ρ : Nat → Nm} {S : Nat → Nat → Prop} {m : Mem} {rd : List Nat} (id : Nat) {t : Tr} (hok : t.ok) (hR : RelOn base ρ S w (restr rd m)) (hid : id ∈ rd) (hm : m id = some (.dat (datN t))) :
    Calls Tryd.prog 20 (SV.cs ρ [.d id]).toArray w fun e w' => e = .returned (.tuple #[.agg ((tbN t).1.map b8).toArray, .int .i64 (tbN t).2]) ∧ Bw w w' := by
  obtain ⟨c, h1, h2⟩ := datN_get hR hid hm
  simp only [SV.cs, SV.c, h1]
  exact toBig_ok w hok h2
theorem c_toWord {w : World} {base : Nat} {ρ : Nat → Nm} {S : Nat → Nat → Prop} {m : Mem} {rd : List Nat} (id : Nat) {t : Tr} (hok : t.ok) (hR : RelOn base ρ S w (restr rd m)) (hid : id ∈ rd) (hm : m id = some (.dat (datN t))) :
    Calls Tryd.prog 21 (SV.cs ρ [.d id]).toArray w fun e w' => e = .returned (.tuple #[.string (bstr (twN t).1), .int .i64 (twN t).2]) ∧ Bw w w' := by
  obtain ⟨c, h1, h2⟩ := datN_get hR hid hm
  simp only [SV.cs, SV.c, h1]
  exact toWord_ok w hok h2
theorem c_rToNum {w : World} {base : Nat} {ρ : Nat → Nm} {S : Nat → Nat → Prop} {m : Mem} {rd : List Nat} (id sz : Nat) (hsz : sz ≤ 64) {t : Tr} (hok : t.ok) (hR : RelOn base ρ S w (restr rd m)) (hid : id ∈ rd) (hm : m id = some (.dat (datR t))) :
    Calls Tryd.prog 22 (SV.cs ρ [.agg [.fn (cellV 0) (.d id), .fn (cellV 1) (.d id), .fn (cellV 2) (.d id)], .v (.int .i64 (sz : Nat))]).toArray w fun e w' => e = .returned (.tuple #[.string (bstr ((valT t sz).getD [])), .bool (valT t sz).isSome]) ∧ Bw w w' := by
  obtain ⟨c, h1, h2⟩ := aggR hR hid hm
  simp only [SV.cs, h1]
  exact rToNum_ok w hok h2 hsz
theorem c_rright {w : World} {base : Nat} {ρ : Nat → Nm} {S : Nat → Nat → Prop} {m : Mem} {rd : List Nat} (id : Nat) {t : Tr} (hok : t.ok) (hR : RelOn base ρ S w (restr rd m)) (hid : id ∈ rd) (hm : m id = some (.dat (datR t))) :
    Calls Tryd.prog 18 (SV.cs ρ [.agg [.fn (cellV 0) (.d id), .fn (cellV 1) (.d id), .fn (cellV 2) (.d id)], .v (.int .i64 1)]).toArray w fun e w' => e = .returned (.bool (rightT t 1)) ∧ Bw w w' := by
  obtain ⟨c, h1, h2⟩ := aggR hR hid hm
  simp only [SV.cs, h1]
  exact rright_all t hok 1 c w _ (by decide) h2
theorem list8 {l : List Nat} (h : l.length = 8) : ∃ a b c d e f g i, l = [a, b, c, d, e, f, g, i] := by
  match l, h with
  | [a, b, c, d, e, f, g, i], _ => exact ⟨a, b, c, d, e, f, g, i, rfl⟩
theorem numL_beN {l : List Nat} (h8 : ∀ x ∈ l, x < 256) (h : l.length = 8) : numL (beN l) = l := by
  obtain ⟨a, b, c, d, e, f, g, i, rfl⟩ := list8 h
  have ha := h8 a (by simp)
  have hb' := h8 b (by simp)
  have hc := h8 c (by simp)
  have hd := h8 d (by simp)
  have he := h8 e (by simp)
  have hf := h8 f (by simp)
  have hg := h8 g (by simp)
  have hi := h8 i (by simp)
  simp only [numL, n8, hb, beN, List.foldl_cons, List.foldl_nil, List.cons.injEq, and_true]
  omega
theorem beN_head {l : List Nat} (h8 : ∀ x ∈ l, x < 256) (h : l.length = 8) : decide (l.headD 0 ≥ 64) = !decide (beN l < 4611686018427387904) := by
  obtain ⟨a, b, c, d, e, f, g, i, rfl⟩ := list8 h
  have ha := h8 a (by simp)
  have hb' := h8 b (by simp)
  have hc := h8 c (by simp)
  have hd := h8 d (by simp)
  have he := h8 e (by simp)
  have hf := h8 f (by simp)
  have hg := h8 g (by simp)
  have hi := h8 i (by simp)
  rw [← decide_not]
  simp only [beN, List.foldl_cons, List.foldl_nil, List.headD_cons]
  exact decide_eq_decide.2 (by omega)
theorem derTo_nn {t : Tr} {x0 x1 x2 : Value} {S : Nat → Prop} (w : World) (hok0 : t.okL) (hx : RN w S t [x0, x1, x2]) (hX : tnN (tm t) = (0, 2)) (hA : valT (tm t) 8 = none) (hY : tbN (tm t) = (z32, 2)) (hB : valT (tm t) 32 = none) : Calls Tryd.prog 5 #[.agg #[x0, x1, x2]] w fun e w' => e = .returned (.bool true) ∧ Bw w w' := by
  have hok := tm_ok hok0
  have hbs : (∀ x ∈ bodyOfT (tm t), x < 256) ∧ (bodyOfT (tm t)).length ≤ 1048576 := by
    cases h : tm t with
    | mk tg b ks => rw [h] at hok; simp only [Tr.ok] at hok; exact ⟨hok.1, hok.2.1⟩
  have htw : wordT (tm t) = (decide (tagT (tm t) = 12) && (rightT (tm t) 1 && decide ((bodyOfT (tm t)).length ≤ 64))) := by cases tm t; rfl
  obtain ⟨q1, h_q1⟩ : ∃ p, decide (tagT (tm t) = 12) = p := ⟨_, rfl⟩
  obtain ⟨q2, h_q2⟩ : ∃ p, rightT (tm t) 1 = p := ⟨_, rfl⟩
  obtain ⟨q3, h_q3⟩ : ∃ p, decide ((bodyOfT (tm t)).length ≤ 64) = p := ⟨_, rfl⟩
  have h_q3' : decide (((bodyOfT (tm t)).length : Int) ≤ ((64 : Nat) : Int)) = q3 := by rw [← h_q3]; exact decide_eq_decide.2 (by omega)
  rw [h_q1, h_q2, h_q3] at htw
  obtain ⟨W, hW⟩ : ∃ W, twN (tm t) = W := ⟨_, rfl⟩
  have hW2 : W = bif (q1 && (q2 && q3)) then (bodyOfT (tm t), 0) else ([], 2) := by rw [← hW, ← htw]; rfl
  go_enter Tryd.func5, Tryd.ntmps5
  refine ve_go ?_
  simp only [List.map_cons, List.map_nil]
  refine vseq ?_
  apply vrp
  · apply VE.cons
    · exact ev_box rfl rfl (gn rfl) rfl
    simp only [nm, seval]
    apply VE.cons
    · exact ev_assign rfl (gn rfl)
    simp only [nm, seval]
    exact VE.nil _
  · kernel_rfl
  change VOk _ _ _ _ _
  refine vseq ?_
  apply vrp
  · apply VE.cons
    · exact ev_loada rfl (gn rfl) rfl rfl Tryd.underlying24 rfl Tryd.sizeOf24 rfl
    simp only [nm, seval]
    apply VE.cons
    · exact ev_calld (D := datR (tm t)) [] rfl rfl (gn rfl) rfl (en_of Tryd.func10 (by kernel_rfl) rfl) (fun ρ S w' hb _ => tame_ok w' hok0 (RN_bw hb hx))
    simp only [nm, seval]
    apply VE.cons
    · exact ev_storeR (vl := [.fn (cellV 0) (.d 14), .fn (cellV 1) (.d 14), .fn (cellV 2) (.d 14)]) [1, 14] rfl (gn rfl) rfl rfl rfl Tryd.sizeOf24 rfl (fun ρ S w' _ hR => by obtain ⟨c, h1, h2⟩ := datR_get (id := 14) hR (by simp) rfl; have hf := fn3 h1 (RN_len h2); exact ⟨hf.1, hf.2 ▸ RN_one h2⟩) rfl (by simp)
    simp only [nm, seval]
    exact VE.nil _
  · kernel_rfl
  change VOk _ _ _ _ _
  refine vseq ?_
  apply vrp
  · apply VE.cons
    · exact ev_loada rfl (gn rfl) rfl rfl Tryd.underlying24 rfl Tryd.sizeOf24 rfl
    simp only [nm, seval]
    apply VE.cons
    · exact ev_calld (D := datN (tm t)) [14] rfl rfl (gn rfl) rfl (en_of Tryd.func11 (by kernel_rfl) rfl) (fun ρ S w' hb hR => c_to 14 hok hR (by simp) rfl)
    simp only [nm, seval]
    apply VE.cons
    · exact ev_callp (v := .tuple #[.int .i64 0, .int .i64 2]) [17] rfl (gn rfl) rfl (en_of Tryd.func19 (by kernel_rfl) rfl) (fun ρ S w' hb hR => by have := c_toNum 17 hok hR (by simp) rfl; rw [hX] at this; exact this)
    simp only [nm, seval]
    apply VE.cons
    · exact ev_move rfl (gn rfl)
    simp only [nm, seval]
    apply VE.cons
    · first | exact ev_extract rfl (gn rfl) rfl rfl | exact ev_extractt rfl (gn rfl) rfl rfl
    simp only [nm, seval]
    apply VE.cons
    · first | exact ev_extract rfl (gn rfl) rfl rfl | exact ev_extractt rfl (gn rfl) rfl rfl
    simp only [nm, seval]
    apply VE.cons
    · exact ev_assign rfl (gn rfl)
    simp only [nm, seval]
    apply VE.cons
    · exact ev_assign rfl (gn rfl)
    simp only [nm, seval]
    exact VE.nil _
  · kernel_rfl
  change VOk _ _ _ _ _
  refine vseq ?_
  apply vrp
  · apply VE.cons
    · exact ev_loada rfl (gn rfl) rfl rfl Tryd.underlying24 rfl Tryd.sizeOf24 rfl
    simp only [nm, seval]
    apply VE.cons
    · exact ev_calld (D := datN (tm t)) [14] rfl rfl (gn rfl) rfl (en_of Tryd.func11 (by kernel_rfl) rfl) (fun ρ S w' hb hR => c_to 14 hok hR (by simp) rfl)
    simp only [nm, seval]
    apply VE.cons
    · exact ev_callp (v := .tuple #[.agg ((z32).map b8).toArray, .int .i64 2]) [23] rfl (gn rfl) rfl (en_of Tryd.func20 (by kernel_rfl) rfl) (fun ρ S w' hb hR => by have := c_toBig 23 hok hR (by simp) rfl; rw [hY] at this; exact this)
    simp only [nm, seval]
    apply VE.cons
    · exact ev_move rfl (gn rfl)
    simp only [nm, seval]
    apply VE.cons
    · first | exact ev_extract rfl (gn rfl) rfl rfl | exact ev_extractt rfl (gn rfl) rfl rfl
    simp only [nm, seval]
    apply VE.cons
    · first | exact ev_extract rfl (gn rfl) rfl rfl | exact ev_extractt rfl (gn rfl) rfl rfl
    simp only [nm, seval]
    apply VE.cons
    · exact ev_allocr (l := z32.map b8) rfl rfl (gn rfl) Tryd.zeroValue44 rfl
    simp only [nm, seval]
    apply VE.cons
    · exact ev_storer (l' := (z32).map b8) rfl (gn rfl) rfl rfl rfl Tryd.sizeOf44 (by simp [Value.cells, z32_len]) (by simp [z32_len]) (by show ((z32).map b8).toArray.toList.all _ = true; exact b8_all _) (by simp [Value.cells, z32_len])
    simp only [nm, seval]
    apply VE.cons
    · exact ev_assign rfl (gn rfl)
    simp only [nm, seval]
    exact VE.nil _
  · kernel_rfl
  change VOk _ _ _ _ _
  refine vseq ?_
  apply vrp
  · apply VE.cons
    · exact ev_loada rfl (gn rfl) rfl rfl Tryd.underlying24 rfl Tryd.sizeOf24 rfl
    simp only [nm, seval]
    apply VE.cons
    · exact ev_calld (D := datN (tm t)) [14] rfl rfl (gn rfl) rfl (en_of Tryd.func11 (by kernel_rfl) rfl) (fun ρ S w' hb hR => c_to 14 hok hR (by simp) rfl)
    simp only [nm, seval]
    apply VE.cons
    · exact ev_callp (v := .tuple #[.string (bstr W.1), .int .i64 W.2]) [29] rfl (gn rfl) rfl (en_of Tryd.func21 (by kernel_rfl) rfl) (fun ρ S w' hb hR => by have := c_toWord 29 hok hR (by simp) rfl; rw [hW] at this; exact this)
    simp only [nm, seval]
    apply VE.cons
    · exact ev_move rfl (gn rfl)
    simp only [nm, seval]
    apply VE.cons
    · first | exact ev_extract rfl (gn rfl) rfl rfl | exact ev_extractt rfl (gn rfl) rfl rfl
    simp only [nm, seval]
    apply VE.cons
    · first | exact ev_extract rfl (gn rfl) rfl rfl | exact ev_extractt rfl (gn rfl) rfl rfl
    simp only [nm, seval]
    apply VE.cons
    · exact ev_assign rfl (gn rfl)
    simp only [nm, seval]
    apply VE.cons
    · exact ev_assign rfl (gn rfl)
    simp only [nm, seval]
    exact VE.nil _
  · kernel_rfl
  change VOk _ _ _ _ _
  refine vseq ?_
  apply vrp
  · apply VE.cons
    · exact ev_loada rfl (gn rfl) rfl rfl Tryd.underlying24 rfl Tryd.sizeOf24 rfl
    simp only [nm, seval]
    apply VE.cons
    · exact ev_callp (v := .tuple #[.string (bstr []), .bool false]) [14] rfl (gn rfl) rfl (en_of Tryd.func22 (by kernel_rfl) rfl) (fun ρ S w' hb hR => by have := c_rToNum 14 8 (by decide) hok hR (by simp) rfl; rw [hA] at this; exact this)
    simp only [nm, seval]
    apply VE.cons
    · exact ev_move rfl (gn rfl)
    simp only [nm, seval]
    apply VE.cons
    · first | exact ev_extract rfl (gn rfl) rfl rfl | exact ev_extractt rfl (gn rfl) rfl rfl
    simp only [nm, seval]
    apply VE.cons
    · first | exact ev_extract rfl (gn rfl) rfl rfl | exact ev_extractt rfl (gn rfl) rfl rfl
    simp only [nm, seval]
    apply VE.cons
    · exact ev_assign rfl (gn rfl)
    simp only [nm, seval]
    apply VE.cons
    · exact ev_assign rfl (gn rfl)
    simp only [nm, seval]
    exact VE.nil _
  · kernel_rfl
  change VOk _ _ _ _ _
  refine vseq ?_
  refine vseq ?_
  apply vrp
  · apply VE.cons
    · exact ev_move rfl (gn rfl)
    simp only [nm, seval]
    apply VE.cons
    · exact ev_move rfl (gn rfl)
    simp only [nm, seval]
    apply VE.cons
    · first | exact Ev.skip (fun _ => rfl) | exact ev_move rfl (fun _ => rfl)
    simp only [nm, seval]
    apply VE.cons
    · first | exact Ev.skip (fun _ => rfl) | exact ev_idxb (k := 0) rfl (fun _ => rfl) rfl rfl Tryd.underlying9 (hl0) (hl08)
    simp only [nm, seval]
    apply VE.cons
    · first | exact Ev.skip (fun _ => rfl) | exact ev_geq5 rfl (fun _ => rfl) rfl rfl hh6
    simp only [nm, seval]
    apply VE.cons
    · first | exact ev_pick_t rfl (gn rfl) rfl rfl | exact ev_pick_f rfl (gn rfl) rfl rfl
    simp only [nm, seval]
    exact VE.nil _
  · kernel_rfl
  change VOk _ _ _ _ _
  refine vcond_f rfl ?_
  refine vskip ?_
  change VOk _ _ _ _ _
  refine vseq ?_
  apply vrp
  · apply VE.cons
    · exact ev_loada rfl (gn rfl) rfl rfl Tryd.underlying24 rfl Tryd.sizeOf24 rfl
    simp only [nm, seval]
    apply VE.cons
    · exact ev_callp (v := .tuple #[.string (bstr []), .bool false]) [14] rfl (gn rfl) rfl (en_of Tryd.func22 (by kernel_rfl) rfl) (fun ρ S w' hb hR => by have := c_rToNum 14 32 (by decide) hok hR (by simp) rfl; rw [hB] at this; exact this)
    simp only [nm, seval]
    apply VE.cons
    · exact ev_move rfl (gn rfl)
    simp only [nm, seval]
    apply VE.cons
    · first | exact ev_extract rfl (gn rfl) rfl rfl | exact ev_extractt rfl (gn rfl) rfl rfl
    simp only [nm, seval]
    apply VE.cons
    · first | exact ev_extract rfl (gn rfl) rfl rfl | exact ev_extractt rfl (gn rfl) rfl rfl
    simp only [nm, seval]
    apply VE.cons
    · exact ev_assign rfl (gn rfl)
    simp only [nm, seval]
    apply VE.cons
    · exact ev_assign rfl (gn rfl)
    simp only [nm, seval]
    exact VE.nil _
  · kernel_rfl
  change VOk _ _ _ _ _
  refine vseq ?_
  refine vseq ?_
  apply vrp
  · apply VE.cons
    · exact ev_callb rfl (gn rfl) rfl (en_of Tryd.func14 (by kernel_rfl) rfl) (fun w' hb => ders_ok w')
    simp only [nm, seval]
    apply VE.cons
    · exact ev_not rfl (gn rfl) rfl
    simp only [nm, seval]
    apply VE.cons
    · exact ev_move rfl (gn rfl)
    simp only [nm, seval]
    apply VE.cons
    · first | exact Ev.skip (fun _ => rfl) | exact ev_move rfl (fun _ => rfl)
    simp only [nm, seval]
    apply VE.cons
    · first | exact Ev.skip (fun _ => rfl) | exact ev_eql (p := false) rfl (fun _ => rfl) rfl rfl (by decide)
    simp only [nm, seval]
    apply VE.cons
    · first | exact Ev.skip (fun _ => rfl) | exact ev_move rfl (fun _ => rfl)
    simp only [nm, seval]
    apply VE.cons
    · first | exact Ev.skip (fun _ => rfl) | exact ev_bin (c := .bool false) rfl (fun _ => rfl) rfl rfl (fun w => neqB _ _ _ _ w)
    simp only [nm, seval]
    apply VE.cons
    · first | exact ev_pick_t rfl (gn rfl) rfl rfl | exact ev_pick_f rfl (gn rfl) rfl rfl
    simp only [nm, seval]
    apply VE.cons
    · exact ev_move rfl (gn rfl)
    simp only [nm, seval]
    apply VE.cons
    · first | exact Ev.skip (fun _ => rfl) | exact ev_move rfl (fun _ => rfl)
    simp only [nm, seval]
    apply VE.cons
    · first | exact Ev.skip (fun _ => rfl) | exact ev_eql (p := false) rfl (fun _ => rfl) rfl rfl (by decide)
    simp only [nm, seval]
    apply VE.cons
    · first | exact Ev.skip (fun _ => rfl) | exact ev_move rfl (fun _ => rfl)
    simp only [nm, seval]
    apply VE.cons
    · first | exact Ev.skip (fun _ => rfl) | exact ev_bin (c := .bool false) rfl (fun _ => rfl) rfl rfl (fun w => neqB _ _ _ _ w)
    simp only [nm, seval]
    apply VE.cons
    · first | exact ev_pick_t rfl (gn rfl) rfl rfl | exact ev_pick_f rfl (gn rfl) rfl rfl
    simp only [nm, seval]
    apply VE.cons
    · exact ev_move rfl (gn rfl)
    simp only [nm, seval]
    apply VE.cons
    · first | exact Ev.skip (fun _ => rfl) | exact ev_move rfl (fun _ => rfl)
    simp only [nm, seval]
    apply VE.cons
    · first | exact Ev.skip (fun _ => rfl) | exact ev_move rfl (fun _ => rfl)
    simp only [nm, seval]
    apply VE.cons
    · first | exact Ev.skip (fun _ => rfl) | exact ev_move rfl (fun _ => rfl)
    simp only [nm, seval]
    apply VE.cons
    · first | exact Ev.skip (fun _ => rfl) | exact ev_callb rfl (fun _ => rfl) rfl (en_of Tryd.func23 (by kernel_rfl) rfl) (fun w' hb => Eight_ok (beN l) (by omega) w')
    simp only [nm, seval]
    apply VE.cons
    · first | exact Ev.skip (fun _ => rfl) | exact ev_move rfl (fun _ => rfl)
    simp only [nm, seval]
    apply VE.cons
    · first | exact Ev.skip (fun _ => rfl) | exact ev_bin (c := .bool false) rfl (fun _ => rfl) rfl rfl (fun w => str_ne (decide_eq_false (fun h => h hnl)) hn8 hl8 _ _ w)
    simp only [nm, seval]
    apply VE.cons
    · first | exact Ev.skip (fun _ => rfl) | exact ev_pick_t rfl (fun _ => rfl) rfl rfl | exact ev_pick_f rfl (fun _ => rfl) rfl rfl
    simp only [nm, seval]
    apply VE.cons
    · first | exact ev_pick_t rfl (gn rfl) rfl rfl | exact ev_pick_f rfl (gn rfl) rfl rfl
    simp only [nm, seval]
    apply VE.cons
    · exact ev_move rfl (gn rfl)
    simp only [nm, seval]
    apply VE.cons
    · first | exact Ev.skip (fun _ => rfl) | exact ev_move rfl (fun _ => rfl)
    simp only [nm, seval]
    apply VE.cons
    · first | exact Ev.skip (fun _ => rfl) | exact ev_move rfl (fun _ => rfl)
    simp only [nm, seval]
    apply VE.cons
    · first | exact Ev.skip (fun _ => rfl) | exact ev_slicea rfl (fun _ => rfl) rfl Tryd.underlying44 Tryd.sizeOf5
    simp only [nm, seval]
    apply VE.cons
    · first | exact Ev.skip (fun _ => rfl) | exact ev_convb (bs := l') rfl (fun _ => rfl) rfl Tryd.underlying26 Tryd.underlying5 Tryd.underlying9 (rdg_arr (len := 32) (cap := 32) rfl (List.take_of_length_le (by simp [hl32])) (by simp [hl32]) (Nat.le_refl _))
    simp only [nm, seval]
    apply VE.cons
    · first | exact Ev.skip (fun _ => rfl) | exact ev_move rfl (fun _ => rfl)
    simp only [nm, seval]
    apply VE.cons
    · first | exact Ev.skip (fun _ => rfl) | exact ev_bin (c := .bool false) rfl (fun _ => rfl) rfl rfl (fun w => str_ne (decide_eq_false (fun h => h rfl)) hl8' hl8' _ _ w)
    simp only [nm, seval]
    apply VE.cons
    · first | exact Ev.skip (fun _ => rfl) | exact ev_pick_t rfl (fun _ => rfl) rfl rfl | exact ev_pick_f rfl (fun _ => rfl) rfl rfl
    simp only [nm, seval]
    apply VE.cons
    · first | exact ev_pick_t rfl (gn rfl) rfl rfl | exact ev_pick_f rfl (gn rfl) rfl rfl
    simp only [nm, seval]
    apply VE.cons
    · exact ev_move rfl (gn rfl)
    simp only [nm, seval]
    apply VE.cons
    · first | exact Ev.skip (fun _ => rfl) | exact ev_move rfl (fun _ => rfl)
    simp only [nm, seval]
    apply VE.cons
    · first | exact Ev.skip (fun _ => rfl) | exact ev_neq (p := true) rfl (fun _ => rfl) rfl rfl (by decide)
    simp only [nm, seval]
    apply VE.cons
    · first | exact Ev.skip (fun _ => rfl) | exact ev_move rfl (fun _ => rfl)
    simp only [nm, seval]
    apply VE.cons
    · first | exact Ev.skip (fun _ => rfl) | exact ev_move rfl (fun _ => rfl)
    simp only [nm, seval]
    apply VE.cons
    · first | exact Ev.skip (fun _ => rfl) | exact ev_neq (p := false) rfl (fun _ => rfl) rfl rfl (by decide)
    simp only [nm, seval]
    apply VE.cons
    · first | exact Ev.skip (fun _ => rfl) | exact ev_pick_t rfl (fun _ => rfl) rfl rfl | exact ev_pick_f rfl (fun _ => rfl) rfl rfl
    simp only [nm, seval]
    apply VE.cons
    · first | exact ev_pick_t rfl (gn rfl) rfl rfl | exact ev_pick_f rfl (gn rfl) rfl rfl
    simp only [nm, seval]
    apply VE.cons
    · exact ev_move rfl (gn rfl)
    simp only [nm, seval]
    apply VE.cons
    · first | exact Ev.skip (fun _ => rfl) | exact ev_move rfl (fun _ => rfl)
    simp only [nm, seval]
    apply VE.cons
    · first | exact Ev.skip (fun _ => rfl) | exact ev_neq (p := true) rfl (fun _ => rfl) rfl rfl (by decide)
    simp only [nm, seval]
    apply VE.cons
    · first | exact Ev.skip (fun _ => rfl) | exact ev_move rfl (fun _ => rfl)
    simp only [nm, seval]
    apply VE.cons
    · first | exact Ev.skip (fun _ => rfl) | exact ev_move rfl (fun _ => rfl)
    simp only [nm, seval]
    apply VE.cons
    · first | exact Ev.skip (fun _ => rfl) | exact ev_neq (p := false) rfl (fun _ => rfl) rfl rfl (by decide)
    simp only [nm, seval]
    apply VE.cons
    · first | exact Ev.skip (fun _ => rfl) | exact ev_pick_t rfl (fun _ => rfl) rfl rfl | exact ev_pick_f rfl (fun _ => rfl) rfl rfl
    simp only [nm, seval]
    apply VE.cons
    · first | exact ev_pick_t rfl (gn rfl) rfl rfl | exact ev_pick_f rfl (gn rfl) rfl rfl
    simp only [nm, seval]
    exact VE.nil _
  · kernel_rfl
  change VOk _ _ _ _ _
  refine vcond_f rfl ?_
  cases q1 <;> cases q2 <;> cases q3 <;> simp only [Bool.and_true, Bool.and_false, Bool.true_and, Bool.false_and, cond_true, cond_false] at hW2 <;> subst hW2 <;>
  (
    refine vskip ?_
    change VOk _ _ _ _ _
    refine vseq ?_
    refine vseq ?_
    apply vrp
    · apply VE.cons
      · first | exact ev_field rfl (gn rfl) rfl Tryd.underlying24 rfl Tryd.sizeOf3 | exact ev_fieldx rfl (gn rfl) rfl Tryd.underlying24 rfl Tryd.sizeOf3
      simp only [nm, seval]
      apply VE.cons
      · exact ev_load1v (v := .int .i64 (tagT (tm t))) (rd := [14]) rfl (gn rfl) rfl rfl Tryd.underlying3 rfl rfl (fun ρ S w' hR => by obtain ⟨c, h1, h2⟩ := datR_get (id := 14) hR (by simp) rfl; exact cell_tag h1 h2)
      simp only [nm, seval]
      apply VE.cons
      · exact ev_eql rfl (gn rfl) rfl rfl h_q1
      simp only [nm, seval]
      apply VE.cons
      · exact ev_move rfl (gn rfl)
      simp only [nm, seval]
      apply VE.cons
      · first | exact Ev.skip (fun _ => rfl) | exact ev_loada rfl (fun _ => rfl) rfl rfl Tryd.underlying24 rfl Tryd.sizeOf24 rfl
      simp only [nm, seval]
      apply VE.cons
      · first | exact Ev.skip (fun _ => rfl) | exact ev_callp (v := .bool true) [14] rfl (fun _ => rfl) rfl (en_of Tryd.func18 (by kernel_rfl) rfl) (fun ρ S w' hb hR => by have := c_rright 14 hok hR (by simp) rfl; rw [h_q2] at this; exact this) | exact ev_callp (v := .bool false) [14] rfl (fun _ => rfl) rfl (en_of Tryd.func18 (by kernel_rfl) rfl) (fun ρ S w' hb hR => by have := c_rright 14 hok hR (by simp) rfl; rw [h_q2] at this; exact this)
      simp only [nm, seval]
      apply VE.cons
      · first | exact ev_pick_t rfl (gn rfl) rfl rfl | exact ev_pick_f rfl (gn rfl) rfl rfl
      simp only [nm, seval]
      apply VE.cons
      · exact ev_move rfl (gn rfl)
      simp only [nm, seval]
      apply VE.cons
      · first | exact Ev.skip (fun _ => rfl) | exact ev_field rfl (fun _ => rfl) rfl Tryd.underlying24 rfl Tryd.sizeOf9 | exact ev_fieldx rfl (fun _ => rfl) rfl Tryd.underlying24 rfl Tryd.sizeOf9
      simp only [nm, seval]
      apply VE.cons
      · first | exact Ev.skip (fun _ => rfl) | exact ev_load1v (v := .string (bstr (bodyOfT (tm t)))) (rd := [14]) rfl (fun _ => rfl) rfl rfl Tryd.underlying9 rfl rfl (fun ρ S w' hR => by obtain ⟨c, h1, h2⟩ := datR_get (id := 14) hR (by simp) rfl; exact cell_body h1 h2)
      simp only [nm, seval]
      apply VE.cons
      · first | exact Ev.skip (fun _ => rfl) | exact ev_lenb rfl (fun _ => rfl) rfl Tryd.underlying9
      simp only [nm, seval]
      apply VE.cons
      · first | exact Ev.skip (fun _ => rfl) | exact ev_leq rfl (fun _ => rfl) rfl rfl h_q3'
      simp only [nm, seval]
      apply VE.cons
      · first | exact ev_pick_t rfl (gn rfl) rfl rfl | exact ev_pick_f rfl (gn rfl) rfl rfl
      simp only [nm, seval]
      exact VE.nil _
    · kernel_rfl
    change VOk _ _ _ _ _
    first
    | (
        refine vcond_t rfl ?_
        refine vseq ?_
        apply vrp
        · apply VE.cons
          · exact ev_move rfl (gn rfl)
          simp only [nm, seval]
          apply VE.cons
          · exact ev_eql (p := true) rfl (gn rfl) rfl rfl (by decide)
          simp only [nm, seval]
          apply VE.cons
          · exact ev_move rfl (gn rfl)
          simp only [nm, seval]
          apply VE.cons
          · first | exact Ev.skip (fun _ => rfl) | exact ev_move rfl (fun _ => rfl)
          simp only [nm, seval]
          apply VE.cons
          · first | exact Ev.skip (fun _ => rfl) | exact ev_field rfl (fun _ => rfl) rfl Tryd.underlying24 rfl Tryd.sizeOf9 | exact ev_fieldx rfl (fun _ => rfl) rfl Tryd.underlying24 rfl Tryd.sizeOf9
          simp only [nm, seval]
          apply VE.cons
          · first | exact Ev.skip (fun _ => rfl) | exact ev_load1v (v := .string (bstr (bodyOfT (tm t)))) (rd := [14]) rfl (fun _ => rfl) rfl rfl Tryd.underlying9 rfl rfl (fun ρ S w' hR => by obtain ⟨c, h1, h2⟩ := datR_get (id := 14) hR (by simp) rfl; exact cell_body h1 h2)
          simp only [nm, seval]
          apply VE.cons
          · first | exact Ev.skip (fun _ => rfl) | exact ev_bin (c := .bool true) rfl (fun _ => rfl) rfl rfl (fun w => str_is (decide_eq_true rfl) hbs.1 hbs.1 _ _ w)
          simp only [nm, seval]
          apply VE.cons
          · first | exact ev_pick_t rfl (gn rfl) rfl rfl | exact ev_pick_f rfl (gn rfl) rfl rfl
          simp only [nm, seval]
          apply VE.cons
          · exact ev_assign rfl (gn rfl)
          simp only [nm, seval]
          exact VE.nil _
        · kernel_rfl
        change VOk _ _ _ _ _
        refine vret ?_
        refine post_ret (res1 Tryd.results5 (rv_tmp rfl)) ?_
        intro ρ w' hr
        exact ⟨rfl, hr.1⟩
      )
    | (
        refine vcond_f rfl ?_
        refine vskip ?_
        change VOk _ _ _ _ _
        refine vseq ?_
        apply vrp
        · apply VE.cons
          · exact ev_move rfl (gn rfl)
          simp only [nm, seval]
          apply VE.cons
          · exact ev_eql (p := true) rfl (gn rfl) rfl rfl (by decide)
          simp only [nm, seval]
          apply VE.cons
          · exact ev_move rfl (gn rfl)
          simp only [nm, seval]
          apply VE.cons
          · first | exact Ev.skip (fun _ => rfl) | exact ev_move rfl (fun _ => rfl)
          simp only [nm, seval]
          apply VE.cons
          · first | exact Ev.skip (fun _ => rfl) | exact ev_bin (c := .bool true) rfl (fun _ => rfl) rfl rfl (fun w => str_is (a := []) (b := []) (decide_eq_true rfl) (fun x hx => by cases hx) (fun x hx => by cases hx) _ _ w)
          simp only [nm, seval]
          apply VE.cons
          · first | exact ev_pick_t rfl (gn rfl) rfl rfl | exact ev_pick_f rfl (gn rfl) rfl rfl
          simp only [nm, seval]
          apply VE.cons
          · exact ev_assign rfl (gn rfl)
          simp only [nm, seval]
          exact VE.nil _
        · kernel_rfl
        change VOk _ _ _ _ _
        refine vret ?_
        refine post_ret (res1 Tryd.results5 (rv_tmp rfl)) ?_
        intro ρ w' hr
        exact ⟨rfl, hr.1⟩
      )
  )
theorem derTo_ns {t : Tr} {x0 x1 x2 : Value} {S : Nat → Prop} (w : World) (hok0 : t.okL) (hx : RN w S t [x0, x1, x2]) (hX : tnN (tm t) = (0, 2)) (hA : valT (tm t) 8 = none) {l' : List Nat} (hv32 : valT (tm t) 32 = some l') (hY : tbN (tm t) = (l', 0)) (hB : valT (tm t) 32 = some l') : Calls Tryd.prog 5 #[.agg #[x0, x1, x2]] w fun e w' => e = .returned (.bool true) ∧ Bw w w' := by
  have hok := tm_ok hok0
  have hbs : (∀ x ∈ bodyOfT (tm t), x < 256) ∧ (bodyOfT (tm t)).length ≤ 1048576 := by
    cases h : tm t with
    | mk tg b ks => rw [h] at hok; simp only [Tr.ok] at hok; exact ⟨hok.1, hok.2.1⟩
  have htw : wordT (tm t) = (decide (tagT (tm t) = 12) && (rightT (tm t) 1 && decide ((bodyOfT (tm t)).length ≤ 64))) := by cases tm t; rfl
  obtain ⟨q1, h_q1⟩ : ∃ p, decide (tagT (tm t) = 12) = p := ⟨_, rfl⟩
  obtain ⟨q2, h_q2⟩ : ∃ p, rightT (tm t) 1 = p := ⟨_, rfl⟩
  obtain ⟨q3, h_q3⟩ : ∃ p, decide ((bodyOfT (tm t)).length ≤ 64) = p := ⟨_, rfl⟩
  have h_q3' : decide (((bodyOfT (tm t)).length : Int) ≤ ((64 : Nat) : Int)) = q3 := by rw [← h_q3]; exact decide_eq_decide.2 (by omega)
  rw [h_q1, h_q2, h_q3] at htw
  obtain ⟨W, hW⟩ : ∃ W, twN (tm t) = W := ⟨_, rfl⟩
  have hW2 : W = bif (q1 && (q2 && q3)) then (bodyOfT (tm t), 0) else ([], 2) := by rw [← hW, ← htw]; rfl
  have hl8' := valT_lt hok hv32
  have hl32 := valT_len hv32
  go_enter Tryd.func5, Tryd.ntmps5
  refine ve_go ?_
  simp only [List.map_cons, List.map_nil]
  refine vseq ?_
  apply vrp
  · apply VE.cons
    · exact ev_box rfl rfl (gn rfl) rfl
    simp only [nm, seval]
    apply VE.cons
    · exact ev_assign rfl (gn rfl)
    simp only [nm, seval]
    exact VE.nil _
  · kernel_rfl
  change VOk _ _ _ _ _
  refine vseq ?_
  apply vrp
  · apply VE.cons
    · exact ev_loada rfl (gn rfl) rfl rfl Tryd.underlying24 rfl Tryd.sizeOf24 rfl
    simp only [nm, seval]
    apply VE.cons
    · exact ev_calld (D := datR (tm t)) [] rfl rfl (gn rfl) rfl (en_of Tryd.func10 (by kernel_rfl) rfl) (fun ρ S w' hb _ => tame_ok w' hok0 (RN_bw hb hx))
    simp only [nm, seval]
    apply VE.cons
    · exact ev_storeR (vl := [.fn (cellV 0) (.d 14), .fn (cellV 1) (.d 14), .fn (cellV 2) (.d 14)]) [1, 14] rfl (gn rfl) rfl rfl rfl Tryd.sizeOf24 rfl (fun ρ S w' _ hR => by obtain ⟨c, h1, h2⟩ := datR_get (id := 14) hR (by simp) rfl; have hf := fn3 h1 (RN_len h2); exact ⟨hf.1, hf.2 ▸ RN_one h2⟩) rfl (by simp)
    simp only [nm, seval]
    exact VE.nil _
  · kernel_rfl
  change VOk _ _ _ _ _
  refine vseq ?_
  apply vrp
  · apply VE.cons
    · exact ev_loada rfl (gn rfl) rfl rfl Tryd.underlying24 rfl Tryd.sizeOf24 rfl
    simp only [nm, seval]
    apply VE.cons
    · exact ev_calld (D := datN (tm t)) [14] rfl rfl (gn rfl) rfl (en_of Tryd.func11 (by kernel_rfl) rfl) (fun ρ S w' hb hR => c_to 14 hok hR (by simp) rfl)
    simp only [nm, seval]
    apply VE.cons
    · exact ev_callp (v := .tuple #[.int .i64 0, .int .i64 2]) [17] rfl (gn rfl) rfl (en_of Tryd.func19 (by kernel_rfl) rfl) (fun ρ S w' hb hR => by have := c_toNum 17 hok hR (by simp) rfl; rw [hX] at this; exact this)
    simp only [nm, seval]
    apply VE.cons
    · exact ev_move rfl (gn rfl)
    simp only [nm, seval]
    apply VE.cons
    · first | exact ev_extract rfl (gn rfl) rfl rfl | exact ev_extractt rfl (gn rfl) rfl rfl
    simp only [nm, seval]
    apply VE.cons
    · first | exact ev_extract rfl (gn rfl) rfl rfl | exact ev_extractt rfl (gn rfl) rfl rfl
    simp only [nm, seval]
    apply VE.cons
    · exact ev_assign rfl (gn rfl)
    simp only [nm, seval]
    apply VE.cons
    · exact ev_assign rfl (gn rfl)
    simp only [nm, seval]
    exact VE.nil _
  · kernel_rfl
  change VOk _ _ _ _ _
  refine vseq ?_
  apply vrp
  · apply VE.cons
    · exact ev_loada rfl (gn rfl) rfl rfl Tryd.underlying24 rfl Tryd.sizeOf24 rfl
    simp only [nm, seval]
    apply VE.cons
    · exact ev_calld (D := datN (tm t)) [14] rfl rfl (gn rfl) rfl (en_of Tryd.func11 (by kernel_rfl) rfl) (fun ρ S w' hb hR => c_to 14 hok hR (by simp) rfl)
    simp only [nm, seval]
    apply VE.cons
    · exact ev_callp (v := .tuple #[.agg ((l').map b8).toArray, .int .i64 0]) [23] rfl (gn rfl) rfl (en_of Tryd.func20 (by kernel_rfl) rfl) (fun ρ S w' hb hR => by have := c_toBig 23 hok hR (by simp) rfl; rw [hY] at this; exact this)
    simp only [nm, seval]
    apply VE.cons
    · exact ev_move rfl (gn rfl)
    simp only [nm, seval]
    apply VE.cons
    · first | exact ev_extract rfl (gn rfl) rfl rfl | exact ev_extractt rfl (gn rfl) rfl rfl
    simp only [nm, seval]
    apply VE.cons
    · first | exact ev_extract rfl (gn rfl) rfl rfl | exact ev_extractt rfl (gn rfl) rfl rfl
    simp only [nm, seval]
    apply VE.cons
    · exact ev_allocr (l := z32.map b8) rfl rfl (gn rfl) Tryd.zeroValue44 rfl
    simp only [nm, seval]
    apply VE.cons
    · exact ev_storer (l' := (l').map b8) rfl (gn rfl) rfl rfl rfl Tryd.sizeOf44 (by simp [Value.cells, hl32]) (by simp [z32_len]) (by show ((l').map b8).toArray.toList.all _ = true; exact b8_all _) (by simp [Value.cells, z32_len])
    simp only [nm, seval]
    apply VE.cons
    · exact ev_assign rfl (gn rfl)
    simp only [nm, seval]
    exact VE.nil _
  · kernel_rfl
  change VOk _ _ _ _ _
  refine vseq ?_
  apply vrp
  · apply VE.cons
    · exact ev_loada rfl (gn rfl) rfl rfl Tryd.underlying24 rfl Tryd.sizeOf24 rfl
    simp only [nm, seval]
    apply VE.cons
    · exact ev_calld (D := datN (tm t)) [14] rfl rfl (gn rfl) rfl (en_of Tryd.func11 (by kernel_rfl) rfl) (fun ρ S w' hb hR => c_to 14 hok hR (by simp) rfl)
    simp only [nm, seval]
    apply VE.cons
    · exact ev_callp (v := .tuple #[.string (bstr W.1), .int .i64 W.2]) [29] rfl (gn rfl) rfl (en_of Tryd.func21 (by kernel_rfl) rfl) (fun ρ S w' hb hR => by have := c_toWord 29 hok hR (by simp) rfl; rw [hW] at this; exact this)
    simp only [nm, seval]
    apply VE.cons
    · exact ev_move rfl (gn rfl)
    simp only [nm, seval]
    apply VE.cons
    · first | exact ev_extract rfl (gn rfl) rfl rfl | exact ev_extractt rfl (gn rfl) rfl rfl
    simp only [nm, seval]
    apply VE.cons
    · first | exact ev_extract rfl (gn rfl) rfl rfl | exact ev_extractt rfl (gn rfl) rfl rfl
    simp only [nm, seval]
    apply VE.cons
    · exact ev_assign rfl (gn rfl)
    simp only [nm, seval]
    apply VE.cons
    · exact ev_assign rfl (gn rfl)
    simp only [nm, seval]
    exact VE.nil _
  · kernel_rfl
  change VOk _ _ _ _ _
  refine vseq ?_
  apply vrp
  · apply VE.cons
    · exact ev_loada rfl (gn rfl) rfl rfl Tryd.underlying24 rfl Tryd.sizeOf24 rfl
    simp only [nm, seval]
    apply VE.cons
    · exact ev_callp (v := .tuple #[.string (bstr []), .bool false]) [14] rfl (gn rfl) rfl (en_of Tryd.func22 (by kernel_rfl) rfl) (fun ρ S w' hb hR => by have := c_rToNum 14 8 (by decide) hok hR (by simp) rfl; rw [hA] at this; exact this)
    simp only [nm, seval]
    apply VE.cons
    · exact ev_move rfl (gn rfl)
    simp only [nm, seval]
    apply VE.cons
    · first | exact ev_extract rfl (gn rfl) rfl rfl | exact ev_extractt rfl (gn rfl) rfl rfl
    simp only [nm, seval]
    apply VE.cons
    · first | exact ev_extract rfl (gn rfl) rfl rfl | exact ev_extractt rfl (gn rfl) rfl rfl
    simp only [nm, seval]
    apply VE.cons
    · exact ev_assign rfl (gn rfl)
    simp only [nm, seval]
    apply VE.cons
    · exact ev_assign rfl (gn rfl)
    simp only [nm, seval]
    exact VE.nil _
  · kernel_rfl
  change VOk _ _ _ _ _
  refine vseq ?_
  refine vseq ?_
  apply vrp
  · apply VE.cons
    · exact ev_move rfl (gn rfl)
    simp only [nm, seval]
    apply VE.cons
    · exact ev_move rfl (gn rfl)
    simp only [nm, seval]
    apply VE.cons
    · first | exact Ev.skip (fun _ => rfl) | exact ev_move rfl (fun _ => rfl)
    simp only [nm, seval]
    apply VE.cons
    · first | exact Ev.skip (fun _ => rfl) | exact ev_idxb (k := 0) rfl (fun _ => rfl) rfl rfl Tryd.underlying9 (hl0) (hl08)
    simp only [nm, seval]
    apply VE.cons
    · first | exact Ev.skip (fun _ => rfl) | exact ev_geq5 rfl (fun _ => rfl) rfl rfl hh6
    simp only [nm, seval]
    apply VE.cons
    · first | exact ev_pick_t rfl (gn rfl) rfl rfl | exact ev_pick_f rfl (gn rfl) rfl rfl
    simp only [nm, seval]
    exact VE.nil _
  · kernel_rfl
  change VOk _ _ _ _ _
  refine vcond_f rfl ?_
  refine vskip ?_
  change VOk _ _ _ _ _
  refine vseq ?_
  apply vrp
  · apply VE.cons
    · exact ev_loada rfl (gn rfl) rfl rfl Tryd.underlying24 rfl Tryd.sizeOf24 rfl
    simp only [nm, seval]
    apply VE.cons
    · exact ev_callp (v := .tuple #[.string (bstr l'), .bool true]) [14] rfl (gn rfl) rfl (en_of Tryd.func22 (by kernel_rfl) rfl) (fun ρ S w' hb hR => by have := c_rToNum 14 32 (by decide) hok hR (by simp) rfl; rw [hB] at this; exact this)
    simp only [nm, seval]
    apply VE.cons
    · exact ev_move rfl (gn rfl)
    simp only [nm, seval]
    apply VE.cons
    · first | exact ev_extract rfl (gn rfl) rfl rfl | exact ev_extractt rfl (gn rfl) rfl rfl
    simp only [nm, seval]
    apply VE.cons
    · first | exact ev_extract rfl (gn rfl) rfl rfl | exact ev_extractt rfl (gn rfl) rfl rfl
    simp only [nm, seval]
    apply VE.cons
    · exact ev_assign rfl (gn rfl)
    simp only [nm, seval]
    apply VE.cons
    · exact ev_assign rfl (gn rfl)
    simp only [nm, seval]
    exact VE.nil _
  · kernel_rfl
  change VOk _ _ _ _ _
  refine vseq ?_
  refine vseq ?_
  apply vrp
  · apply VE.cons
    · exact ev_callb rfl (gn rfl) rfl (en_of Tryd.func14 (by kernel_rfl) rfl) (fun w' hb => ders_ok w')
    simp only [nm, seval]
    apply VE.cons
    · exact ev_not rfl (gn rfl) rfl
    simp only [nm, seval]
    apply VE.cons
    · exact ev_move rfl (gn rfl)
    simp only [nm, seval]
    apply VE.cons
    · first | exact Ev.skip (fun _ => rfl) | exact ev_move rfl (fun _ => rfl)
    simp only [nm, seval]
    apply VE.cons
    · first | exact Ev.skip (fun _ => rfl) | exact ev_eql (p := false) rfl (fun _ => rfl) rfl rfl (by decide)
    simp only [nm, seval]
    apply VE.cons
    · first | exact Ev.skip (fun _ => rfl) | exact ev_move rfl (fun _ => rfl)
    simp only [nm, seval]
    apply VE.cons
    · first | exact Ev.skip (fun _ => rfl) | exact ev_bin (c := .bool false) rfl (fun _ => rfl) rfl rfl (fun w => neqB _ _ _ _ w)
    simp only [nm, seval]
    apply VE.cons
    · first | exact ev_pick_t rfl (gn rfl) rfl rfl | exact ev_pick_f rfl (gn rfl) rfl rfl
    simp only [nm, seval]
    apply VE.cons
    · exact ev_move rfl (gn rfl)
    simp only [nm, seval]
    apply VE.cons
    · first | exact Ev.skip (fun _ => rfl) | exact ev_move rfl (fun _ => rfl)
    simp only [nm, seval]
    apply VE.cons
    · first | exact Ev.skip (fun _ => rfl) | exact ev_eql (p := true) rfl (fun _ => rfl) rfl rfl (by decide)
    simp only [nm, seval]
    apply VE.cons
    · first | exact Ev.skip (fun _ => rfl) | exact ev_move rfl (fun _ => rfl)
    simp only [nm, seval]
    apply VE.cons
    · first | exact Ev.skip (fun _ => rfl) | exact ev_bin (c := .bool false) rfl (fun _ => rfl) rfl rfl (fun w => neqB _ _ _ _ w)
    simp only [nm, seval]
    apply VE.cons
    · first | exact ev_pick_t rfl (gn rfl) rfl rfl | exact ev_pick_f rfl (gn rfl) rfl rfl
    simp only [nm, seval]
    apply VE.cons
    · exact ev_move rfl (gn rfl)
    simp only [nm, seval]
    apply VE.cons
    · first | exact Ev.skip (fun _ => rfl) | exact ev_move rfl (fun _ => rfl)
    simp only [nm, seval]
    apply VE.cons
    · first | exact Ev.skip (fun _ => rfl) | exact ev_move rfl (fun _ => rfl)
    simp only [nm, seval]
    apply VE.cons
    · first | exact Ev.skip (fun _ => rfl) | exact ev_move rfl (fun _ => rfl)
    simp only [nm, seval]
    apply VE.cons
    · first | exact Ev.skip (fun _ => rfl) | exact ev_callb rfl (fun _ => rfl) rfl (en_of Tryd.func23 (by kernel_rfl) rfl) (fun w' hb => Eight_ok (beN l) (by omega) w')
    simp only [nm, seval]
    apply VE.cons
    · first | exact Ev.skip (fun _ => rfl) | exact ev_move rfl (fun _ => rfl)
    simp only [nm, seval]
    apply VE.cons
    · first | exact Ev.skip (fun _ => rfl) | exact ev_bin (c := .bool false) rfl (fun _ => rfl) rfl rfl (fun w => str_ne (decide_eq_false (fun h => h hnl)) hn8 hl8 _ _ w)
    simp only [nm, seval]
    apply VE.cons
    · first | exact Ev.skip (fun _ => rfl) | exact ev_pick_t rfl (fun _ => rfl) rfl rfl | exact ev_pick_f rfl (fun _ => rfl) rfl rfl
    simp only [nm, seval]
    apply VE.cons
    · first | exact ev_pick_t rfl (gn rfl) rfl rfl | exact ev_pick_f rfl (gn rfl) rfl rfl
    simp only [nm, seval]
    apply VE.cons
    · exact ev_move rfl (gn rfl)
    simp only [nm, seval]
    apply VE.cons
    · first | exact Ev.skip (fun _ => rfl) | exact ev_move rfl (fun _ => rfl)
    simp only [nm, seval]
    apply VE.cons
    · first | exact Ev.skip (fun _ => rfl) | exact ev_move rfl (fun _ => rfl)
    simp only [nm, seval]
    apply VE.cons
    · first | exact Ev.skip (fun _ => rfl) | exact ev_slicea rfl (fun _ => rfl) rfl Tryd.underlying44 Tryd.sizeOf5
    simp only [nm, seval]
    apply VE.cons
    · first | exact Ev.skip (fun _ => rfl) | exact ev_convb (bs := l') rfl (fun _ => rfl) rfl Tryd.underlying26 Tryd.underlying5 Tryd.underlying9 (rdg_arr (len := 32) (cap := 32) rfl (List.take_of_length_le (by simp [hl32])) (by simp [hl32]) (Nat.le_refl _))
    simp only [nm, seval]
    apply VE.cons
    · first | exact Ev.skip (fun _ => rfl) | exact ev_move rfl (fun _ => rfl)
    simp only [nm, seval]
    apply VE.cons
    · first | exact Ev.skip (fun _ => rfl) | exact ev_bin (c := .bool false) rfl (fun _ => rfl) rfl rfl (fun w => str_ne (decide_eq_false (fun h => h rfl)) hl8' hl8' _ _ w)
    simp only [nm, seval]
    apply VE.cons
    · first | exact Ev.skip (fun _ => rfl) | exact ev_pick_t rfl (fun _ => rfl) rfl rfl | exact ev_pick_f rfl (fun _ => rfl) rfl rfl
    simp only [nm, seval]
    apply VE.cons
    · first | exact ev_pick_t rfl (gn rfl) rfl rfl | exact ev_pick_f rfl (gn rfl) rfl rfl
    simp only [nm, seval]
    apply VE.cons
    · exact ev_move rfl (gn rfl)
    simp only [nm, seval]
    apply VE.cons
    · first | exact Ev.skip (fun _ => rfl) | exact ev_move rfl (fun _ => rfl)
    simp only [nm, seval]
    apply VE.cons
    · first | exact Ev.skip (fun _ => rfl) | exact ev_neq (p := true) rfl (fun _ => rfl) rfl rfl (by decide)
    simp only [nm, seval]
    apply VE.cons
    · first | exact Ev.skip (fun _ => rfl) | exact ev_move rfl (fun _ => rfl)
    simp only [nm, seval]
    apply VE.cons
    · first | exact Ev.skip (fun _ => rfl) | exact ev_move rfl (fun _ => rfl)
    simp only [nm, seval]
    apply VE.cons
    · first | exact Ev.skip (fun _ => rfl) | exact ev_neq (p := false) rfl (fun _ => rfl) rfl rfl (by decide)
    simp only [nm, seval]
    apply VE.cons
    · first | exact Ev.skip (fun _ => rfl) | exact ev_pick_t rfl (fun _ => rfl) rfl rfl | exact ev_pick_f rfl (fun _ => rfl) rfl rfl
    simp only [nm, seval]
    apply VE.cons
    · first | exact ev_pick_t rfl (gn rfl) rfl rfl | exact ev_pick_f rfl (gn rfl) rfl rfl
    simp only [nm, seval]
    apply VE.cons
    · exact ev_move rfl (gn rfl)
    simp only [nm, seval]
    apply VE.cons
    · first | exact Ev.skip (fun _ => rfl) | exact ev_move rfl (fun _ => rfl)
    simp only [nm, seval]
    apply VE.cons
    · first | exact Ev.skip (fun _ => rfl) | exact ev_neq (p := false) rfl (fun _ => rfl) rfl rfl (by decide)
    simp only [nm, seval]
    apply VE.cons
    · first | exact Ev.skip (fun _ => rfl) | exact ev_move rfl (fun _ => rfl)
    simp only [nm, seval]
    apply VE.cons
    · first | exact Ev.skip (fun _ => rfl) | exact ev_move rfl (fun _ => rfl)
    simp only [nm, seval]
    apply VE.cons
    · first | exact Ev.skip (fun _ => rfl) | exact ev_neq (p := false) rfl (fun _ => rfl) rfl rfl (by decide)
    simp only [nm, seval]
    apply VE.cons
    · first | exact Ev.skip (fun _ => rfl) | exact ev_pick_t rfl (fun _ => rfl) rfl rfl | exact ev_pick_f rfl (fun _ => rfl) rfl rfl
    simp only [nm, seval]
    apply VE.cons
    · first | exact ev_pick_t rfl (gn rfl) rfl rfl | exact ev_pick_f rfl (gn rfl) rfl rfl
    simp only [nm, seval]
    exact VE.nil _
  · kernel_rfl
  change VOk _ _ _ _ _
  refine vcond_f rfl ?_
  cases q1 <;> cases q2 <;> cases q3 <;> simp only [Bool.and_true, Bool.and_false, Bool.true_and, Bool.false_and, cond_true, cond_false] at hW2 <;> subst hW2 <;>
  (
    refine vskip ?_
    change VOk _ _ _ _ _
    refine vseq ?_
    refine vseq ?_
    apply vrp
    · apply VE.cons
      · first | exact ev_field rfl (gn rfl) rfl Tryd.underlying24 rfl Tryd.sizeOf3 | exact ev_fieldx rfl (gn rfl) rfl Tryd.underlying24 rfl Tryd.sizeOf3
      simp only [nm, seval]
      apply VE.cons
      · exact ev_load1v (v := .int .i64 (tagT (tm t))) (rd := [14]) rfl (gn rfl) rfl rfl Tryd.underlying3 rfl rfl (fun ρ S w' hR => by obtain ⟨c, h1, h2⟩ := datR_get (id := 14) hR (by simp) rfl; exact cell_tag h1 h2)
      simp only [nm, seval]
      apply VE.cons
      · exact ev_eql rfl (gn rfl) rfl rfl h_q1
      simp only [nm, seval]
      apply VE.cons
      · exact ev_move rfl (gn rfl)
      simp only [nm, seval]
      apply VE.cons
      · first | exact Ev.skip (fun _ => rfl) | exact ev_loada rfl (fun _ => rfl) rfl rfl Tryd.underlying24 rfl Tryd.sizeOf24 rfl
      simp only [nm, seval]
      apply VE.cons
      · first | exact Ev.skip (fun _ => rfl) | exact ev_callp (v := .bool true) [14] rfl (fun _ => rfl) rfl (en_of Tryd.func18 (by kernel_rfl) rfl) (fun ρ S w' hb hR => by have := c_rright 14 hok hR (by simp) rfl; rw [h_q2] at this; exact this) | exact ev_callp (v := .bool false) [14] rfl (fun _ => rfl) rfl (en_of Tryd.func18 (by kernel_rfl) rfl) (fun ρ S w' hb hR => by have := c_rright 14 hok hR (by simp) rfl; rw [h_q2] at this; exact this)
      simp only [nm, seval]
      apply VE.cons
      · first | exact ev_pick_t rfl (gn rfl) rfl rfl | exact ev_pick_f rfl (gn rfl) rfl rfl
      simp only [nm, seval]
      apply VE.cons
      · exact ev_move rfl (gn rfl)
      simp only [nm, seval]
      apply VE.cons
      · first | exact Ev.skip (fun _ => rfl) | exact ev_field rfl (fun _ => rfl) rfl Tryd.underlying24 rfl Tryd.sizeOf9 | exact ev_fieldx rfl (fun _ => rfl) rfl Tryd.underlying24 rfl Tryd.sizeOf9
      simp only [nm, seval]
      apply VE.cons
      · first | exact Ev.skip (fun _ => rfl) | exact ev_load1v (v := .string (bstr (bodyOfT (tm t)))) (rd := [14]) rfl (fun _ => rfl) rfl rfl Tryd.underlying9 rfl rfl (fun ρ S w' hR => by obtain ⟨c, h1, h2⟩ := datR_get (id := 14) hR (by simp) rfl; exact cell_body h1 h2)
      simp only [nm, seval]
      apply VE.cons
      · first | exact Ev.skip (fun _ => rfl) | exact ev_lenb rfl (fun _ => rfl) rfl Tryd.underlying9
      simp only [nm, seval]
      apply VE.cons
      · first | exact Ev.skip (fun _ => rfl) | exact ev_leq rfl (fun _ => rfl) rfl rfl h_q3'
      simp only [nm, seval]
      apply VE.cons
      · first | exact ev_pick_t rfl (gn rfl) rfl rfl | exact ev_pick_f rfl (gn rfl) rfl rfl
      simp only [nm, seval]
      exact VE.nil _
    · kernel_rfl
    change VOk _ _ _ _ _
    first
    | (
        refine vcond_t rfl ?_
        refine vseq ?_
        apply vrp
        · apply VE.cons
          · exact ev_move rfl (gn rfl)
          simp only [nm, seval]
          apply VE.cons
          · exact ev_eql (p := true) rfl (gn rfl) rfl rfl (by decide)
          simp only [nm, seval]
          apply VE.cons
          · exact ev_move rfl (gn rfl)
          simp only [nm, seval]
          apply VE.cons
          · first | exact Ev.skip (fun _ => rfl) | exact ev_move rfl (fun _ => rfl)
          simp only [nm, seval]
          apply VE.cons
          · first | exact Ev.skip (fun _ => rfl) | exact ev_field rfl (fun _ => rfl) rfl Tryd.underlying24 rfl Tryd.sizeOf9 | exact ev_fieldx rfl (fun _ => rfl) rfl Tryd.underlying24 rfl Tryd.sizeOf9
          simp only [nm, seval]
          apply VE.cons
          · first | exact Ev.skip (fun _ => rfl) | exact ev_load1v (v := .string (bstr (bodyOfT (tm t)))) (rd := [14]) rfl (fun _ => rfl) rfl rfl Tryd.underlying9 rfl rfl (fun ρ S w' hR => by obtain ⟨c, h1, h2⟩ := datR_get (id := 14) hR (by simp) rfl; exact cell_body h1 h2)
          simp only [nm, seval]
          apply VE.cons
          · first | exact Ev.skip (fun _ => rfl) | exact ev_bin (c := .bool true) rfl (fun _ => rfl) rfl rfl (fun w => str_is (decide_eq_true rfl) hbs.1 hbs.1 _ _ w)
          simp only [nm, seval]
          apply VE.cons
          · first | exact ev_pick_t rfl (gn rfl) rfl rfl | exact ev_pick_f rfl (gn rfl) rfl rfl
          simp only [nm, seval]
          apply VE.cons
          · exact ev_assign rfl (gn rfl)
          simp only [nm, seval]
          exact VE.nil _
        · kernel_rfl
        change VOk _ _ _ _ _
        refine vret ?_
        refine post_ret (res1 Tryd.results5 (rv_tmp rfl)) ?_
        intro ρ w' hr
        exact ⟨rfl, hr.1⟩
      )
    | (
        refine vcond_f rfl ?_
        refine vskip ?_
        change VOk _ _ _ _ _
        refine vseq ?_
        apply vrp
        · apply VE.cons
          · exact ev_move rfl (gn rfl)
          simp only [nm, seval]
          apply VE.cons
          · exact ev_eql (p := true) rfl (gn rfl) rfl rfl (by decide)
          simp only [nm, seval]
          apply VE.cons
          · exact ev_move rfl (gn rfl)
          simp only [nm, seval]
          apply VE.cons
          · first | exact Ev.skip (fun _ => rfl) | exact ev_move rfl (fun _ => rfl)
          simp only [nm, seval]
          apply VE.cons
          · first | exact Ev.skip (fun _ => rfl) | exact ev_bin (c := .bool true) rfl (fun _ => rfl) rfl rfl (fun w => str_is (a := []) (b := []) (decide_eq_true rfl) (fun x hx => by cases hx) (fun x hx => by cases hx) _ _ w)
          simp only [nm, seval]
          apply VE.cons
          · first | exact ev_pick_t rfl (gn rfl) rfl rfl | exact ev_pick_f rfl (gn rfl) rfl rfl
          simp only [nm, seval]
          apply VE.cons
          · exact ev_assign rfl (gn rfl)
          simp only [nm, seval]
          exact VE.nil _
        · kernel_rfl
        change VOk _ _ _ _ _
        refine vret ?_
        refine post_ret (res1 Tryd.results5 (rv_tmp rfl)) ?_
        intro ρ w' hr
        exact ⟨rfl, hr.1⟩
      )
  )
theorem derTo_bn {t : Tr} {x0 x1 x2 : Value} {S : Nat → Prop} (w : World) (hok0 : t.okL) (hx : RN w S t [x0, x1, x2]) {l : List Nat} (hv8 : valT (tm t) 8 = some l) (hs : ¬ beN l < 4611686018427387904) (hX : tnN (tm t) = (0, 2)) (hA : valT (tm t) 8 = some l) (hY : tbN (tm t) = (z32, 2)) (hB : valT (tm t) 32 = none) : Calls Tryd.prog 5 #[.agg #[x0, x1, x2]] w fun e w' => e = .returned (.bool true) ∧ Bw w w' := by
  have hok := tm_ok hok0
  have hbs : (∀ x ∈ bodyOfT (tm t), x < 256) ∧ (bodyOfT (tm t)).length ≤ 1048576 := by
    cases h : tm t with
    | mk tg b ks => rw [h] at hok; simp only [Tr.ok] at hok; exact ⟨hok.1, hok.2.1⟩
  have htw : wordT (tm t) = (decide (tagT (tm t) = 12) && (rightT (tm t) 1 && decide ((bodyOfT (tm t)).length ≤ 64))) := by cases tm t; rfl
  obtain ⟨q1, h_q1⟩ : ∃ p, decide (tagT (tm t) = 12) = p := ⟨_, rfl⟩
  obtain ⟨q2, h_q2⟩ : ∃ p, rightT (tm t) 1 = p := ⟨_, rfl⟩
  obtain ⟨q3, h_q3⟩ : ∃ p, decide ((bodyOfT (tm t)).length ≤ 64) = p := ⟨_, rfl⟩
  have h_q3' : decide (((bodyOfT (tm t)).length : Int) ≤ ((64 : Nat) : Int)) = q3 := by rw [← h_q3]; exact decide_eq_decide.2 (by omega)
  rw [h_q1, h_q2, h_q3] at htw
  obtain ⟨W, hW⟩ : ∃ W, twN (tm t) = W := ⟨_, rfl⟩
  have hW2 : W = bif (q1 && (q2 && q3)) then (bodyOfT (tm t), 0) else ([], 2) := by rw [← hW, ← htw]; rfl
  have hl8 := valT_lt hok hv8
  have hll := valT_len hv8
  have hl0 := get0 (l := l) (by omega)
  have hl08 : l.headD 0 < 256 := hl8 _ (List.mem_of_getElem? hl0)
  have hh6 : decide (((l.headD 0 : Nat) : Int) ≥ ((64 : Nat) : Int)) = true := by rw [nat_ge, beN_head hl8 hll]; simp only [decide_eq_false hs, Bool.not_true, Bool.not_false]
  go_enter Tryd.func5, Tryd.ntmps5
  refine ve_go ?_
  simp only [List.map_cons, List.map_nil]
  refine vseq ?_
  apply vrp
  · apply VE.cons
    · exact ev_box rfl rfl (gn rfl) rfl
    simp only [nm, seval]
    apply VE.cons
    · exact ev_assign rfl (gn rfl)
    simp only [nm, seval]
    exact VE.nil _
  · kernel_rfl
  change VOk _ _ _ _ _
  refine vseq ?_
  apply vrp
  · apply VE.cons
    · exact ev_loada rfl (gn rfl) rfl rfl Tryd.underlying24 rfl Tryd.sizeOf24 rfl
    simp only [nm, seval]
    apply VE.cons
    · exact ev_calld (D := datR (tm t)) [] rfl rfl (gn rfl) rfl (en_of Tryd.func10 (by kernel_rfl) rfl) (fun ρ S w' hb _ => tame_ok w' hok0 (RN_bw hb hx))
    simp only [nm, seval]
    apply VE.cons
    · exact ev_storeR (vl := [.fn (cellV 0) (.d 14), .fn (cellV 1) (.d 14), .fn (cellV 2) (.d 14)]) [1, 14] rfl (gn rfl) rfl rfl rfl Tryd.sizeOf24 rfl (fun ρ S w' _ hR => by obtain ⟨c, h1, h2⟩ := datR_get (id := 14) hR (by simp) rfl; have hf := fn3 h1 (RN_len h2); exact ⟨hf.1, hf.2 ▸ RN_one h2⟩) rfl (by simp)
    simp only [nm, seval]
    exact VE.nil _
  · kernel_rfl
  change VOk _ _ _ _ _
  refine vseq ?_
  apply vrp
  · apply VE.cons
    · exact ev_loada rfl (gn rfl) rfl rfl Tryd.underlying24 rfl Tryd.sizeOf24 rfl
    simp only [nm, seval]
    apply VE.cons
    · exact ev_calld (D := datN (tm t)) [14] rfl rfl (gn rfl) rfl (en_of Tryd.func11 (by kernel_rfl) rfl) (fun ρ S w' hb hR => c_to 14 hok hR (by simp) rfl)
    simp only [nm, seval]
    apply VE.cons
    · exact ev_callp (v := .tuple #[.int .i64 0, .int .i64 2]) [17] rfl (gn rfl) rfl (en_of Tryd.func19 (by kernel_rfl) rfl) (fun ρ S w' hb hR => by have := c_toNum 17 hok hR (by simp) rfl; rw [hX] at this; exact this)
    simp only [nm, seval]
    apply VE.cons
    · exact ev_move rfl (gn rfl)
    simp only [nm, seval]
    apply VE.cons
    · first | exact ev_extract rfl (gn rfl) rfl rfl | exact ev_extractt rfl (gn rfl) rfl rfl
    simp only [nm, seval]
    apply VE.cons
    · first | exact ev_extract rfl (gn rfl) rfl rfl | exact ev_extractt rfl (gn rfl) rfl rfl
    simp only [nm, seval]
    apply VE.cons
    · exact ev_assign rfl (gn rfl)
    simp only [nm, seval]
    apply VE.cons
    · exact ev_assign rfl (gn rfl)
    simp only [nm, seval]
    exact VE.nil _
  · kernel_rfl
  change VOk _ _ _ _ _
  refine vseq ?_
  apply vrp
  · apply VE.cons
    · exact ev_loada rfl (gn rfl) rfl rfl Tryd.underlying24 rfl Tryd.sizeOf24 rfl
    simp only [nm, seval]
    apply VE.cons
    · exact ev_calld (D := datN (tm t)) [14] rfl rfl (gn rfl) rfl (en_of Tryd.func11 (by kernel_rfl) rfl) (fun ρ S w' hb hR => c_to 14 hok hR (by simp) rfl)
    simp only [nm, seval]
    apply VE.cons
    · exact ev_callp (v := .tuple #[.agg ((z32).map b8).toArray, .int .i64 2]) [23] rfl (gn rfl) rfl (en_of Tryd.func20 (by kernel_rfl) rfl) (fun ρ S w' hb hR => by have := c_toBig 23 hok hR (by simp) rfl; rw [hY] at this; exact this)
    simp only [nm, seval]
    apply VE.cons
    · exact ev_move rfl (gn rfl)
    simp only [nm, seval]
    apply VE.cons
    · first | exact ev_extract rfl (gn rfl) rfl rfl | exact ev_extractt rfl (gn rfl) rfl rfl
    simp only [nm, seval]
    apply VE.cons
    · first | exact ev_extract rfl (gn rfl) rfl rfl | exact ev_extractt rfl (gn rfl) rfl rfl
    simp only [nm, seval]
    apply VE.cons
    · exact ev_allocr (l := z32.map b8) rfl rfl (gn rfl) Tryd.zeroValue44 rfl
    simp only [nm, seval]
    apply VE.cons
    · exact ev_storer (l' := (z32).map b8) rfl (gn rfl) rfl rfl rfl Tryd.sizeOf44 (by simp [Value.cells, z32_len]) (by simp [z32_len]) (by show ((z32).map b8).toArray.toList.all _ = true; exact b8_all _) (by simp [Value.cells, z32_len])
    simp only [nm, seval]
    apply VE.cons
    · exact ev_assign rfl (gn rfl)
    simp only [nm, seval]
    exact VE.nil _
  · kernel_rfl
  change VOk _ _ _ _ _
  refine vseq ?_
  apply vrp
  · apply VE.cons
    · exact ev_loada rfl (gn rfl) rfl rfl Tryd.underlying24 rfl Tryd.sizeOf24 rfl
    simp only [nm, seval]
    apply VE.cons
    · exact ev_calld (D := datN (tm t)) [14] rfl rfl (gn rfl) rfl (en_of Tryd.func11 (by kernel_rfl) rfl) (fun ρ S w' hb hR => c_to 14 hok hR (by simp) rfl)
    simp only [nm, seval]
    apply VE.cons
    · exact ev_callp (v := .tuple #[.string (bstr W.1), .int .i64 W.2]) [29] rfl (gn rfl) rfl (en_of Tryd.func21 (by kernel_rfl) rfl) (fun ρ S w' hb hR => by have := c_toWord 29 hok hR (by simp) rfl; rw [hW] at this; exact this)
    simp only [nm, seval]
    apply VE.cons
    · exact ev_move rfl (gn rfl)
    simp only [nm, seval]
    apply VE.cons
    · first | exact ev_extract rfl (gn rfl) rfl rfl | exact ev_extractt rfl (gn rfl) rfl rfl
    simp only [nm, seval]
    apply VE.cons
    · first | exact ev_extract rfl (gn rfl) rfl rfl | exact ev_extractt rfl (gn rfl) rfl rfl
    simp only [nm, seval]
    apply VE.cons
    · exact ev_assign rfl (gn rfl)
    simp only [nm, seval]
    apply VE.cons
    · exact ev_assign rfl (gn rfl)
    simp only [nm, seval]
    exact VE.nil _
  · kernel_rfl
  change VOk _ _ _ _ _
  refine vseq ?_
  apply vrp
  · apply VE.cons
    · exact ev_loada rfl (gn rfl) rfl rfl Tryd.underlying24 rfl Tryd.sizeOf24 rfl
    simp only [nm, seval]
    apply VE.cons
    · exact ev_callp (v := .tuple #[.string (bstr l), .bool true]) [14] rfl (gn rfl) rfl (en_of Tryd.func22 (by kernel_rfl) rfl) (fun ρ S w' hb hR => by have := c_rToNum 14 8 (by decide) hok hR (by simp) rfl; rw [hA] at this; exact this)
    simp only [nm, seval]
    apply VE.cons
    · exact ev_move rfl (gn rfl)
    simp only [nm, seval]
    apply VE.cons
    · first | exact ev_extract rfl (gn rfl) rfl rfl | exact ev_extractt rfl (gn rfl) rfl rfl
    simp only [nm, seval]
    apply VE.cons
    · first | exact ev_extract rfl (gn rfl) rfl rfl | exact ev_extractt rfl (gn rfl) rfl rfl
    simp only [nm, seval]
    apply VE.cons
    · exact ev_assign rfl (gn rfl)
    simp only [nm, seval]
    apply VE.cons
    · exact ev_assign rfl (gn rfl)
    simp only [nm, seval]
    exact VE.nil _
  · kernel_rfl
  change VOk _ _ _ _ _
  refine vseq ?_
  refine vseq ?_
  apply vrp
  · apply VE.cons
    · exact ev_move rfl (gn rfl)
    simp only [nm, seval]
    apply VE.cons
    · exact ev_move rfl (gn rfl)
    simp only [nm, seval]
    apply VE.cons
    · first | exact Ev.skip (fun _ => rfl) | exact ev_move rfl (fun _ => rfl)
    simp only [nm, seval]
    apply VE.cons
    · first | exact Ev.skip (fun _ => rfl) | exact ev_idxb (k := 0) rfl (fun _ => rfl) rfl rfl Tryd.underlying9 (hl0) (hl08)
    simp only [nm, seval]
    apply VE.cons
    · first | exact Ev.skip (fun _ => rfl) | exact ev_geq5 rfl (fun _ => rfl) rfl rfl hh6
    simp only [nm, seval]
    apply VE.cons
    · first | exact ev_pick_t rfl (gn rfl) rfl rfl | exact ev_pick_f rfl (gn rfl) rfl rfl
    simp only [nm, seval]
    exact VE.nil _
  · kernel_rfl
  change VOk _ _ _ _ _
  refine vcond_t rfl ?_
  apply vrp
  · apply VE.cons
    · exact ev_assign rfl (gn rfl)
    simp only [nm, seval]
    exact VE.nil _
  · kernel_rfl
  change VOk _ _ _ _ _
  refine vseq ?_
  apply vrp
  · apply VE.cons
    · exact ev_loada rfl (gn rfl) rfl rfl Tryd.underlying24 rfl Tryd.sizeOf24 rfl
    simp only [nm, seval]
    apply VE.cons
    · exact ev_callp (v := .tuple #[.string (bstr []), .bool false]) [14] rfl (gn rfl) rfl (en_of Tryd.func22 (by kernel_rfl) rfl) (fun ρ S w' hb hR => by have := c_rToNum 14 32 (by decide) hok hR (by simp) rfl; rw [hB] at this; exact this)
    simp only [nm, seval]
    apply VE.cons
    · exact ev_move rfl (gn rfl)
    simp only [nm, seval]
    apply VE.cons
    · first | exact ev_extract rfl (gn rfl) rfl rfl | exact ev_extractt rfl (gn rfl) rfl rfl
    simp only [nm, seval]
    apply VE.cons
    · first | exact ev_extract rfl (gn rfl) rfl rfl | exact ev_extractt rfl (gn rfl) rfl rfl
    simp only [nm, seval]
    apply VE.cons
    · exact ev_assign rfl (gn rfl)
    simp only [nm, seval]
    apply VE.cons
    · exact ev_assign rfl (gn rfl)
    simp only [nm, seval]
    exact VE.nil _
  · kernel_rfl
  change VOk _ _ _ _ _
  refine vseq ?_
  refine vseq ?_
  apply vrp
  · apply VE.cons
    · exact ev_callb rfl (gn rfl) rfl (en_of Tryd.func14 (by kernel_rfl) rfl) (fun w' hb => ders_ok w')
    simp only [nm, seval]
    apply VE.cons
    · exact ev_not rfl (gn rfl) rfl
    simp only [nm, seval]
    apply VE.cons
    · exact ev_move rfl (gn rfl)
    simp only [nm, seval]
    apply VE.cons
    · first | exact Ev.skip (fun _ => rfl) | exact ev_move rfl (fun _ => rfl)
    simp only [nm, seval]
    apply VE.cons
    · first | exact Ev.skip (fun _ => rfl) | exact ev_eql (p := false) rfl (fun _ => rfl) rfl rfl (by decide)
    simp only [nm, seval]
    apply VE.cons
    · first | exact Ev.skip (fun _ => rfl) | exact ev_move rfl (fun _ => rfl)
    simp only [nm, seval]
    apply VE.cons
    · first | exact Ev.skip (fun _ => rfl) | exact ev_bin (c := .bool false) rfl (fun _ => rfl) rfl rfl (fun w => neqB _ _ _ _ w)
    simp only [nm, seval]
    apply VE.cons
    · first | exact ev_pick_t rfl (gn rfl) rfl rfl | exact ev_pick_f rfl (gn rfl) rfl rfl
    simp only [nm, seval]
    apply VE.cons
    · exact ev_move rfl (gn rfl)
    simp only [nm, seval]
    apply VE.cons
    · first | exact Ev.skip (fun _ => rfl) | exact ev_move rfl (fun _ => rfl)
    simp only [nm, seval]
    apply VE.cons
    · first | exact Ev.skip (fun _ => rfl) | exact ev_eql (p := false) rfl (fun _ => rfl) rfl rfl (by decide)
    simp only [nm, seval]
    apply VE.cons
    · first | exact Ev.skip (fun _ => rfl) | exact ev_move rfl (fun _ => rfl)
    simp only [nm, seval]
    apply VE.cons
    · first | exact Ev.skip (fun _ => rfl) | exact ev_bin (c := .bool false) rfl (fun _ => rfl) rfl rfl (fun w => neqB _ _ _ _ w)
    simp only [nm, seval]
    apply VE.cons
    · first | exact ev_pick_t rfl (gn rfl) rfl rfl | exact ev_pick_f rfl (gn rfl) rfl rfl
    simp only [nm, seval]
    apply VE.cons
    · exact ev_move rfl (gn rfl)
    simp only [nm, seval]
    apply VE.cons
    · first | exact Ev.skip (fun _ => rfl) | exact ev_move rfl (fun _ => rfl)
    simp only [nm, seval]
    apply VE.cons
    · first | exact Ev.skip (fun _ => rfl) | exact ev_move rfl (fun _ => rfl)
    simp only [nm, seval]
    apply VE.cons
    · first | exact Ev.skip (fun _ => rfl) | exact ev_move rfl (fun _ => rfl)
    simp only [nm, seval]
    apply VE.cons
    · first | exact Ev.skip (fun _ => rfl) | exact ev_callb rfl (fun _ => rfl) rfl (en_of Tryd.func23 (by kernel_rfl) rfl) (fun w' hb => Eight_ok (beN l) (by omega) w')
    simp only [nm, seval]
    apply VE.cons
    · first | exact Ev.skip (fun _ => rfl) | exact ev_move rfl (fun _ => rfl)
    simp only [nm, seval]
    apply VE.cons
    · first | exact Ev.skip (fun _ => rfl) | exact ev_bin (c := .bool false) rfl (fun _ => rfl) rfl rfl (fun w => str_ne (decide_eq_false (fun h => h hnl)) hn8 hl8 _ _ w)
    simp only [nm, seval]
    apply VE.cons
    · first | exact Ev.skip (fun _ => rfl) | exact ev_pick_t rfl (fun _ => rfl) rfl rfl | exact ev_pick_f rfl (fun _ => rfl) rfl rfl
    simp only [nm, seval]
    apply VE.cons
    · first | exact ev_pick_t rfl (gn rfl) rfl rfl | exact ev_pick_f rfl (gn rfl) rfl rfl
    simp only [nm, seval]
    apply VE.cons
    · exact ev_move rfl (gn rfl)
    simp only [nm, seval]
    apply VE.cons
    · first | exact Ev.skip (fun _ => rfl) | exact ev_move rfl (fun _ => rfl)
    simp only [nm, seval]
    apply VE.cons
    · first | exact Ev.skip (fun _ => rfl) | exact ev_move rfl (fun _ => rfl)
    simp only [nm, seval]
    apply VE.cons
    · first | exact Ev.skip (fun _ => rfl) | exact ev_slicea rfl (fun _ => rfl) rfl Tryd.underlying44 Tryd.sizeOf5
    simp only [nm, seval]
    apply VE.cons
    · first | exact Ev.skip (fun _ => rfl) | exact ev_convb (bs := l') rfl (fun _ => rfl) rfl Tryd.underlying26 Tryd.underlying5 Tryd.underlying9 (rdg_arr (len := 32) (cap := 32) rfl (List.take_of_length_le (by simp [hl32])) (by simp [hl32]) (Nat.le_refl _))
    simp only [nm, seval]
    apply VE.cons
    · first | exact Ev.skip (fun _ => rfl) | exact ev_move rfl (fun _ => rfl)
    simp only [nm, seval]
    apply VE.cons
    · first | exact Ev.skip (fun _ => rfl) | exact ev_bin (c := .bool false) rfl (fun _ => rfl) rfl rfl (fun w => str_ne (decide_eq_false (fun h => h rfl)) hl8' hl8' _ _ w)
    simp only [nm, seval]
    apply VE.cons
    · first | exact Ev.skip (fun _ => rfl) | exact ev_pick_t rfl (fun _ => rfl) rfl rfl | exact ev_pick_f rfl (fun _ => rfl) rfl rfl
    simp only [nm, seval]
    apply VE.cons
    · first | exact ev_pick_t rfl (gn rfl) rfl rfl | exact ev_pick_f rfl (gn rfl) rfl rfl
    simp only [nm, seval]
    apply VE.cons
    · exact ev_move rfl (gn rfl)
    simp only [nm, seval]
    apply VE.cons
    · first | exact Ev.skip (fun _ => rfl) | exact ev_move rfl (fun _ => rfl)
    simp only [nm, seval]
    apply VE.cons
    · first | exact Ev.skip (fun _ => rfl) | exact ev_neq (p := true) rfl (fun _ => rfl) rfl rfl (by decide)
    simp only [nm, seval]
    apply VE.cons
    · first | exact Ev.skip (fun _ => rfl) | exact ev_move rfl (fun _ => rfl)
    simp only [nm, seval]
    apply VE.cons
    · first | exact Ev.skip (fun _ => rfl) | exact ev_move rfl (fun _ => rfl)
    simp only [nm, seval]
    apply VE.cons
    · first | exact Ev.skip (fun _ => rfl) | exact ev_neq (p := false) rfl (fun _ => rfl) rfl rfl (by decide)
    simp only [nm, seval]
    apply VE.cons
    · first | exact Ev.skip (fun _ => rfl) | exact ev_pick_t rfl (fun _ => rfl) rfl rfl | exact ev_pick_f rfl (fun _ => rfl) rfl rfl
    simp only [nm, seval]
    apply VE.cons
    · first | exact ev_pick_t rfl (gn rfl) rfl rfl | exact ev_pick_f rfl (gn rfl) rfl rfl
    simp only [nm, seval]
    apply VE.cons
    · exact ev_move rfl (gn rfl)
    simp only [nm, seval]
    apply VE.cons
    · first | exact Ev.skip (fun _ => rfl) | exact ev_move rfl (fun _ => rfl)
    simp only [nm, seval]
    apply VE.cons
    · first | exact Ev.skip (fun _ => rfl) | exact ev_neq (p := true) rfl (fun _ => rfl) rfl rfl (by decide)
    simp only [nm, seval]
    apply VE.cons
    · first | exact Ev.skip (fun _ => rfl) | exact ev_move rfl (fun _ => rfl)
    simp only [nm, seval]
    apply VE.cons
    · first | exact Ev.skip (fun _ => rfl) | exact ev_move rfl (fun _ => rfl)
    simp only [nm, seval]
    apply VE.cons
    · first | exact Ev.skip (fun _ => rfl) | exact ev_neq (p := false) rfl (fun _ => rfl) rfl rfl (by decide)
    simp only [nm, seval]
    apply VE.cons
    · first | exact Ev.skip (fun _ => rfl) | exact ev_pick_t rfl (fun _ => rfl) rfl rfl | exact ev_pick_f rfl (fun _ => rfl) rfl rfl
    simp only [nm, seval]
    apply VE.cons
    · first | exact ev_pick_t rfl (gn rfl) rfl rfl | exact ev_pick_f rfl (gn rfl) rfl rfl
    simp only [nm, seval]
    exact VE.nil _
  · kernel_rfl
  change VOk _ _ _ _ _
  refine vcond_f rfl ?_
  cases q1 <;> cases q2 <;> cases q3 <;> simp only [Bool.and_true, Bool.and_false, Bool.true_and, Bool.false_and, cond_true, cond_false] at hW2 <;> subst hW2 <;>
  (
    refine vskip ?_
    change VOk _ _ _ _ _
    refine vseq ?_
    refine vseq ?_
    apply vrp
    · apply VE.cons
      · first | exact ev_field rfl (gn rfl) rfl Tryd.underlying24 rfl Tryd.sizeOf3 | exact ev_fieldx rfl (gn rfl) rfl Tryd.underlying24 rfl Tryd.sizeOf3
      simp only [nm, seval]
      apply VE.cons
      · exact ev_load1v (v := .int .i64 (tagT (tm t))) (rd := [14]) rfl (gn rfl) rfl rfl Tryd.underlying3 rfl rfl (fun ρ S w' hR => by obtain ⟨c, h1, h2⟩ := datR_get (id := 14) hR (by simp) rfl; exact cell_tag h1 h2)
      simp only [nm, seval]
      apply VE.cons
      · exact ev_eql rfl (gn rfl) rfl rfl h_q1
      simp only [nm, seval]
      apply VE.cons
      · exact ev_move rfl (gn rfl)
      simp only [nm, seval]
      apply VE.cons
      · first | exact Ev.skip (fun _ => rfl) | exact ev_loada rfl (fun _ => rfl) rfl rfl Tryd.underlying24 rfl Tryd.sizeOf24 rfl
      simp only [nm, seval]
      apply VE.cons
      · first | exact Ev.skip (fun _ => rfl) | exact ev_callp (v := .bool true) [14] rfl (fun _ => rfl) rfl (en_of Tryd.func18 (by kernel_rfl) rfl) (fun ρ S w' hb hR => by have := c_rright 14 hok hR (by simp) rfl; rw [h_q2] at this; exact this) | exact ev_callp (v := .bool false) [14] rfl (fun _ => rfl) rfl (en_of Tryd.func18 (by kernel_rfl) rfl) (fun ρ S w' hb hR => by have := c_rright 14 hok hR (by simp) rfl; rw [h_q2] at this; exact this)
      simp only [nm, seval]
      apply VE.cons
      · first | exact ev_pick_t rfl (gn rfl) rfl rfl | exact ev_pick_f rfl (gn rfl) rfl rfl
      simp only [nm, seval]
      apply VE.cons
      · exact ev_move rfl (gn rfl)
      simp only [nm, seval]
      apply VE.cons
      · first | exact Ev.skip (fun _ => rfl) | exact ev_field rfl (fun _ => rfl) rfl Tryd.underlying24 rfl Tryd.sizeOf9 | exact ev_fieldx rfl (fun _ => rfl) rfl Tryd.underlying24 rfl Tryd.sizeOf9
      simp only [nm, seval]
      apply VE.cons
      · first | exact Ev.skip (fun _ => rfl) | exact ev_load1v (v := .string (bstr (bodyOfT (tm t)))) (rd := [14]) rfl (fun _ => rfl) rfl rfl Tryd.underlying9 rfl rfl (fun ρ S w' hR => by obtain ⟨c, h1, h2⟩ := datR_get (id := 14) hR (by simp) rfl; exact cell_body h1 h2)
      simp only [nm, seval]
      apply VE.cons
      · first | exact Ev.skip (fun _ => rfl) | exact ev_lenb rfl (fun _ => rfl) rfl Tryd.underlying9
      simp only [nm, seval]
      apply VE.cons
      · first | exact Ev.skip (fun _ => rfl) | exact ev_leq rfl (fun _ => rfl) rfl rfl h_q3'
      simp only [nm, seval]
      apply VE.cons
      · first | exact ev_pick_t rfl (gn rfl) rfl rfl | exact ev_pick_f rfl (gn rfl) rfl rfl
      simp only [nm, seval]
      exact VE.nil _
    · kernel_rfl
    change VOk _ _ _ _ _
    first
    | (
        refine vcond_t rfl ?_
        refine vseq ?_
        apply vrp
        · apply VE.cons
          · exact ev_move rfl (gn rfl)
          simp only [nm, seval]
          apply VE.cons
          · exact ev_eql (p := true) rfl (gn rfl) rfl rfl (by decide)
          simp only [nm, seval]
          apply VE.cons
          · exact ev_move rfl (gn rfl)
          simp only [nm, seval]
          apply VE.cons
          · first | exact Ev.skip (fun _ => rfl) | exact ev_move rfl (fun _ => rfl)
          simp only [nm, seval]
          apply VE.cons
          · first | exact Ev.skip (fun _ => rfl) | exact ev_field rfl (fun _ => rfl) rfl Tryd.underlying24 rfl Tryd.sizeOf9 | exact ev_fieldx rfl (fun _ => rfl) rfl Tryd.underlying24 rfl Tryd.sizeOf9
          simp only [nm, seval]
          apply VE.cons
          · first | exact Ev.skip (fun _ => rfl) | exact ev_load1v (v := .string (bstr (bodyOfT (tm t)))) (rd := [14]) rfl (fun _ => rfl) rfl rfl Tryd.underlying9 rfl rfl (fun ρ S w' hR => by obtain ⟨c, h1, h2⟩ := datR_get (id := 14) hR (by simp) rfl; exact cell_body h1 h2)
          simp only [nm, seval]
          apply VE.cons
          · first | exact Ev.skip (fun _ => rfl) | exact ev_bin (c := .bool true) rfl (fun _ => rfl) rfl rfl (fun w => str_is (decide_eq_true rfl) hbs.1 hbs.1 _ _ w)
          simp only [nm, seval]
          apply VE.cons
          · first | exact ev_pick_t rfl (gn rfl) rfl rfl | exact ev_pick_f rfl (gn rfl) rfl rfl
          simp only [nm, seval]
          apply VE.cons
          · exact ev_assign rfl (gn rfl)
          simp only [nm, seval]
          exact VE.nil _
        · kernel_rfl
        change VOk _ _ _ _ _
        refine vret ?_
        refine post_ret (res1 Tryd.results5 (rv_tmp rfl)) ?_
        intro ρ w' hr
        exact ⟨rfl, hr.1⟩
      )
    | (
        refine vcond_f rfl ?_
        refine vskip ?_
        change VOk _ _ _ _ _
        refine vseq ?_
        apply vrp
        · apply VE.cons
          · exact ev_move rfl (gn rfl)
          simp only [nm, seval]
          apply VE.cons
          · exact ev_eql (p := true) rfl (gn rfl) rfl rfl (by decide)
          simp only [nm, seval]
          apply VE.cons
          · exact ev_move rfl (gn rfl)
          simp only [nm, seval]
          apply VE.cons
          · first | exact Ev.skip (fun _ => rfl) | exact ev_move rfl (fun _ => rfl)
          simp only [nm, seval]
          apply VE.cons
          · first | exact Ev.skip (fun _ => rfl) | exact ev_bin (c := .bool true) rfl (fun _ => rfl) rfl rfl (fun w => str_is (a := []) (b := []) (decide_eq_true rfl) (fun x hx => by cases hx) (fun x hx => by cases hx) _ _ w)
          simp only [nm, seval]
          apply VE.cons
          · first | exact ev_pick_t rfl (gn rfl) rfl rfl | exact ev_pick_f rfl (gn rfl) rfl rfl
          simp only [nm, seval]
          apply VE.cons
          · exact ev_assign rfl (gn rfl)
          simp only [nm, seval]
          exact VE.nil _
        · kernel_rfl
        change VOk _ _ _ _ _
        refine vret ?_
        refine post_ret (res1 Tryd.results5 (rv_tmp rfl)) ?_
        intro ρ w' hr
        exact ⟨rfl, hr.1⟩
      )
  )
theorem derTo_bs {t : Tr} {x0 x1 x2 : Value} {S : Nat → Prop} (w : World) (hok0 : t.okL) (hx : RN w S t [x0, x1, x2]) {l : List Nat} (hv8 : valT (tm t) 8 = some l) (hs : ¬ beN l < 4611686018427387904) (hX : tnN (tm t) = (0, 2)) (hA : valT (tm t) 8 = some l) {l' : List Nat} (hv32 : valT (tm t) 32 = some l') (hY : tbN (tm t) = (l', 0)) (hB : valT (tm t) 32 = some l') : Calls Tryd.prog 5 #[.agg #[x0, x1, x2]] w fun e w' => e = .returned (.bool true) ∧ Bw w w' := by
  have hok := tm_ok hok0
  have hbs : (∀ x ∈ bodyOfT (tm t), x < 256) ∧ (bodyOfT (tm t)).length ≤ 1048576 := by
    cases h : tm t with
    | mk tg b ks => rw [h] at hok; simp only [Tr.ok] at hok; exact ⟨hok.1, hok.2.1⟩
  have htw : wordT (tm t) = (decide (tagT (tm t) = 12) && (rightT (tm t) 1 && decide ((bodyOfT (tm t)).length ≤ 64))) := by cases tm t; rfl
  obtain ⟨q1, h_q1⟩ : ∃ p, decide (tagT (tm t) = 12) = p := ⟨_, rfl⟩
  obtain ⟨q2, h_q2⟩ : ∃ p, rightT (tm t) 1 = p := ⟨_, rfl⟩
  obtain ⟨q3, h_q3⟩ : ∃ p, decide ((bodyOfT (tm t)).length ≤ 64) = p := ⟨_, rfl⟩
  have h_q3' : decide (((bodyOfT (tm t)).length : Int) ≤ ((64 : Nat) : Int)) = q3 := by rw [← h_q3]; exact decide_eq_decide.2 (by omega)
  rw [h_q1, h_q2, h_q3] at htw
  obtain ⟨W, hW⟩ : ∃ W, twN (tm t) = W := ⟨_, rfl⟩
  have hW2 : W = bif (q1 && (q2 && q3)) then (bodyOfT (tm t), 0) else ([], 2) := by rw [← hW, ← htw]; rfl
  have hl8 := valT_lt hok hv8
  have hll := valT_len hv8
  have hl0 := get0 (l := l) (by omega)
  have hl08 : l.headD 0 < 256 := hl8 _ (List.mem_of_getElem? hl0)
  have hh6 : decide (((l.headD 0 : Nat) : Int) ≥ ((64 : Nat) : Int)) = true := by rw [nat_ge, beN_head hl8 hll]; simp only [decide_eq_false hs, Bool.not_true, Bool.not_false]
  have hl8' := valT_lt hok hv32
  have hl32 := valT_len hv32
  go_enter Tryd.func5, Tryd.ntmps5
  refine ve_go ?_
  simp only [List.map_cons, List.map_nil]
  refine vseq ?_
  apply vrp
  · apply VE.cons
    · exact ev_box rfl rfl (gn rfl) rfl
    simp only [nm, seval]
    apply VE.cons
    · exact ev_assign rfl (gn rfl)
    simp only [nm, seval]
    exact VE.nil _
  · kernel_rfl
  change VOk _ _ _ _ _
  refine vseq ?_
  apply vrp
  · apply VE.cons
    · exact ev_loada rfl (gn rfl) rfl rfl Tryd.underlying24 rfl Tryd.sizeOf24 rfl
    simp only [nm, seval]
    apply VE.cons
    · exact ev_calld (D := datR (tm t)) [] rfl rfl (gn rfl) rfl (en_of Tryd.func10 (by kernel_rfl) rfl) (fun ρ S w' hb _ => tame_ok w' hok0 (RN_bw hb hx))
    simp only [nm, seval]
    apply VE.cons
    · exact ev_storeR (vl := [.fn (cellV 0) (.d 14), .fn (cellV 1) (.d 14), .fn (cellV 2) (.d 14)]) [1, 14] rfl (gn rfl) rfl rfl rfl Tryd.sizeOf24 rfl (fun ρ S w' _ hR => by obtain ⟨c, h1, h2⟩ := datR_get (id := 14) hR (by simp) rfl; have hf := fn3 h1 (RN_len h2); exact ⟨hf.1, hf.2 ▸ RN_one h2⟩) rfl (by simp)
    simp only [nm, seval]
    exact VE.nil _
  · kernel_rfl
  change VOk _ _ _ _ _
  refine vseq ?_
  apply vrp
  · apply VE.cons
    · exact ev_loada rfl (gn rfl) rfl rfl Tryd.underlying24 rfl Tryd.sizeOf24 rfl
    simp only [nm, seval]
    apply VE.cons
    · exact ev_calld (D := datN (tm t)) [14] rfl rfl (gn rfl) rfl (en_of Tryd.func11 (by kernel_rfl) rfl) (fun ρ S w' hb hR => c_to 14 hok hR (by simp) rfl)
    simp only [nm, seval]
    apply VE.cons
    · exact ev_callp (v := .tuple #[.int .i64 0, .int .i64 2]) [17] rfl (gn rfl) rfl (en_of Tryd.func19 (by kernel_rfl) rfl) (fun ρ S w' hb hR => by have := c_toNum 17 hok hR (by simp) rfl; rw [hX] at this; exact this)
    simp only [nm, seval]
    apply VE.cons
    · exact ev_move rfl (gn rfl)
    simp only [nm, seval]
    apply VE.cons
    · first | exact ev_extract rfl (gn rfl) rfl rfl | exact ev_extractt rfl (gn rfl) rfl rfl
    simp only [nm, seval]
    apply VE.cons
    · first | exact ev_extract rfl (gn rfl) rfl rfl | exact ev_extractt rfl (gn rfl) rfl rfl
    simp only [nm, seval]
    apply VE.cons
    · exact ev_assign rfl (gn rfl)
    simp only [nm, seval]
    apply VE.cons
    · exact ev_assign rfl (gn rfl)
    simp only [nm, seval]
    exact VE.nil _
  · kernel_rfl
  change VOk _ _ _ _ _
  refine vseq ?_
  apply vrp
  · apply VE.cons
    · exact ev_loada rfl (gn rfl) rfl rfl Tryd.underlying24 rfl Tryd.sizeOf24 rfl
    simp only [nm, seval]
    apply VE.cons
    · exact ev_calld (D := datN (tm t)) [14] rfl rfl (gn rfl) rfl (en_of Tryd.func11 (by kernel_rfl) rfl) (fun ρ S w' hb hR => c_to 14 hok hR (by simp) rfl)
    simp only [nm, seval]
    apply VE.cons
    · exact ev_callp (v := .tuple #[.agg ((l').map b8).toArray, .int .i64 0]) [23] rfl (gn rfl) rfl (en_of Tryd.func20 (by kernel_rfl) rfl) (fun ρ S w' hb hR => by have := c_toBig 23 hok hR (by simp) rfl; rw [hY] at this; exact this)
    simp only [nm, seval]
    apply VE.cons
    · exact ev_move rfl (gn rfl)
    simp only [nm, seval]
    apply VE.cons
    · first | exact ev_extract rfl (gn rfl) rfl rfl | exact ev_extractt rfl (gn rfl) rfl rfl
    simp only [nm, seval]
    apply VE.cons
    · first | exact ev_extract rfl (gn rfl) rfl rfl | exact ev_extractt rfl (gn rfl) rfl rfl
    simp only [nm, seval]
    apply VE.cons
    · exact ev_allocr (l := z32.map b8) rfl rfl (gn rfl) Tryd.zeroValue44 rfl
    simp only [nm, seval]
    apply VE.cons
    · exact ev_storer (l' := (l').map b8) rfl (gn rfl) rfl rfl rfl Tryd.sizeOf44 (by simp [Value.cells, hl32]) (by simp [z32_len]) (by show ((l').map b8).toArray.toList.all _ = true; exact b8_all _) (by simp [Value.cells, z32_len])
    simp only [nm, seval]
    apply VE.cons
    · exact ev_assign rfl (gn rfl)
    simp only [nm, seval]
    exact VE.nil _
  · kernel_rfl
  change VOk _ _ _ _ _
  refine vseq ?_
  apply vrp
  · apply VE.cons
    · exact ev_loada rfl (gn rfl) rfl rfl Tryd.underlying24 rfl Tryd.sizeOf24 rfl
    simp only [nm, seval]
    apply VE.cons
    · exact ev_calld (D := datN (tm t)) [14] rfl rfl (gn rfl) rfl (en_of Tryd.func11 (by kernel_rfl) rfl) (fun ρ S w' hb hR => c_to 14 hok hR (by simp) rfl)
    simp only [nm, seval]
    apply VE.cons
    · exact ev_callp (v := .tuple #[.string (bstr W.1), .int .i64 W.2]) [29] rfl (gn rfl) rfl (en_of Tryd.func21 (by kernel_rfl) rfl) (fun ρ S w' hb hR => by have := c_toWord 29 hok hR (by simp) rfl; rw [hW] at this; exact this)
    simp only [nm, seval]
    apply VE.cons
    · exact ev_move rfl (gn rfl)
    simp only [nm, seval]
    apply VE.cons
    · first | exact ev_extract rfl (gn rfl) rfl rfl | exact ev_extractt rfl (gn rfl) rfl rfl
    simp only [nm, seval]
    apply VE.cons
    · first | exact ev_extract rfl (gn rfl) rfl rfl | exact ev_extractt rfl (gn rfl) rfl rfl
    simp only [nm, seval]
    apply VE.cons
    · exact ev_assign rfl (gn rfl)
    simp only [nm, seval]
    apply VE.cons
    · exact ev_assign rfl (gn rfl)
    simp only [nm, seval]
    exact VE.nil _
  · kernel_rfl
  change VOk _ _ _ _ _
  refine vseq ?_
  apply vrp
  · apply VE.cons
    · exact ev_loada rfl (gn rfl) rfl rfl Tryd.underlying24 rfl Tryd.sizeOf24 rfl
    simp only [nm, seval]
    apply VE.cons
    · exact ev_callp (v := .tuple #[.string (bstr l), .bool true]) [14] rfl (gn rfl) rfl (en_of Tryd.func22 (by kernel_rfl) rfl) (fun ρ S w' hb hR => by have := c_rToNum 14 8 (by decide) hok hR (by simp) rfl; rw [hA] at this; exact this)
    simp only [nm, seval]
    apply VE.cons
    · exact ev_move rfl (gn rfl)
    simp only [nm, seval]
    apply VE.cons
    · first | exact ev_extract rfl (gn rfl) rfl rfl | exact ev_extractt rfl (gn rfl) rfl rfl
    simp only [nm, seval]
    apply VE.cons
    · first | exact ev_extract rfl (gn rfl) rfl rfl | exact ev_extractt rfl (gn rfl) rfl rfl
    simp only [nm, seval]
    apply VE.cons
    · exact ev_assign rfl (gn rfl)
    simp only [nm, seval]
    apply VE.cons
    · exact ev_assign rfl (gn rfl)
    simp only [nm, seval]
    exact VE.nil _
  · kernel_rfl
  change VOk _ _ _ _ _
  refine vseq ?_
  refine vseq ?_
  apply vrp
  · apply VE.cons
    · exact ev_move rfl (gn rfl)
    simp only [nm, seval]
    apply VE.cons
    · exact ev_move rfl (gn rfl)
    simp only [nm, seval]
    apply VE.cons
    · first | exact Ev.skip (fun _ => rfl) | exact ev_move rfl (fun _ => rfl)
    simp only [nm, seval]
    apply VE.cons
    · first | exact Ev.skip (fun _ => rfl) | exact ev_idxb (k := 0) rfl (fun _ => rfl) rfl rfl Tryd.underlying9 (hl0) (hl08)
    simp only [nm, seval]
    apply VE.cons
    · first | exact Ev.skip (fun _ => rfl) | exact ev_geq5 rfl (fun _ => rfl) rfl rfl hh6
    simp only [nm, seval]
    apply VE.cons
    · first | exact ev_pick_t rfl (gn rfl) rfl rfl | exact ev_pick_f rfl (gn rfl) rfl rfl
    simp only [nm, seval]
    exact VE.nil _
  · kernel_rfl
  change VOk _ _ _ _ _
  refine vcond_t rfl ?_
  apply vrp
  · apply VE.cons
    · exact ev_assign rfl (gn rfl)
    simp only [nm, seval]
    exact VE.nil _
  · kernel_rfl
  change VOk _ _ _ _ _
  refine vseq ?_
  apply vrp
  · apply VE.cons
    · exact ev_loada rfl (gn rfl) rfl rfl Tryd.underlying24 rfl Tryd.sizeOf24 rfl
    simp only [nm, seval]
    apply VE.cons
    · exact ev_callp (v := .tuple #[.string (bstr l'), .bool true]) [14] rfl (gn rfl) rfl (en_of Tryd.func22 (by kernel_rfl) rfl) (fun ρ S w' hb hR => by have := c_rToNum 14 32 (by decide) hok hR (by simp) rfl; rw [hB] at this; exact this)
    simp only [nm, seval]
    apply VE.cons
    · exact ev_move rfl (gn rfl)
    simp only [nm, seval]
    apply VE.cons
    · first | exact ev_extract rfl (gn rfl) rfl rfl | exact ev_extractt rfl (gn rfl) rfl rfl
    simp only [nm, seval]
    apply VE.cons
    · first | exact ev_extract rfl (gn rfl) rfl rfl | exact ev_extractt rfl (gn rfl) rfl rfl
    simp only [nm, seval]
    apply VE.cons
    · exact ev_assign rfl (gn rfl)
    simp only [nm, seval]
    apply VE.cons
    · exact ev_assign rfl (gn rfl)
    simp only [nm, seval]
    exact VE.nil _
  · kernel_rfl
  change VOk _ _ _ _ _
  refine vseq ?_
  refine vseq ?_
  apply vrp
  · apply VE.cons
    · exact ev_callb rfl (gn rfl) rfl (en_of Tryd.func14 (by kernel_rfl) rfl) (fun w' hb => ders_ok w')
    simp only [nm, seval]
    apply VE.cons
    · exact ev_not rfl (gn rfl) rfl
    simp only [nm, seval]
    apply VE.cons
    · exact ev_move rfl (gn rfl)
    simp only [nm, seval]
    apply VE.cons
    · first | exact Ev.skip (fun _ => rfl) | exact ev_move rfl (fun _ => rfl)
    simp only [nm, seval]
    apply VE.cons
    · first | exact Ev.skip (fun _ => rfl) | exact ev_eql (p := false) rfl (fun _ => rfl) rfl rfl (by decide)
    simp only [nm, seval]
    apply VE.cons
    · first | exact Ev.skip (fun _ => rfl) | exact ev_move rfl (fun _ => rfl)
    simp only [nm, seval]
    apply VE.cons
    · first | exact Ev.skip (fun _ => rfl) | exact ev_bin (c := .bool false) rfl (fun _ => rfl) rfl rfl (fun w => neqB _ _ _ _ w)
    simp only [nm, seval]
    apply VE.cons
    · first | exact ev_pick_t rfl (gn rfl) rfl rfl | exact ev_pick_f rfl (gn rfl) rfl rfl
    simp only [nm, seval]
    apply VE.cons
    · exact ev_move rfl (gn rfl)
    simp only [nm, seval]
    apply VE.cons
    · first | exact Ev.skip (fun _ => rfl) | exact ev_move rfl (fun _ => rfl)
    simp only [nm, seval]
    apply VE.cons
    · first | exact Ev.skip (fun _ => rfl) | exact ev_eql (p := true) rfl (fun _ => rfl) rfl rfl (by decide)
    simp only [nm, seval]
    apply VE.cons
    · first | exact Ev.skip (fun _ => rfl) | exact ev_move rfl (fun _ => rfl)
    simp only [nm, seval]
    apply VE.cons
    · first | exact Ev.skip (fun _ => rfl) | exact ev_bin (c := .bool false) rfl (fun _ => rfl) rfl rfl (fun w => neqB _ _ _ _ w)
    simp only [nm, seval]
    apply VE.cons
    · first | exact ev_pick_t rfl (gn rfl) rfl rfl | exact ev_pick_f rfl (gn rfl) rfl rfl
    simp only [nm, seval]
    apply VE.cons
    · exact ev_move rfl (gn rfl)
    simp only [nm, seval]
    apply VE.cons
    · first | exact Ev.skip (fun _ => rfl) | exact ev_move rfl (fun _ => rfl)
    simp only [nm, seval]
    apply VE.cons
    · first | exact Ev.skip (fun _ => rfl) | exact ev_move rfl (fun _ => rfl)
    simp only [nm, seval]
    apply VE.cons
    · first | exact Ev.skip (fun _ => rfl) | exact ev_move rfl (fun _ => rfl)
    simp only [nm, seval]
    apply VE.cons
    · first | exact Ev.skip (fun _ => rfl) | exact ev_callb rfl (fun _ => rfl) rfl (en_of Tryd.func23 (by kernel_rfl) rfl) (fun w' hb => Eight_ok (beN l) (by omega) w')
    simp only [nm, seval]
    apply VE.cons
    · first | exact Ev.skip (fun _ => rfl) | exact ev_move rfl (fun _ => rfl)
    simp only [nm, seval]
    apply VE.cons
    · first | exact Ev.skip (fun _ => rfl) | exact ev_bin (c := .bool false) rfl (fun _ => rfl) rfl rfl (fun w => str_ne (decide_eq_false (fun h => h hnl)) hn8 hl8 _ _ w)
    simp only [nm, seval]
    apply VE.cons
    · first | exact Ev.skip (fun _ => rfl) | exact ev_pick_t rfl (fun _ => rfl) rfl rfl | exact ev_pick_f rfl (fun _ => rfl) rfl rfl
    simp only [nm, seval]
    apply VE.cons
    · first | exact ev_pick_t rfl (gn rfl) rfl rfl | exact ev_pick_f rfl (gn rfl) rfl rfl
    simp only [nm, seval]
    apply VE.cons
    · exact ev_move rfl (gn rfl)
    simp only [nm, seval]
    apply VE.cons
    · first | exact Ev.skip (fun _ => rfl) | exact ev_move rfl (fun _ => rfl)
    simp only [nm, seval]
    apply VE.cons
    · first | exact Ev.skip (fun _ => rfl) | exact ev_move rfl (fun _ => rfl)
    simp only [nm, seval]
    apply VE.cons
    · first | exact Ev.skip (fun _ => rfl) | exact ev_slicea rfl (fun _ => rfl) rfl Tryd.underlying44 Tryd.sizeOf5
    simp only [nm, seval]
    apply VE.cons
    · first | exact Ev.skip (fun _ => rfl) | exact ev_convb (bs := l') rfl (fun _ => rfl) rfl Tryd.underlying26 Tryd.underlying5 Tryd.underlying9 (rdg_arr (len := 32) (cap := 32) rfl (List.take_of_length_le (by simp [hl32])) (by simp [hl32]) (Nat.le_refl _))
    simp only [nm, seval]
    apply VE.cons
    · first | exact Ev.skip (fun _ => rfl) | exact ev_move rfl (fun _ => rfl)
    simp only [nm, seval]
    apply VE.cons
    · first | exact Ev.skip (fun _ => rfl) | exact ev_bin (c := .bool false) rfl (fun _ => rfl) rfl rfl (fun w => str_ne (decide_eq_false (fun h => h rfl)) hl8' hl8' _ _ w)
    simp only [nm, seval]
    apply VE.cons
    · first | exact Ev.skip (fun _ => rfl) | exact ev_pick_t rfl (fun _ => rfl) rfl rfl | exact ev_pick_f rfl (fun _ => rfl) rfl rfl
    simp only [nm, seval]
    apply VE.cons
    · first | exact ev_pick_t rfl (gn rfl) rfl rfl | exact ev_pick_f rfl (gn rfl) rfl rfl
    simp only [nm, seval]
    apply VE.cons
    · exact ev_move rfl (gn rfl)
    simp only [nm, seval]
    apply VE.cons
    · first | exact Ev.skip (fun _ => rfl) | exact ev_move rfl (fun _ => rfl)
    simp only [nm, seval]
    apply VE.cons
    · first | exact Ev.skip (fun _ => rfl) | exact ev_neq (p := true) rfl (fun _ => rfl) rfl rfl (by decide)
    simp only [nm, seval]
    apply VE.cons
    · first | exact Ev.skip (fun _ => rfl) | exact ev_move rfl (fun _ => rfl)
    simp only [nm, seval]
    apply VE.cons
    · first | exact Ev.skip (fun _ => rfl) | exact ev_move rfl (fun _ => rfl)
    simp only [nm, seval]
    apply VE.cons
    · first | exact Ev.skip (fun _ => rfl) | exact ev_neq (p := false) rfl (fun _ => rfl) rfl rfl (by decide)
    simp only [nm, seval]
    apply VE.cons
    · first | exact Ev.skip (fun _ => rfl) | exact ev_pick_t rfl (fun _ => rfl) rfl rfl | exact ev_pick_f rfl (fun _ => rfl) rfl rfl
    simp only [nm, seval]
    apply VE.cons
    · first | exact ev_pick_t rfl (gn rfl) rfl rfl | exact ev_pick_f rfl (gn rfl) rfl rfl
    simp only [nm, seval]
    apply VE.cons
    · exact ev_move rfl (gn rfl)
    simp only [nm, seval]
    apply VE.cons
    · first | exact Ev.skip (fun _ => rfl) | exact ev_move rfl (fun _ => rfl)
    simp only [nm, seval]
    apply VE.cons
    · first | exact Ev.skip (fun _ => rfl) | exact ev_neq (p := false) rfl (fun _ => rfl) rfl rfl (by decide)
    simp only [nm, seval]
    apply VE.cons
    · first | exact Ev.skip (fun _ => rfl) | exact ev_move rfl (fun _ => rfl)
    simp only [nm, seval]
    apply VE.cons
    · first | exact Ev.skip (fun _ => rfl) | exact ev_move rfl (fun _ => rfl)
    simp only [nm, seval]
    apply VE.cons
    · first | exact Ev.skip (fun _ => rfl) | exact ev_neq (p := false) rfl (fun _ => rfl) rfl rfl (by decide)
    simp only [nm, seval]
    apply VE.cons
    · first | exact Ev.skip (fun _ => rfl) | exact ev_pick_t rfl (fun _ => rfl) rfl rfl | exact ev_pick_f rfl (fun _ => rfl) rfl rfl
    simp only [nm, seval]
    apply VE.cons
    · first | exact ev_pick_t rfl (gn rfl) rfl rfl | exact ev_pick_f rfl (gn rfl) rfl rfl
    simp only [nm, seval]
    exact VE.nil _
  · kernel_rfl
  change VOk _ _ _ _ _
  refine vcond_f rfl ?_
  cases q1 <;> cases q2 <;> cases q3 <;> simp only [Bool.and_true, Bool.and_false, Bool.true_and, Bool.false_and, cond_true, cond_false] at hW2 <;> subst hW2 <;>
  (
    refine vskip ?_
    change VOk _ _ _ _ _
    refine vseq ?_
    refine vseq ?_
    apply vrp
    · apply VE.cons
      · first | exact ev_field rfl (gn rfl) rfl Tryd.underlying24 rfl Tryd.sizeOf3 | exact ev_fieldx rfl (gn rfl) rfl Tryd.underlying24 rfl Tryd.sizeOf3
      simp only [nm, seval]
      apply VE.cons
      · exact ev_load1v (v := .int .i64 (tagT (tm t))) (rd := [14]) rfl (gn rfl) rfl rfl Tryd.underlying3 rfl rfl (fun ρ S w' hR => by obtain ⟨c, h1, h2⟩ := datR_get (id := 14) hR (by simp) rfl; exact cell_tag h1 h2)
      simp only [nm, seval]
      apply VE.cons
      · exact ev_eql rfl (gn rfl) rfl rfl h_q1
      simp only [nm, seval]
      apply VE.cons
      · exact ev_move rfl (gn rfl)
      simp only [nm, seval]
      apply VE.cons
      · first | exact Ev.skip (fun _ => rfl) | exact ev_loada rfl (fun _ => rfl) rfl rfl Tryd.underlying24 rfl Tryd.sizeOf24 rfl
      simp only [nm, seval]
      apply VE.cons
      · first | exact Ev.skip (fun _ => rfl) | exact ev_callp (v := .bool true) [14] rfl (fun _ => rfl) rfl (en_of Tryd.func18 (by kernel_rfl) rfl) (fun ρ S w' hb hR => by have := c_rright 14 hok hR (by simp) rfl; rw [h_q2] at this; exact this) | exact ev_callp (v := .bool false) [14] rfl (fun _ => rfl) rfl (en_of Tryd.func18 (by kernel_rfl) rfl) (fun ρ S w' hb hR => by have := c_rright 14 hok hR (by simp) rfl; rw [h_q2] at this; exact this)
      simp only [nm, seval]
      apply VE.cons
      · first | exact ev_pick_t rfl (gn rfl) rfl rfl | exact ev_pick_f rfl (gn rfl) rfl rfl
      simp only [nm, seval]
      apply VE.cons
      · exact ev_move rfl (gn rfl)
      simp only [nm, seval]
      apply VE.cons
      · first | exact Ev.skip (fun _ => rfl) | exact ev_field rfl (fun _ => rfl) rfl Tryd.underlying24 rfl Tryd.sizeOf9 | exact ev_fieldx rfl (fun _ => rfl) rfl Tryd.underlying24 rfl Tryd.sizeOf9
      simp only [nm, seval]
      apply VE.cons
      · first | exact Ev.skip (fun _ => rfl) | exact ev_load1v (v := .string (bstr (bodyOfT (tm t)))) (rd := [14]) rfl (fun _ => rfl) rfl rfl Tryd.underlying9 rfl rfl (fun ρ S w' hR => by obtain ⟨c, h1, h2⟩ := datR_get (id := 14) hR (by simp) rfl; exact cell_body h1 h2)
      simp only [nm, seval]
      apply VE.cons
      · first | exact Ev.skip (fun _ => rfl) | exact ev_lenb rfl (fun _ => rfl) rfl Tryd.underlying9
      simp only [nm, seval]
      apply VE.cons
      · first | exact Ev.skip (fun _ => rfl) | exact ev_leq rfl (fun _ => rfl) rfl rfl h_q3'
      simp only [nm, seval]
      apply VE.cons
      · first | exact ev_pick_t rfl (gn rfl) rfl rfl | exact ev_pick_f rfl (gn rfl) rfl rfl
      simp only [nm, seval]
      exact VE.nil _
    · kernel_rfl
    change VOk _ _ _ _ _
    first
    | (
        refine vcond_t rfl ?_
        refine vseq ?_
        apply vrp
        · apply VE.cons
          · exact ev_move rfl (gn rfl)
          simp only [nm, seval]
          apply VE.cons
          · exact ev_eql (p := true) rfl (gn rfl) rfl rfl (by decide)
          simp only [nm, seval]
          apply VE.cons
          · exact ev_move rfl (gn rfl)
          simp only [nm, seval]
          apply VE.cons
          · first | exact Ev.skip (fun _ => rfl) | exact ev_move rfl (fun _ => rfl)
          simp only [nm, seval]
          apply VE.cons
          · first | exact Ev.skip (fun _ => rfl) | exact ev_field rfl (fun _ => rfl) rfl Tryd.underlying24 rfl Tryd.sizeOf9 | exact ev_fieldx rfl (fun _ => rfl) rfl Tryd.underlying24 rfl Tryd.sizeOf9
          simp only [nm, seval]
          apply VE.cons
          · first | exact Ev.skip (fun _ => rfl) | exact ev_load1v (v := .string (bstr (bodyOfT (tm t)))) (rd := [14]) rfl (fun _ => rfl) rfl rfl Tryd.underlying9 rfl rfl (fun ρ S w' hR => by obtain ⟨c, h1, h2⟩ := datR_get (id := 14) hR (by simp) rfl; exact cell_body h1 h2)
          simp only [nm, seval]
          apply VE.cons
          · first | exact Ev.skip (fun _ => rfl) | exact ev_bin (c := .bool true) rfl (fun _ => rfl) rfl rfl (fun w => str_is (decide_eq_true rfl) hbs.1 hbs.1 _ _ w)
          simp only [nm, seval]
          apply VE.cons
          · first | exact ev_pick_t rfl (gn rfl) rfl rfl | exact ev_pick_f rfl (gn rfl) rfl rfl
          simp only [nm, seval]
          apply VE.cons
          · exact ev_assign rfl (gn rfl)
          simp only [nm, seval]
          exact VE.nil _
        · kernel_rfl
        change VOk _ _ _ _ _
        refine vret ?_
        refine post_ret (res1 Tryd.results5 (rv_tmp rfl)) ?_
        intro ρ w' hr
        exact ⟨rfl, hr.1⟩
      )
    | (
        refine vcond_f rfl ?_
        refine vskip ?_
        change VOk _ _ _ _ _
        refine vseq ?_
        apply vrp
        · apply VE.cons
          · exact ev_move rfl (gn rfl)
          simp only [nm, seval]
          apply VE.cons
          · exact ev_eql (p := true) rfl (gn rfl) rfl rfl (by decide)
          simp only [nm, seval]
          apply VE.cons
          · exact ev_move rfl (gn rfl)
          simp only [nm, seval]
          apply VE.cons
          · first | exact Ev.skip (fun _ => rfl) | exact ev_move rfl (fun _ => rfl)
          simp only [nm, seval]
          apply VE.cons
          · first | exact Ev.skip (fun _ => rfl) | exact ev_bin (c := .bool true) rfl (fun _ => rfl) rfl rfl (fun w => str_is (a := []) (b := []) (decide_eq_true rfl) (fun x hx => by cases hx) (fun x hx => by cases hx) _ _ w)
          simp only [nm, seval]
          apply VE.cons
          · first | exact ev_pick_t rfl (gn rfl) rfl rfl | exact ev_pick_f rfl (gn rfl) rfl rfl
          simp only [nm, seval]
          apply VE.cons
          · exact ev_assign rfl (gn rfl)
          simp only [nm, seval]
          exact VE.nil _
        · kernel_rfl
        change VOk _ _ _ _ _
        refine vret ?_
        refine post_ret (res1 Tryd.results5 (rv_tmp rfl)) ?_
        intro ρ w' hr
        exact ⟨rfl, hr.1⟩
      )
  )
theorem derTo_sn {t : Tr} {x0 x1 x2 : Value} {S : Nat → Prop} (w : World) (hok0 : t.okL) (hx : RN w S t [x0, x1, x2]) {l : List Nat} (hv8 : valT (tm t) 8 = some l) (hs : beN l < 4611686018427387904) (hX : tnN (tm t) = (((beN l : Nat) : Int), 0)) (hA : valT (tm t) 8 = some l) (hY : tbN (tm t) = (z32, 2)) (hB : valT (tm t) 32 = none) : Calls Tryd.prog 5 #[.agg #[x0, x1, x2]] w fun e w' => e = .returned (.bool true) ∧ Bw w w' := by
  have hok := tm_ok hok0
  have hbs : (∀ x ∈ bodyOfT (tm t), x < 256) ∧ (bodyOfT (tm t)).length ≤ 1048576 := by
    cases h : tm t with
    | mk tg b ks => rw [h] at hok; simp only [Tr.ok] at hok; exact ⟨hok.1, hok.2.1⟩
  have htw : wordT (tm t) = (decide (tagT (tm t) = 12) && (rightT (tm t) 1 && decide ((bodyOfT (tm t)).length ≤ 64))) := by cases tm t; rfl
  obtain ⟨q1, h_q1⟩ : ∃ p, decide (tagT (tm t) = 12) = p := ⟨_, rfl⟩
  obtain ⟨q2, h_q2⟩ : ∃ p, rightT (tm t) 1 = p := ⟨_, rfl⟩
  obtain ⟨q3, h_q3⟩ : ∃ p, decide ((bodyOfT (tm t)).length ≤ 64) = p := ⟨_, rfl⟩
  have h_q3' : decide (((bodyOfT (tm t)).length : Int) ≤ ((64 : Nat) : Int)) = q3 := by rw [← h_q3]; exact decide_eq_decide.2 (by omega)
  rw [h_q1, h_q2, h_q3] at htw
  obtain ⟨W, hW⟩ : ∃ W, twN (tm t) = W := ⟨_, rfl⟩
  have hW2 : W = bif (q1 && (q2 && q3)) then (bodyOfT (tm t), 0) else ([], 2) := by rw [← hW, ← htw]; rfl
  have hl8 := valT_lt hok hv8
  have hll := valT_len hv8
  have hl0 := get0 (l := l) (by omega)
  have hl08 : l.headD 0 < 256 := hl8 _ (List.mem_of_getElem? hl0)
  have hh6 : decide (((l.headD 0 : Nat) : Int) ≥ ((64 : Nat) : Int)) = false := by rw [nat_ge, beN_head hl8 hll]; simp only [decide_eq_true hs, Bool.not_true, Bool.not_false]
  have hnl := numL_beN hl8 hll
  have hn8 : ∀ x ∈ numL (beN l), x < 256 := by rw [hnl]; exact hl8
  go_enter Tryd.func5, Tryd.ntmps5
  refine ve_go ?_
  simp only [List.map_cons, List.map_nil]
  refine vseq ?_
  apply vrp
  · apply VE.cons
    · exact ev_box rfl rfl (gn rfl) rfl
    simp only [nm, seval]
    apply VE.cons
    · exact ev_assign rfl (gn rfl)
    simp only [nm, seval]
    exact VE.nil _
  · kernel_rfl
  change VOk _ _ _ _ _
  refine vseq ?_
  apply vrp
  · apply VE.cons
    · exact ev_loada rfl (gn rfl) rfl rfl Tryd.underlying24 rfl Tryd.sizeOf24 rfl
    simp only [nm, seval]
    apply VE.cons
    · exact ev_calld (D := datR (tm t)) [] rfl rfl (gn rfl) rfl (en_of Tryd.func10 (by kernel_rfl) rfl) (fun ρ S w' hb _ => tame_ok w' hok0 (RN_bw hb hx))
    simp only [nm, seval]
    apply VE.cons
    · exact ev_storeR (vl := [.fn (cellV 0) (.d 14), .fn (cellV 1) (.d 14), .fn (cellV 2) (.d 14)]) [1, 14] rfl (gn rfl) rfl rfl rfl Tryd.sizeOf24 rfl (fun ρ S w' _ hR => by obtain ⟨c, h1, h2⟩ := datR_get (id := 14) hR (by simp) rfl; have hf := fn3 h1 (RN_len h2); exact ⟨hf.1, hf.2 ▸ RN_one h2⟩) rfl (by simp)
    simp only [nm, seval]
    exact VE.nil _
  · kernel_rfl
  change VOk _ _ _ _ _
  refine vseq ?_
  apply vrp
  · apply VE.cons
    · exact ev_loada rfl (gn rfl) rfl rfl Tryd.underlying24 rfl Tryd.sizeOf24 rfl
    simp only [nm, seval]
    apply VE.cons
    · exact ev_calld (D := datN (tm t)) [14] rfl rfl (gn rfl) rfl (en_of Tryd.func11 (by kernel_rfl) rfl) (fun ρ S w' hb hR => c_to 14 hok hR (by simp) rfl)
    simp only [nm, seval]
    apply VE.cons
    · exact ev_callp (v := .tuple #[.int .i64 ((beN l : Nat) : Int), .int .i64 0]) [17] rfl (gn rfl) rfl (en_of Tryd.func19 (by kernel_rfl) rfl) (fun ρ S w' hb hR => by have := c_toNum 17 hok hR (by simp) rfl; rw [hX] at this; exact this)
    simp only [nm, seval]
    apply VE.cons
    · exact ev_move rfl (gn rfl)
    simp only [nm, seval]
    apply VE.cons
    · first | exact ev_extract rfl (gn rfl) rfl rfl | exact ev_extractt rfl (gn rfl) rfl rfl
    simp only [nm, seval]
    apply VE.cons
    · first | exact ev_extract rfl (gn rfl) rfl rfl | exact ev_extractt rfl (gn rfl) rfl rfl
    simp only [nm, seval]
    apply VE.cons
    · exact ev_assign rfl (gn rfl)
    simp only [nm, seval]
    apply VE.cons
    · exact ev_assign rfl (gn rfl)
    simp only [nm, seval]
    exact VE.nil _
  · kernel_rfl
  change VOk _ _ _ _ _
  refine vseq ?_
  apply vrp
  · apply VE.cons
    · exact ev_loada rfl (gn rfl) rfl rfl Tryd.underlying24 rfl Tryd.sizeOf24 rfl
    simp only [nm, seval]
    apply VE.cons
    · exact ev_calld (D := datN (tm t)) [14] rfl rfl (gn rfl) rfl (en_of Tryd.func11 (by kernel_rfl) rfl) (fun ρ S w' hb hR => c_to 14 hok hR (by simp) rfl)
    simp only [nm, seval]
    apply VE.cons
    · exact ev_callp (v := .tuple #[.agg ((z32).map b8).toArray, .int .i64 2]) [23] rfl (gn rfl) rfl (en_of Tryd.func20 (by kernel_rfl) rfl) (fun ρ S w' hb hR => by have := c_toBig 23 hok hR (by simp) rfl; rw [hY] at this; exact this)
    simp only [nm, seval]
    apply VE.cons
    · exact ev_move rfl (gn rfl)
    simp only [nm, seval]
    apply VE.cons
    · first | exact ev_extract rfl (gn rfl) rfl rfl | exact ev_extractt rfl (gn rfl) rfl rfl
    simp only [nm, seval]
    apply VE.cons
    · first | exact ev_extract rfl (gn rfl) rfl rfl | exact ev_extractt rfl (gn rfl) rfl rfl
    simp only [nm, seval]
    apply VE.cons
    · exact ev_allocr (l := z32.map b8) rfl rfl (gn rfl) Tryd.zeroValue44 rfl
    simp only [nm, seval]
    apply VE.cons
    · exact ev_storer (l' := (z32).map b8) rfl (gn rfl) rfl rfl rfl Tryd.sizeOf44 (by simp [Value.cells, z32_len]) (by simp [z32_len]) (by show ((z32).map b8).toArray.toList.all _ = true; exact b8_all _) (by simp [Value.cells, z32_len])
    simp only [nm, seval]
    apply VE.cons
    · exact ev_assign rfl (gn rfl)
    simp only [nm, seval]
    exact VE.nil _
  · kernel_rfl
  change VOk _ _ _ _ _
  refine vseq ?_
  apply vrp
  · apply VE.cons
    · exact ev_loada rfl (gn rfl) rfl rfl Tryd.underlying24 rfl Tryd.sizeOf24 rfl
    simp only [nm, seval]
    apply VE.cons
    · exact ev_calld (D := datN (tm t)) [14] rfl rfl (gn rfl) rfl (en_of Tryd.func11 (by kernel_rfl) rfl) (fun ρ S w' hb hR => c_to 14 hok hR (by simp) rfl)
    simp only [nm, seval]
    apply VE.cons
    · exact ev_callp (v := .tuple #[.string (bstr W.1), .int .i64 W.2]) [29] rfl (gn rfl) rfl (en_of Tryd.func21 (by kernel_rfl) rfl) (fun ρ S w' hb hR => by have := c_toWord 29 hok hR (by simp) rfl; rw [hW] at this; exact this)
    simp only [nm, seval]
    apply VE.cons
    · exact ev_move rfl (gn rfl)
    simp only [nm, seval]
    apply VE.cons
    · first | exact ev_extract rfl (gn rfl) rfl rfl | exact ev_extractt rfl (gn rfl) rfl rfl
    simp only [nm, seval]
    apply VE.cons
    · first | exact ev_extract rfl (gn rfl) rfl rfl | exact ev_extractt rfl (gn rfl) rfl rfl
    simp only [nm, seval]
    apply VE.cons
    · exact ev_assign rfl (gn rfl)
    simp only [nm, seval]
    apply VE.cons
    · exact ev_assign rfl (gn rfl)
    simp only [nm, seval]
    exact VE.nil _
  · kernel_rfl
  change VOk _ _ _ _ _
  refine vseq ?_
  apply vrp
  · apply VE.cons
    · exact ev_loada rfl (gn rfl) rfl rfl Tryd.underlying24 rfl Tryd.sizeOf24 rfl
    simp only [nm, seval]
    apply VE.cons
    · exact ev_callp (v := .tuple #[.string (bstr l), .bool true]) [14] rfl (gn rfl) rfl (en_of Tryd.func22 (by kernel_rfl) rfl) (fun ρ S w' hb hR => by have := c_rToNum 14 8 (by decide) hok hR (by simp) rfl; rw [hA] at this; exact this)
    simp only [nm, seval]
    apply VE.cons
    · exact ev_move rfl (gn rfl)
    simp only [nm, seval]
    apply VE.cons
    · first | exact ev_extract rfl (gn rfl) rfl rfl | exact ev_extractt rfl (gn rfl) rfl rfl
    simp only [nm, seval]
    apply VE.cons
    · first | exact ev_extract rfl (gn rfl) rfl rfl | exact ev_extractt rfl (gn rfl) rfl rfl
    simp only [nm, seval]
    apply VE.cons
    · exact ev_assign rfl (gn rfl)
    simp only [nm, seval]
    apply VE.cons
    · exact ev_assign rfl (gn rfl)
    simp only [nm, seval]
    exact VE.nil _
  · kernel_rfl
  change VOk _ _ _ _ _
  refine vseq ?_
  refine vseq ?_
  apply vrp
  · apply VE.cons
    · exact ev_move rfl (gn rfl)
    simp only [nm, seval]
    apply VE.cons
    · exact ev_move rfl (gn rfl)
    simp only [nm, seval]
    apply VE.cons
    · first | exact Ev.skip (fun _ => rfl) | exact ev_move rfl (fun _ => rfl)
    simp only [nm, seval]
    apply VE.cons
    · first | exact Ev.skip (fun _ => rfl) | exact ev_idxb (k := 0) rfl (fun _ => rfl) rfl rfl Tryd.underlying9 (hl0) (hl08)
    simp only [nm, seval]
    apply VE.cons
    · first | exact Ev.skip (fun _ => rfl) | exact ev_geq5 rfl (fun _ => rfl) rfl rfl hh6
    simp only [nm, seval]
    apply VE.cons
    · first | exact ev_pick_t rfl (gn rfl) rfl rfl | exact ev_pick_f rfl (gn rfl) rfl rfl
    simp only [nm, seval]
    exact VE.nil _
  · kernel_rfl
  change VOk _ _ _ _ _
  refine vcond_f rfl ?_
  refine vskip ?_
  change VOk _ _ _ _ _
  refine vseq ?_
  apply vrp
  · apply VE.cons
    · exact ev_loada rfl (gn rfl) rfl rfl Tryd.underlying24 rfl Tryd.sizeOf24 rfl
    simp only [nm, seval]
    apply VE.cons
    · exact ev_callp (v := .tuple #[.string (bstr []), .bool false]) [14] rfl (gn rfl) rfl (en_of Tryd.func22 (by kernel_rfl) rfl) (fun ρ S w' hb hR => by have := c_rToNum 14 32 (by decide) hok hR (by simp) rfl; rw [hB] at this; exact this)
    simp only [nm, seval]
    apply VE.cons
    · exact ev_move rfl (gn rfl)
    simp only [nm, seval]
    apply VE.cons
    · first | exact ev_extract rfl (gn rfl) rfl rfl | exact ev_extractt rfl (gn rfl) rfl rfl
    simp only [nm, seval]
    apply VE.cons
    · first | exact ev_extract rfl (gn rfl) rfl rfl | exact ev_extractt rfl (gn rfl) rfl rfl
    simp only [nm, seval]
    apply VE.cons
    · exact ev_assign rfl (gn rfl)
    simp only [nm, seval]
    apply VE.cons
    · exact ev_assign rfl (gn rfl)
    simp only [nm, seval]
    exact VE.nil _
  · kernel_rfl
  change VOk _ _ _ _ _
  refine vseq ?_
  refine vseq ?_
  apply vrp
  · apply VE.cons
    · exact ev_callb rfl (gn rfl) rfl (en_of Tryd.func14 (by kernel_rfl) rfl) (fun w' hb => ders_ok w')
    simp only [nm, seval]
    apply VE.cons
    · exact ev_not rfl (gn rfl) rfl
    simp only [nm, seval]
    apply VE.cons
    · exact ev_move rfl (gn rfl)
    simp only [nm, seval]
    apply VE.cons
    · first | exact Ev.skip (fun _ => rfl) | exact ev_move rfl (fun _ => rfl)
    simp only [nm, seval]
    apply VE.cons
    · first | exact Ev.skip (fun _ => rfl) | exact ev_eql (p := true) rfl (fun _ => rfl) rfl rfl (by decide)
    simp only [nm, seval]
    apply VE.cons
    · first | exact Ev.skip (fun _ => rfl) | exact ev_move rfl (fun _ => rfl)
    simp only [nm, seval]
    apply VE.cons
    · first | exact Ev.skip (fun _ => rfl) | exact ev_bin (c := .bool false) rfl (fun _ => rfl) rfl rfl (fun w => neqB _ _ _ _ w)
    simp only [nm, seval]
    apply VE.cons
    · first | exact ev_pick_t rfl (gn rfl) rfl rfl | exact ev_pick_f rfl (gn rfl) rfl rfl
    simp only [nm, seval]
    apply VE.cons
    · exact ev_move rfl (gn rfl)
    simp only [nm, seval]
    apply VE.cons
    · first | exact Ev.skip (fun _ => rfl) | exact ev_move rfl (fun _ => rfl)
    simp only [nm, seval]
    apply VE.cons
    · first | exact Ev.skip (fun _ => rfl) | exact ev_eql (p := false) rfl (fun _ => rfl) rfl rfl (by decide)
    simp only [nm, seval]
    apply VE.cons
    · first | exact Ev.skip (fun _ => rfl) | exact ev_move rfl (fun _ => rfl)
    simp only [nm, seval]
    apply VE.cons
    · first | exact Ev.skip (fun _ => rfl) | exact ev_bin (c := .bool false) rfl (fun _ => rfl) rfl rfl (fun w => neqB _ _ _ _ w)
    simp only [nm, seval]
    apply VE.cons
    · first | exact ev_pick_t rfl (gn rfl) rfl rfl | exact ev_pick_f rfl (gn rfl) rfl rfl
    simp only [nm, seval]
    apply VE.cons
    · exact ev_move rfl (gn rfl)
    simp only [nm, seval]
    apply VE.cons
    · first | exact Ev.skip (fun _ => rfl) | exact ev_move rfl (fun _ => rfl)
    simp only [nm, seval]
    apply VE.cons
    · first | exact Ev.skip (fun _ => rfl) | exact ev_move rfl (fun _ => rfl)
    simp only [nm, seval]
    apply VE.cons
    · first | exact Ev.skip (fun _ => rfl) | exact ev_move rfl (fun _ => rfl)
    simp only [nm, seval]
    apply VE.cons
    · first | exact Ev.skip (fun _ => rfl) | exact ev_callb rfl (fun _ => rfl) rfl (en_of Tryd.func23 (by kernel_rfl) rfl) (fun w' hb => Eight_ok (beN l) (by omega) w')
    simp only [nm, seval]
    apply VE.cons
    · first | exact Ev.skip (fun _ => rfl) | exact ev_move rfl (fun _ => rfl)
    simp only [nm, seval]
    apply VE.cons
    · first | exact Ev.skip (fun _ => rfl) | exact ev_bin (c := .bool false) rfl (fun _ => rfl) rfl rfl (fun w => str_ne (decide_eq_false (fun h => h hnl)) hn8 hl8 _ _ w)
    simp only [nm, seval]
    apply VE.cons
    · first | exact Ev.skip (fun _ => rfl) | exact ev_pick_t rfl (fun _ => rfl) rfl rfl | exact ev_pick_f rfl (fun _ => rfl) rfl rfl
    simp only [nm, seval]
    apply VE.cons
    · first | exact ev_pick_t rfl (gn rfl) rfl rfl | exact ev_pick_f rfl (gn rfl) rfl rfl
    simp only [nm, seval]
    apply VE.cons
    · exact ev_move rfl (gn rfl)
    simp only [nm, seval]
    apply VE.cons
    · first | exact Ev.skip (fun _ => rfl) | exact ev_move rfl (fun _ => rfl)
    simp only [nm, seval]
    apply VE.cons
    · first | exact Ev.skip (fun _ => rfl) | exact ev_move rfl (fun _ => rfl)
    simp only [nm, seval]
    apply VE.cons
    · first | exact Ev.skip (fun _ => rfl) | exact ev_slicea rfl (fun _ => rfl) rfl Tryd.underlying44 Tryd.sizeOf5
    simp only [nm, seval]
    apply VE.cons
    · first | exact Ev.skip (fun _ => rfl) | exact ev_convb (bs := l') rfl (fun _ => rfl) rfl Tryd.underlying26 Tryd.underlying5 Tryd.underlying9 (rdg_arr (len := 32) (cap := 32) rfl (List.take_of_length_le (by simp [hl32])) (by simp [hl32]) (Nat.le_refl _))
    simp only [nm, seval]
    apply VE.cons
    · first | exact Ev.skip (fun _ => rfl) | exact ev_move rfl (fun _ => rfl)
    simp only [nm, seval]
    apply VE.cons
    · first | exact Ev.skip (fun _ => rfl) | exact ev_bin (c := .bool false) rfl (fun _ => rfl) rfl rfl (fun w => str_ne (decide_eq_false (fun h => h rfl)) hl8' hl8' _ _ w)
    simp only [nm, seval]
    apply VE.cons
    · first | exact Ev.skip (fun _ => rfl) | exact ev_pick_t rfl (fun _ => rfl) rfl rfl | exact ev_pick_f rfl (fun _ => rfl) rfl rfl
    simp only [nm, seval]
    apply VE.cons
    · first | exact ev_pick_t rfl (gn rfl) rfl rfl | exact ev_pick_f rfl (gn rfl) rfl rfl
    simp only [nm, seval]
    apply VE.cons
    · exact ev_move rfl (gn rfl)
    simp only [nm, seval]
    apply VE.cons
    · first | exact Ev.skip (fun _ => rfl) | exact ev_move rfl (fun _ => rfl)
    simp only [nm, seval]
    apply VE.cons
    · first | exact Ev.skip (fun _ => rfl) | exact ev_neq (p := false) rfl (fun _ => rfl) rfl rfl (by decide)
    simp only [nm, seval]
    apply VE.cons
    · first | exact Ev.skip (fun _ => rfl) | exact ev_move rfl (fun _ => rfl)
    simp only [nm, seval]
    apply VE.cons
    · first | exact Ev.skip (fun _ => rfl) | exact ev_move rfl (fun _ => rfl)
    simp only [nm, seval]
    apply VE.cons
    · first | exact Ev.skip (fun _ => rfl) | exact ev_neq (p := false) rfl (fun _ => rfl) rfl rfl (by decide)
    simp only [nm, seval]
    apply VE.cons
    · first | exact Ev.skip (fun _ => rfl) | exact ev_pick_t rfl (fun _ => rfl) rfl rfl | exact ev_pick_f rfl (fun _ => rfl) rfl rfl
    simp only [nm, seval]
    apply VE.cons
    · first | exact ev_pick_t rfl (gn rfl) rfl rfl | exact ev_pick_f rfl (gn rfl) rfl rfl
    simp only [nm, seval]
    apply VE.cons
    · exact ev_move rfl (gn rfl)
    simp only [nm, seval]
    apply VE.cons
    · first | exact Ev.skip (fun _ => rfl) | exact ev_move rfl (fun _ => rfl)
    simp only [nm, seval]
    apply VE.cons
    · first | exact Ev.skip (fun _ => rfl) | exact ev_neq (p := true) rfl (fun _ => rfl) rfl rfl (by decide)
    simp only [nm, seval]
    apply VE.cons
    · first | exact Ev.skip (fun _ => rfl) | exact ev_move rfl (fun _ => rfl)
    simp only [nm, seval]
    apply VE.cons
    · first | exact Ev.skip (fun _ => rfl) | exact ev_move rfl (fun _ => rfl)
    simp only [nm, seval]
    apply VE.cons
    · first | exact Ev.skip (fun _ => rfl) | exact ev_neq (p := false) rfl (fun _ => rfl) rfl rfl (by decide)
    simp only [nm, seval]
    apply VE.cons
    · first | exact Ev.skip (fun _ => rfl) | exact ev_pick_t rfl (fun _ => rfl) rfl rfl | exact ev_pick_f rfl (fun _ => rfl) rfl rfl
    simp only [nm, seval]
    apply VE.cons
    · first | exact ev_pick_t rfl (gn rfl) rfl rfl | exact ev_pick_f rfl (gn rfl) rfl rfl
    simp only [nm, seval]
    exact VE.nil _
  · kernel_rfl
  change VOk _ _ _ _ _
  refine vcond_f rfl ?_
  cases q1 <;> cases q2 <;> cases q3 <;> simp only [Bool.and_true, Bool.and_false, Bool.true_and, Bool.false_and, cond_true, cond_false] at hW2 <;> subst hW2 <;>
  (
    refine vskip ?_
    change VOk _ _ _ _ _
    refine vseq ?_
    refine vseq ?_
    apply vrp
    · apply VE.cons
      · first | exact ev_field rfl (gn rfl) rfl Tryd.underlying24 rfl Tryd.sizeOf3 | exact ev_fieldx rfl (gn rfl) rfl Tryd.underlying24 rfl Tryd.sizeOf3
      simp only [nm, seval]
      apply VE.cons
      · exact ev_load1v (v := .int .i64 (tagT (tm t))) (rd := [14]) rfl (gn rfl) rfl rfl Tryd.underlying3 rfl rfl (fun ρ S w' hR => by obtain ⟨c, h1, h2⟩ := datR_get (id := 14) hR (by simp) rfl; exact cell_tag h1 h2)
      simp only [nm, seval]
      apply VE.cons
      · exact ev_eql rfl (gn rfl) rfl rfl h_q1
      simp only [nm, seval]
      apply VE.cons
      · exact ev_move rfl (gn rfl)
      simp only [nm, seval]
      apply VE.cons
      · first | exact Ev.skip (fun _ => rfl) | exact ev_loada rfl (fun _ => rfl) rfl rfl Tryd.underlying24 rfl Tryd.sizeOf24 rfl
      simp only [nm, seval]
      apply VE.cons
      · first | exact Ev.skip (fun _ => rfl) | exact ev_callp (v := .bool true) [14] rfl (fun _ => rfl) rfl (en_of Tryd.func18 (by kernel_rfl) rfl) (fun ρ S w' hb hR => by have := c_rright 14 hok hR (by simp) rfl; rw [h_q2] at this; exact this) | exact ev_callp (v := .bool false) [14] rfl (fun _ => rfl) rfl (en_of Tryd.func18 (by kernel_rfl) rfl) (fun ρ S w' hb hR => by have := c_rright 14 hok hR (by simp) rfl; rw [h_q2] at this; exact this)
      simp only [nm, seval]
      apply VE.cons
      · first | exact ev_pick_t rfl (gn rfl) rfl rfl | exact ev_pick_f rfl (gn rfl) rfl rfl
      simp only [nm, seval]
      apply VE.cons
      · exact ev_move rfl (gn rfl)
      simp only [nm, seval]
      apply VE.cons
      · first | exact Ev.skip (fun _ => rfl) | exact ev_field rfl (fun _ => rfl) rfl Tryd.underlying24 rfl Tryd.sizeOf9 | exact ev_fieldx rfl (fun _ => rfl) rfl Tryd.underlying24 rfl Tryd.sizeOf9
      simp only [nm, seval]
      apply VE.cons
      · first | exact Ev.skip (fun _ => rfl) | exact ev_load1v (v := .string (bstr (bodyOfT (tm t)))) (rd := [14]) rfl (fun _ => rfl) rfl rfl Tryd.underlying9 rfl rfl (fun ρ S w' hR => by obtain ⟨c, h1, h2⟩ := datR_get (id := 14) hR (by simp) rfl; exact cell_body h1 h2)
      simp only [nm, seval]
      apply VE.cons
      · first | exact Ev.skip (fun _ => rfl) | exact ev_lenb rfl (fun _ => rfl) rfl Tryd.underlying9
      simp only [nm, seval]
      apply VE.cons
      · first | exact Ev.skip (fun _ => rfl) | exact ev_leq rfl (fun _ => rfl) rfl rfl h_q3'
      simp only [nm, seval]
      apply VE.cons
      · first | exact ev_pick_t rfl (gn rfl) rfl rfl | exact ev_pick_f rfl (gn rfl) rfl rfl
      simp only [nm, seval]
      exact VE.nil _
    · kernel_rfl
    change VOk _ _ _ _ _
    first
    | (
        refine vcond_t rfl ?_
        refine vseq ?_
        apply vrp
        · apply VE.cons
          · exact ev_move rfl (gn rfl)
          simp only [nm, seval]
          apply VE.cons
          · exact ev_eql (p := true) rfl (gn rfl) rfl rfl (by decide)
          simp only [nm, seval]
          apply VE.cons
          · exact ev_move rfl (gn rfl)
          simp only [nm, seval]
          apply VE.cons
          · first | exact Ev.skip (fun _ => rfl) | exact ev_move rfl (fun _ => rfl)
          simp only [nm, seval]
          apply VE.cons
          · first | exact Ev.skip (fun _ => rfl) | exact ev_field rfl (fun _ => rfl) rfl Tryd.underlying24 rfl Tryd.sizeOf9 | exact ev_fieldx rfl (fun _ => rfl) rfl Tryd.underlying24 rfl Tryd.sizeOf9
          simp only [nm, seval]
          apply VE.cons
          · first | exact Ev.skip (fun _ => rfl) | exact ev_load1v (v := .string (bstr (bodyOfT (tm t)))) (rd := [14]) rfl (fun _ => rfl) rfl rfl Tryd.underlying9 rfl rfl (fun ρ S w' hR => by obtain ⟨c, h1, h2⟩ := datR_get (id := 14) hR (by simp) rfl; exact cell_body h1 h2)
          simp only [nm, seval]
          apply VE.cons
          · first | exact Ev.skip (fun _ => rfl) | exact ev_bin (c := .bool true) rfl (fun _ => rfl) rfl rfl (fun w => str_is (decide_eq_true rfl) hbs.1 hbs.1 _ _ w)
          simp only [nm, seval]
          apply VE.cons
          · first | exact ev_pick_t rfl (gn rfl) rfl rfl | exact ev_pick_f rfl (gn rfl) rfl rfl
          simp only [nm, seval]
          apply VE.cons
          · exact ev_assign rfl (gn rfl)
          simp only [nm, seval]
          exact VE.nil _
        · kernel_rfl
        change VOk _ _ _ _ _
        refine vret ?_
        refine post_ret (res1 Tryd.results5 (rv_tmp rfl)) ?_
        intro ρ w' hr
        exact ⟨rfl, hr.1⟩
      )
    | (
        refine vcond_f rfl ?_
        refine vskip ?_
        change VOk _ _ _ _ _
        refine vseq ?_
        apply vrp
        · apply VE.cons
          · exact ev_move rfl (gn rfl)
          simp only [nm, seval]
          apply VE.cons
          · exact ev_eql (p := true) rfl (gn rfl) rfl rfl (by decide)
          simp only [nm, seval]
          apply VE.cons
          · exact ev_move rfl (gn rfl)
          simp only [nm, seval]
          apply VE.cons
          · first | exact Ev.skip (fun _ => rfl) | exact ev_move rfl (fun _ => rfl)
          simp only [nm, seval]
          apply VE.cons
          · first | exact Ev.skip (fun _ => rfl) | exact ev_bin (c := .bool true) rfl (fun _ => rfl) rfl rfl (fun w => str_is (a := []) (b := []) (decide_eq_true rfl) (fun x hx => by cases hx) (fun x hx => by cases hx) _ _ w)
          simp only [nm, seval]
          apply VE.cons
          · first | exact ev_pick_t rfl (gn rfl) rfl rfl | exact ev_pick_f rfl (gn rfl) rfl rfl
          simp only [nm, seval]
          apply VE.cons
          · exact ev_assign rfl (gn rfl)
          simp only [nm, seval]
          exact VE.nil _
        · kernel_rfl
        change VOk _ _ _ _ _
        refine vret ?_
        refine post_ret (res1 Tryd.results5 (rv_tmp rfl)) ?_
        intro ρ w' hr
        exact ⟨rfl, hr.1⟩
      )
  )
theorem derTo_ss {t : Tr} {x0 x1 x2 : Value} {S : Nat → Prop} (w : World) (hok0 : t.okL) (hx : RN w S t [x0, x1, x2]) {l : List Nat} (hv8 : valT (tm t) 8 = some l) (hs : beN l < 4611686018427387904) (hX : tnN (tm t) = (((beN l : Nat) : Int), 0)) (hA : valT (tm t) 8 = some l) {l' : List Nat} (hv32 : valT (tm t) 32 = some l') (hY : tbN (tm t) = (l', 0)) (hB : valT (tm t) 32 = some l') : Calls Tryd.prog 5 #[.agg #[x0, x1, x2]] w fun e w' => e = .returned (.bool true) ∧ Bw w w' := by
  have hok := tm_ok hok0
  have hbs : (∀ x ∈ bodyOfT (tm t), x < 256) ∧ (bodyOfT (tm t)).length ≤ 1048576 := by
    cases h : tm t with
    | mk tg b ks => rw [h] at hok; simp only [Tr.ok] at hok; exact ⟨hok.1, hok.2.1⟩
  have htw : wordT (tm t) = (decide (tagT (tm t) = 12) && (rightT (tm t) 1 && decide ((bodyOfT (tm t)).length ≤ 64))) := by cases tm t; rfl
  obtain ⟨q1, h_q1⟩ : ∃ p, decide (tagT (tm t) = 12) = p := ⟨_, rfl⟩
  obtain ⟨q2, h_q2⟩ : ∃ p, rightT (tm t) 1 = p := ⟨_, rfl⟩
  obtain ⟨q3, h_q3⟩ : ∃ p, decide ((bodyOfT (tm t)).length ≤ 64) = p := ⟨_, rfl⟩
  have h_q3' : decide (((bodyOfT (tm t)).length : Int) ≤ ((64 : Nat) : Int)) = q3 := by rw [← h_q3]; exact decide_eq_decide.2 (by omega)
  rw [h_q1, h_q2, h_q3] at htw
  obtain ⟨W, hW⟩ : ∃ W, twN (tm t) = W := ⟨_, rfl⟩
  have hW2 : W = bif (q1 && (q2 && q3)) then (bodyOfT (tm t), 0) else ([], 2) := by rw [← hW, ← htw]; rfl
  have hl8 := valT_lt hok hv8
  have hll := valT_len hv8
  have hl0 := get0 (l := l) (by omega)
  have hl08 : l.headD 0 < 256 := hl8 _ (List.mem_of_getElem? hl0)
  have hh6 : decide (((l.headD 0 : Nat) : Int) ≥ ((64 : Nat) : Int)) = false := by rw [nat_ge, beN_head hl8 hll]; simp only [decide_eq_true hs, Bool.not_true, Bool.not_false]
  have hnl := numL_beN hl8 hll
  have hn8 : ∀ x ∈ numL (beN l), x < 256 := by rw [hnl]; exact hl8
  have hl8' := valT_lt hok hv32
  have hl32 := valT_len hv32
  go_enter Tryd.func5, Tryd.ntmps5
  refine ve_go ?_
  simp only [List.map_cons, List.map_nil]
  refine vseq ?_
  apply vrp
  · apply VE.cons
    · exact ev_box rfl rfl (gn rfl) rfl
    simp only [nm, seval]
    apply VE.cons
    · exact ev_assign rfl (gn rfl)
    simp only [nm, seval]
    exact VE.nil _
  · kernel_rfl
  change VOk _ _ _ _ _
  refine vseq ?_
  apply vrp
  · apply VE.cons
    · exact ev_loada rfl (gn rfl) rfl rfl Tryd.underlying24 rfl Tryd.sizeOf24 rfl
    simp only [nm, seval]
    apply VE.cons
    · exact ev_calld (D := datR (tm t)) [] rfl rfl (gn rfl) rfl (en_of Tryd.func10 (by kernel_rfl) rfl) (fun ρ S w' hb _ => tame_ok w' hok0 (RN_bw hb hx))
    simp only [nm, seval]
    apply VE.cons
    · exact ev_storeR (vl := [.fn (cellV 0) (.d 14), .fn (cellV 1) (.d 14), .fn (cellV 2) (.d 14)]) [1, 14] rfl (gn rfl) rfl rfl rfl Tryd.sizeOf24 rfl (fun ρ S w' _ hR => by obtain ⟨c, h1, h2⟩ := datR_get (id := 14) hR (by simp) rfl; have hf := fn3 h1 (RN_len h2); exact ⟨hf.1, hf.2 ▸ RN_one h2⟩) rfl (by simp)
    simp only [nm, seval]
    exact VE.nil _
  · kernel_rfl
  change VOk _ _ _ _ _
  refine vseq ?_
  apply vrp
  · apply VE.cons
    · exact ev_loada rfl (gn rfl) rfl rfl Tryd.underlying24 rfl Tryd.sizeOf24 rfl
    simp only [nm, seval]
    apply VE.cons
    · exact ev_calld (D := datN (tm t)) [14] rfl rfl (gn rfl) rfl (en_of Tryd.func11 (by kernel_rfl) rfl) (fun ρ S w' hb hR => c_to 14 hok hR (by simp) rfl)
    simp only [nm, seval]
    apply VE.cons
    · exact ev_callp (v := .tuple #[.int .i64 ((beN l : Nat) : Int), .int .i64 0]) [17] rfl (gn rfl) rfl (en_of Tryd.func19 (by kernel_rfl) rfl) (fun ρ S w' hb hR => by have := c_toNum 17 hok hR (by simp) rfl; rw [hX] at this; exact this)
    simp only [nm, seval]
    apply VE.cons
    · exact ev_move rfl (gn rfl)
    simp only [nm, seval]
    apply VE.cons
    · first | exact ev_extract rfl (gn rfl) rfl rfl | exact ev_extractt rfl (gn rfl) rfl rfl
    simp only [nm, seval]
    apply VE.cons
    · first | exact ev_extract rfl (gn rfl) rfl rfl | exact ev_extractt rfl (gn rfl) rfl rfl
    simp only [nm, seval]
    apply VE.cons
    · exact ev_assign rfl (gn rfl)
    simp only [nm, seval]
    apply VE.cons
    · exact ev_assign rfl (gn rfl)
    simp only [nm, seval]
    exact VE.nil _
  · kernel_rfl
  change VOk _ _ _ _ _
  refine vseq ?_
  apply vrp
  · apply VE.cons
    · exact ev_loada rfl (gn rfl) rfl rfl Tryd.underlying24 rfl Tryd.sizeOf24 rfl
    simp only [nm, seval]
    apply VE.cons
    · exact ev_calld (D := datN (tm t)) [14] rfl rfl (gn rfl) rfl (en_of Tryd.func11 (by kernel_rfl) rfl) (fun ρ S w' hb hR => c_to 14 hok hR (by simp) rfl)
    simp only [nm, seval]
    apply VE.cons
    · exact ev_callp (v := .tuple #[.agg ((l').map b8).toArray, .int .i64 0]) [23] rfl (gn rfl) rfl (en_of Tryd.func20 (by kernel_rfl) rfl) (fun ρ S w' hb hR => by have := c_toBig 23 hok hR (by simp) rfl; rw [hY] at this; exact this)
    simp only [nm, seval]
    apply VE.cons
    · exact ev_move rfl (gn rfl)
    simp only [nm, seval]
    apply VE.cons
    · first | exact ev_extract rfl (gn rfl) rfl rfl | exact ev_extractt rfl (gn rfl) rfl rfl
    simp only [nm, seval]
    apply VE.cons
    · first | exact ev_extract rfl (gn rfl) rfl rfl | exact ev_extractt rfl (gn rfl) rfl rfl
    simp only [nm, seval]
    apply VE.cons
    · exact ev_allocr (l := z32.map b8) rfl rfl (gn rfl) Tryd.zeroValue44 rfl
    simp only [nm, seval]
    apply VE.cons
    · exact ev_storer (l' := (l').map b8) rfl (gn rfl) rfl rfl rfl Tryd.sizeOf44 (by simp [Value.cells, hl32]) (by simp [z32_len]) (by show ((l').map b8).toArray.toList.all _ = true; exact b8_all _) (by simp [Value.cells, z32_len])
    simp only [nm, seval]
    apply VE.cons
    · exact ev_assign rfl (gn rfl)
    simp only [nm, seval]
    exact VE.nil _
  · kernel_rfl
  change VOk _ _ _ _ _
  refine vseq ?_
  apply vrp
  · apply VE.cons
    · exact ev_loada rfl (gn rfl) rfl rfl Tryd.underlying24 rfl Tryd.sizeOf24 rfl
    simp only [nm, seval]
    apply VE.cons
    · exact ev_calld (D := datN (tm t)) [14] rfl rfl (gn rfl) rfl (en_of Tryd.func11 (by kernel_rfl) rfl) (fun ρ S w' hb hR => c_to 14 hok hR (by simp) rfl)
    simp only [nm, seval]
    apply VE.cons
    · exact ev_callp (v := .tuple #[.string (bstr W.1), .int .i64 W.2]) [29] rfl (gn rfl) rfl (en_of Tryd.func21 (by kernel_rfl) rfl) (fun ρ S w' hb hR => by have := c_toWord 29 hok hR (by simp) rfl; rw [hW] at this; exact this)
    simp only [nm, seval]
    apply VE.cons
    · exact ev_move rfl (gn rfl)
    simp only [nm, seval]
    apply VE.cons
    · first | exact ev_extract rfl (gn rfl) rfl rfl | exact ev_extractt rfl (gn rfl) rfl rfl
    simp only [nm, seval]
    apply VE.cons
    · first | exact ev_extract rfl (gn rfl) rfl rfl | exact ev_extractt rfl (gn rfl) rfl rfl
    simp only [nm, seval]
    apply VE.cons
    · exact ev_assign rfl (gn rfl)
    simp only [nm, seval]
    apply VE.cons
    · exact ev_assign rfl (gn rfl)
    simp only [nm, seval]
    exact VE.nil _
  · kernel_rfl
  change VOk _ _ _ _ _
  refine vseq ?_
  apply vrp
  · apply VE.cons
    · exact ev_loada rfl (gn rfl) rfl rfl Tryd.underlying24 rfl Tryd.sizeOf24 rfl
    simp only [nm, seval]
    apply VE.cons
    · exact ev_callp (v := .tuple #[.string (bstr l), .bool true]) [14] rfl (gn rfl) rfl (en_of Tryd.func22 (by kernel_rfl) rfl) (fun ρ S w' hb hR => by have := c_rToNum 14 8 (by decide) hok hR (by simp) rfl; rw [hA] at this; exact this)
    simp only [nm, seval]
    apply VE.cons
    · exact ev_move rfl (gn rfl)
    simp only [nm, seval]
    apply VE.cons
    · first | exact ev_extract rfl (gn rfl) rfl rfl | exact ev_extractt rfl (gn rfl) rfl rfl
    simp only [nm, seval]
    apply VE.cons
    · first | exact ev_extract rfl (gn rfl) rfl rfl | exact ev_extractt rfl (gn rfl) rfl rfl
    simp only [nm, seval]
    apply VE.cons
    · exact ev_assign rfl (gn rfl)
    simp only [nm, seval]
    apply VE.cons
    · exact ev_assign rfl (gn rfl)
    simp only [nm, seval]
    exact VE.nil _
  · kernel_rfl
  change VOk _ _ _ _ _
  refine vseq ?_
  refine vseq ?_
  apply vrp
  · apply VE.cons
    · exact ev_move rfl (gn rfl)
    simp only [nm, seval]
    apply VE.cons
    · exact ev_move rfl (gn rfl)
    simp only [nm, seval]
    apply VE.cons
    · first | exact Ev.skip (fun _ => rfl) | exact ev_move rfl (fun _ => rfl)
    simp only [nm, seval]
    apply VE.cons
    · first | exact Ev.skip (fun _ => rfl) | exact ev_idxb (k := 0) rfl (fun _ => rfl) rfl rfl Tryd.underlying9 (hl0) (hl08)
    simp only [nm, seval]
    apply VE.cons
    · first | exact Ev.skip (fun _ => rfl) | exact ev_geq5 rfl (fun _ => rfl) rfl rfl hh6
    simp only [nm, seval]
    apply VE.cons
    · first | exact ev_pick_t rfl (gn rfl) rfl rfl | exact ev_pick_f rfl (gn rfl) rfl rfl
    simp only [nm, seval]
    exact VE.nil _
  · kernel_rfl
  change VOk _ _ _ _ _
  refine vcond_f rfl ?_
  refine vskip ?_
  change VOk _ _ _ _ _
  refine vseq ?_
  apply vrp
  · apply VE.cons
    · exact ev_loada rfl (gn rfl) rfl rfl Tryd.underlying24 rfl Tryd.sizeOf24 rfl
    simp only [nm, seval]
    apply VE.cons
    · exact ev_callp (v := .tuple #[.string (bstr l'), .bool true]) [14] rfl (gn rfl) rfl (en_of Tryd.func22 (by kernel_rfl) rfl) (fun ρ S w' hb hR => by have := c_rToNum 14 32 (by decide) hok hR (by simp) rfl; rw [hB] at this; exact this)
    simp only [nm, seval]
    apply VE.cons
    · exact ev_move rfl (gn rfl)
    simp only [nm, seval]
    apply VE.cons
    · first | exact ev_extract rfl (gn rfl) rfl rfl | exact ev_extractt rfl (gn rfl) rfl rfl
    simp only [nm, seval]
    apply VE.cons
    · first | exact ev_extract rfl (gn rfl) rfl rfl | exact ev_extractt rfl (gn rfl) rfl rfl
    simp only [nm, seval]
    apply VE.cons
    · exact ev_assign rfl (gn rfl)
    simp only [nm, seval]
    apply VE.cons
    · exact ev_assign rfl (gn rfl)
    simp only [nm, seval]
    exact VE.nil _
  · kernel_rfl
  change VOk _ _ _ _ _
  refine vseq ?_
  refine vseq ?_
  apply vrp
  · apply VE.cons
    · exact ev_callb rfl (gn rfl) rfl (en_of Tryd.func14 (by kernel_rfl) rfl) (fun w' hb => ders_ok w')
    simp only [nm, seval]
    apply VE.cons
    · exact ev_not rfl (gn rfl) rfl
    simp only [nm, seval]
    apply VE.cons
    · exact ev_move rfl (gn rfl)
    simp only [nm, seval]
    apply VE.cons
    · first | exact Ev.skip (fun _ => rfl) | exact ev_move rfl (fun _ => rfl)
    simp only [nm, seval]
    apply VE.cons
    · first | exact Ev.skip (fun _ => rfl) | exact ev_eql (p := true) rfl (fun _ => rfl) rfl rfl (by decide)
    simp only [nm, seval]
    apply VE.cons
    · first | exact Ev.skip (fun _ => rfl) | exact ev_move rfl (fun _ => rfl)
    simp only [nm, seval]
    apply VE.cons
    · first | exact Ev.skip (fun _ => rfl) | exact ev_bin (c := .bool false) rfl (fun _ => rfl) rfl rfl (fun w => neqB _ _ _ _ w)
    simp only [nm, seval]
    apply VE.cons
    · first | exact ev_pick_t rfl (gn rfl) rfl rfl | exact ev_pick_f rfl (gn rfl) rfl rfl
    simp only [nm, seval]
    apply VE.cons
    · exact ev_move rfl (gn rfl)
    simp only [nm, seval]
    apply VE.cons
    · first | exact Ev.skip (fun _ => rfl) | exact ev_move rfl (fun _ => rfl)
    simp only [nm, seval]
    apply VE.cons
    · first | exact Ev.skip (fun _ => rfl) | exact ev_eql (p := true) rfl (fun _ => rfl) rfl rfl (by decide)
    simp only [nm, seval]
    apply VE.cons
    · first | exact Ev.skip (fun _ => rfl) | exact ev_move rfl (fun _ => rfl)
    simp only [nm, seval]
    apply VE.cons
    · first | exact Ev.skip (fun _ => rfl) | exact ev_bin (c := .bool false) rfl (fun _ => rfl) rfl rfl (fun w => neqB _ _ _ _ w)
    simp only [nm, seval]
    apply VE.cons
    · first | exact ev_pick_t rfl (gn rfl) rfl rfl | exact ev_pick_f rfl (gn rfl) rfl rfl
    simp only [nm, seval]
    apply VE.cons
    · exact ev_move rfl (gn rfl)
    simp only [nm, seval]
    apply VE.cons
    · first | exact Ev.skip (fun _ => rfl) | exact ev_move rfl (fun _ => rfl)
    simp only [nm, seval]
    apply VE.cons
    · first | exact Ev.skip (fun _ => rfl) | exact ev_move rfl (fun _ => rfl)
    simp only [nm, seval]
    apply VE.cons
    · first | exact Ev.skip (fun _ => rfl) | exact ev_move rfl (fun _ => rfl)
    simp only [nm, seval]
    apply VE.cons
    · first | exact Ev.skip (fun _ => rfl) | exact ev_callb rfl (fun _ => rfl) rfl (en_of Tryd.func23 (by kernel_rfl) rfl) (fun w' hb => Eight_ok (beN l) (by omega) w')
    simp only [nm, seval]
    apply VE.cons
    · first | exact Ev.skip (fun _ => rfl) | exact ev_move rfl (fun _ => rfl)
    simp only [nm, seval]
    apply VE.cons
    · first | exact Ev.skip (fun _ => rfl) | exact ev_bin (c := .bool false) rfl (fun _ => rfl) rfl rfl (fun w => str_ne (decide_eq_false (fun h => h hnl)) hn8 hl8 _ _ w)
    simp only [nm, seval]
    apply VE.cons
    · first | exact Ev.skip (fun _ => rfl) | exact ev_pick_t rfl (fun _ => rfl) rfl rfl | exact ev_pick_f rfl (fun _ => rfl) rfl rfl
    simp only [nm, seval]
    apply VE.cons
    · first | exact ev_pick_t rfl (gn rfl) rfl rfl | exact ev_pick_f rfl (gn rfl) rfl rfl
    simp only [nm, seval]
    apply VE.cons
    · exact ev_move rfl (gn rfl)
    simp only [nm, seval]
    apply VE.cons
    · first | exact Ev.skip (fun _ => rfl) | exact ev_move rfl (fun _ => rfl)
    simp only [nm, seval]
    apply VE.cons
    · first | exact Ev.skip (fun _ => rfl) | exact ev_move rfl (fun _ => rfl)
    simp only [nm, seval]
    apply VE.cons
    · first | exact Ev.skip (fun _ => rfl) | exact ev_slicea rfl (fun _ => rfl) rfl Tryd.underlying44 Tryd.sizeOf5
    simp only [nm, seval]
    apply VE.cons
    · first | exact Ev.skip (fun _ => rfl) | exact ev_convb (bs := l') rfl (fun _ => rfl) rfl Tryd.underlying26 Tryd.underlying5 Tryd.underlying9 (rdg_arr (len := 32) (cap := 32) rfl (List.take_of_length_le (by simp [hl32])) (by simp [hl32]) (Nat.le_refl _))
    simp only [nm, seval]
    apply VE.cons
    · first | exact Ev.skip (fun _ => rfl) | exact ev_move rfl (fun _ => rfl)
    simp only [nm, seval]
    apply VE.cons
    · first | exact Ev.skip (fun _ => rfl) | exact ev_bin (c := .bool false) rfl (fun _ => rfl) rfl rfl (fun w => str_ne (decide_eq_false (fun h => h rfl)) hl8' hl8' _ _ w)
    simp only [nm, seval]
    apply VE.cons
    · first | exact Ev.skip (fun _ => rfl) | exact ev_pick_t rfl (fun _ => rfl) rfl rfl | exact ev_pick_f rfl (fun _ => rfl) rfl rfl
    simp only [nm, seval]
    apply VE.cons
    · first | exact ev_pick_t rfl (gn rfl) rfl rfl | exact ev_pick_f rfl (gn rfl) rfl rfl
    simp only [nm, seval]
    apply VE.cons
    · exact ev_move rfl (gn rfl)
    simp only [nm, seval]
    apply VE.cons
    · first | exact Ev.skip (fun _ => rfl) | exact ev_move rfl (fun _ => rfl)
    simp only [nm, seval]
    apply VE.cons
    · first | exact Ev.skip (fun _ => rfl) | exact ev_neq (p := false) rfl (fun _ => rfl) rfl rfl (by decide)
    simp only [nm, seval]
    apply VE.cons
    · first | exact Ev.skip (fun _ => rfl) | exact ev_move rfl (fun _ => rfl)
    simp only [nm, seval]
    apply VE.cons
    · first | exact Ev.skip (fun _ => rfl) | exact ev_move rfl (fun _ => rfl)
    simp only [nm, seval]
    apply VE.cons
    · first | exact Ev.skip (fun _ => rfl) | exact ev_neq (p := false) rfl (fun _ => rfl) rfl rfl (by decide)
    simp only [nm, seval]
    apply VE.cons
    · first | exact Ev.skip (fun _ => rfl) | exact ev_pick_t rfl (fun _ => rfl) rfl rfl | exact ev_pick_f rfl (fun _ => rfl) rfl rfl
    simp only [nm, seval]
    apply VE.cons
    · first | exact ev_pick_t rfl (gn rfl) rfl rfl | exact ev_pick_f rfl (gn rfl) rfl rfl
    simp only [nm, seval]
    apply VE.cons
    · exact ev_move rfl (gn rfl)
    simp only [nm, seval]
    apply VE.cons
    · first | exact Ev.skip (fun _ => rfl) | exact ev_move rfl (fun _ => rfl)
    simp only [nm, seval]
    apply VE.cons
    · first | exact Ev.skip (fun _ => rfl) | exact ev_neq (p := false) rfl (fun _ => rfl) rfl rfl (by decide)
    simp only [nm, seval]
    apply VE.cons
    · first | exact Ev.skip (fun _ => rfl) | exact ev_move rfl (fun _ => rfl)
    simp only [nm, seval]
    apply VE.cons
    · first | exact Ev.skip (fun _ => rfl) | exact ev_move rfl (fun _ => rfl)
    simp only [nm, seval]
    apply VE.cons
    · first | exact Ev.skip (fun _ => rfl) | exact ev_neq (p := false) rfl (fun _ => rfl) rfl rfl (by decide)
    simp only [nm, seval]
    apply VE.cons
    · first | exact Ev.skip (fun _ => rfl) | exact ev_pick_t rfl (fun _ => rfl) rfl rfl | exact ev_pick_f rfl (fun _ => rfl) rfl rfl
    simp only [nm, seval]
    apply VE.cons
    · first | exact ev_pick_t rfl (gn rfl) rfl rfl | exact ev_pick_f rfl (gn rfl) rfl rfl
    simp only [nm, seval]
    exact VE.nil _
  · kernel_rfl
  change VOk _ _ _ _ _
  refine vcond_f rfl ?_
  cases q1 <;> cases q2 <;> cases q3 <;> simp only [Bool.and_true, Bool.and_false, Bool.true_and, Bool.false_and, cond_true, cond_false] at hW2 <;> subst hW2 <;>
  (
    refine vskip ?_
    change VOk _ _ _ _ _
    refine vseq ?_
    refine vseq ?_
    apply vrp
    · apply VE.cons
      · first | exact ev_field rfl (gn rfl) rfl Tryd.underlying24 rfl Tryd.sizeOf3 | exact ev_fieldx rfl (gn rfl) rfl Tryd.underlying24 rfl Tryd.sizeOf3
      simp only [nm, seval]
      apply VE.cons
      · exact ev_load1v (v := .int .i64 (tagT (tm t))) (rd := [14]) rfl (gn rfl) rfl rfl Tryd.underlying3 rfl rfl (fun ρ S w' hR => by obtain ⟨c, h1, h2⟩ := datR_get (id := 14) hR (by simp) rfl; exact cell_tag h1 h2)
      simp only [nm, seval]
      apply VE.cons
      · exact ev_eql rfl (gn rfl) rfl rfl h_q1
      simp only [nm, seval]
      apply VE.cons
      · exact ev_move rfl (gn rfl)
      simp only [nm, seval]
      apply VE.cons
      · first | exact Ev.skip (fun _ => rfl) | exact ev_loada rfl (fun _ => rfl) rfl rfl Tryd.underlying24 rfl Tryd.sizeOf24 rfl
      simp only [nm, seval]
      apply VE.cons
      · first | exact Ev.skip (fun _ => rfl) | exact ev_callp (v := .bool true) [14] rfl (fun _ => rfl) rfl (en_of Tryd.func18 (by kernel_rfl) rfl) (fun ρ S w' hb hR => by have := c_rright 14 hok hR (by simp) rfl; rw [h_q2] at this; exact this) | exact ev_callp (v := .bool false) [14] rfl (fun _ => rfl) rfl (en_of Tryd.func18 (by kernel_rfl) rfl) (fun ρ S w' hb hR => by have := c_rright 14 hok hR (by simp) rfl; rw [h_q2] at this; exact this)
      simp only [nm, seval]
      apply VE.cons
      · first | exact ev_pick_t rfl (gn rfl) rfl rfl | exact ev_pick_f rfl (gn rfl) rfl rfl
      simp only [nm, seval]
      apply VE.cons
      · exact ev_move rfl (gn rfl)
      simp only [nm, seval]
      apply VE.cons
      · first | exact Ev.skip (fun _ => rfl) | exact ev_field rfl (fun _ => rfl) rfl Tryd.underlying24 rfl Tryd.sizeOf9 | exact ev_fieldx rfl (fun _ => rfl) rfl Tryd.underlying24 rfl Tryd.sizeOf9
      simp only [nm, seval]
      apply VE.cons
      · first | exact Ev.skip (fun _ => rfl) | exact ev_load1v (v := .string (bstr (bodyOfT (tm t)))) (rd := [14]) rfl (fun _ => rfl) rfl rfl Tryd.underlying9 rfl rfl (fun ρ S w' hR => by obtain ⟨c, h1, h2⟩ := datR_get (id := 14) hR (by simp) rfl; exact cell_body h1 h2)
      simp only [nm, seval]
      apply VE.cons
      · first | exact Ev.skip (fun _ => rfl) | exact ev_lenb rfl (fun _ => rfl) rfl Tryd.underlying9
      simp only [nm, seval]
      apply VE.cons
      · first | exact Ev.skip (fun _ => rfl) | exact ev_leq rfl (fun _ => rfl) rfl rfl h_q3'
      simp only [nm, seval]
      apply VE.cons
      · first | exact ev_pick_t rfl (gn rfl) rfl rfl | exact ev_pick_f rfl (gn rfl) rfl rfl
      simp only [nm, seval]
      exact VE.nil _
    · kernel_rfl
    change VOk _ _ _ _ _
    first
    | (
        refine vcond_t rfl ?_
        refine vseq ?_
        apply vrp
        · apply VE.cons
          · exact ev_move rfl (gn rfl)
          simp only [nm, seval]
          apply VE.cons
          · exact ev_eql (p := true) rfl (gn rfl) rfl rfl (by decide)
          simp only [nm, seval]
          apply VE.cons
          · exact ev_move rfl (gn rfl)
          simp only [nm, seval]
          apply VE.cons
          · first | exact Ev.skip (fun _ => rfl) | exact ev_move rfl (fun _ => rfl)
          simp only [nm, seval]
          apply VE.cons
          · first | exact Ev.skip (fun _ => rfl) | exact ev_field rfl (fun _ => rfl) rfl Tryd.underlying24 rfl Tryd.sizeOf9 | exact ev_fieldx rfl (fun _ => rfl) rfl Tryd.underlying24 rfl Tryd.sizeOf9
          simp only [nm, seval]
          apply VE.cons
          · first | exact Ev.skip (fun _ => rfl) | exact ev_load1v (v := .string (bstr (bodyOfT (tm t)))) (rd := [14]) rfl (fun _ => rfl) rfl rfl Tryd.underlying9 rfl rfl (fun ρ S w' hR => by obtain ⟨c, h1, h2⟩ := datR_get (id := 14) hR (by simp) rfl; exact cell_body h1 h2)
          simp only [nm, seval]
          apply VE.cons
          · first | exact Ev.skip (fun _ => rfl) | exact ev_bin (c := .bool true) rfl (fun _ => rfl) rfl rfl (fun w => str_is (decide_eq_true rfl) hbs.1 hbs.1 _ _ w)
          simp only [nm, seval]
          apply VE.cons
          · first | exact ev_pick_t rfl (gn rfl) rfl rfl | exact ev_pick_f rfl (gn rfl) rfl rfl
          simp only [nm, seval]
          apply VE.cons
          · exact ev_assign rfl (gn rfl)
          simp only [nm, seval]
          exact VE.nil _
        · kernel_rfl
        change VOk _ _ _ _ _
        refine vret ?_
        refine post_ret (res1 Tryd.results5 (rv_tmp rfl)) ?_
        intro ρ w' hr
        exact ⟨rfl, hr.1⟩
      )
    | (
        refine vcond_f rfl ?_
        refine vskip ?_
        change VOk _ _ _ _ _
        refine vseq ?_
        apply vrp
        · apply VE.cons
          · exact ev_move rfl (gn rfl)
          simp only [nm, seval]
          apply VE.cons
          · exact ev_eql (p := true) rfl (gn rfl) rfl rfl (by decide)
          simp only [nm, seval]
          apply VE.cons
          · exact ev_move rfl (gn rfl)
          simp only [nm, seval]
          apply VE.cons
          · first | exact Ev.skip (fun _ => rfl) | exact ev_move rfl (fun _ => rfl)
          simp only [nm, seval]
          apply VE.cons
          · first | exact Ev.skip (fun _ => rfl) | exact ev_bin (c := .bool true) rfl (fun _ => rfl) rfl rfl (fun w => str_is (a := []) (b := []) (decide_eq_true rfl) (fun x hx => by cases hx) (fun x hx => by cases hx) _ _ w)
          simp only [nm, seval]
          apply VE.cons
          · first | exact ev_pick_t rfl (gn rfl) rfl rfl | exact ev_pick_f rfl (gn rfl) rfl rfl
          simp only [nm, seval]
          apply VE.cons
          · exact ev_assign rfl (gn rfl)
          simp only [nm, seval]
          exact VE.nil _
        · kernel_rfl
        change VOk _ _ _ _ _
        refine vret ?_
        refine post_ret (res1 Tryd.results5 (rv_tmp rfl)) ?_
        intro ρ w' hr
        exact ⟨rfl, hr.1⟩
      )
  )
theorem to_law {t : Tr} {x0 x1 x2 : Value} {S : Nat → Prop} (w : World) (hok0 : t.okL) (hx : RN w S t [x0, x1, x2]) : Calls Tryd.prog 5 #[.agg #[x0, x1, x2]] w fun e w' => e = .returned (.bool true) ∧ Bw w w' := by
  cases h8 : valT (tm t) 8 with
  | none =>
    have hX : tnN (tm t) = (0, 2) := by simp only [tnN, h8]
    cases h32 : valT (tm t) 32 with
    | none => exact derTo_nn w hok0 hx hX h8 (by simp only [tbN, h32]) h32
    | some l' => exact derTo_ns w hok0 hx hX h8 h32 (by simp only [tbN, h32]) h32
  | some l =>
    by_cases hs : beN l < 4611686018427387904
    · have hX : tnN (tm t) = (((beN l : Nat) : Int), 0) := by simp only [tnN, h8, decide_eq_true hs, cond_true]
      cases h32 : valT (tm t) 32 with
      | none => exact derTo_sn w hok0 hx h8 hs hX h8 (by simp only [tbN, h32]) h32
      | some l' => exact derTo_ss w hok0 hx h8 hs hX h8 h32 (by simp only [tbN, h32]) h32
    · have hX : tnN (tm t) = (0, 2) := by simp only [tnN, h8, decide_eq_false hs, cond_false]
      cases h32 : valT (tm t) 32 with
      | none => exact derTo_bn w hok0 hx h8 hs hX h8 (by simp only [tbN, h32]) h32
      | some l' => exact derTo_bs w hok0 hx h8 hs hX h8 h32 (by simp only [tbN, h32]) h32
end Go.Proofs.YtmgmiiongleaeaaDoor
