import Derived.Test.YtmgmiiongleaeaaDoorDt
namespace Go.Proofs.YtmgmiiongleaeaaDoor
open Go.RowKit Go.Vx
open Go.Toll (Gw)
set_option maxHeartbeats 4000000
set_option maxRecDepth 100000
/-- what ToWord tells. -/
def wordT : Tr → Bool
  | .mk tg b ks => decide (tg = 12) && (rightT (.mk tg b ks) 1 && decide (b.length ≤ 64))
def bodyOfT : Tr → List Nat
  | .mk _ b _ => b
def twN (t : Tr) : List Nat × Int := bif wordT t then (bodyOfT t, 0) else ([], 2)
theorem toWord_s {tg : Int} {b : List Nat} {ks : List Tr} {bv kv : Value} {S : Nat → Prop} (w : World) (hok : (Tr.mk tg b ks).ok) (hx : DN w S (.mk tg b ks) [.int .i64 tg, bv, kv]) : Calls Tryd.prog 21 #[.agg #[.int .i64 tg, bv, kv]] w fun e w' => e = .returned (.tuple #[.string (bstr (twN (.mk tg b ks)).1), .int .i64 (twN (.mk tg b ks)).2]) ∧ Bw w w' := by
  have e12 : twN (.mk tg b ks) = bif (decide (tg = 12) && (rightT (.mk tg b ks) 1 && decide (b.length ≤ 64))) then (b, 0) else ([], 2) := rfl
  rw [e12]
  have hv : SlAt w bv b.length 1 (b.map b8) S := by
    simp only [DN] at hx
    obtain ⟨bv', kv', cs, e, h2, _⟩ := hx
    simp only [List.cons.injEq, and_true] at e
    rw [e.2.1]; exact h2
  obtain ⟨q1, h_q1⟩ : ∃ p, decide (tg = 12) = p := ⟨_, rfl⟩
  obtain ⟨q2, h_q2⟩ : ∃ p, rightT (.mk tg b ks) 1 = p := ⟨_, rfl⟩
  obtain ⟨q3, h_q3⟩ : ∃ p, decide (b.length ≤ 64) = p := ⟨_, rfl⟩
  have h_q1' : decide (tg ≠ 12) = !q1 := by rw [← h_q1]; exact decide_not
  have h_q3' : decide ((b.length : Int) > ((64 : Nat) : Int)) = !q3 := by rw [← h_q3, ← decide_not]; exact decide_eq_decide.2 (by omega)
  rw [h_q1, h_q2, h_q3]
  go_enter Tryd.func21, Tryd.ntmps21
  refine ve_go ?_
  simp only [List.map_cons, List.map_nil]
  cases q1 <;> cases q2 <;> cases q3 <;>
  (
    refine vseq ?_
    apply vrp
    · apply VE.cons
      · exact ev_box rfl rfl (gn rfl) rfl
      simp only [nm, seval]
      apply VE.cons
      · exact ev_assign rfl (gn rfl)
      simp only [nm, seval]
      apply VE.cons
      · exact ev_assign rfl (gn rfl)
      simp only [nm, seval]
      exact VE.nil _
    · kernel_rfl
    change VOk _ _ _ _ _
    refine vseq ?_
    refine vseq ?_
    apply vrp
    · apply VE.cons
      · first | exact ev_field rfl (gn rfl) rfl Tryd.underlying29 rfl Tryd.sizeOf3 | exact ev_fieldx rfl (gn rfl) rfl Tryd.underlying29 rfl Tryd.sizeOf3
      simp only [nm, seval]
      apply VE.cons
      · first | exact ev_load1 rfl (gn rfl) rfl rfl Tryd.underlying3 rfl rfl | exact ev_loadx1 rfl (gn rfl) rfl Tryd.underlying3 rfl (by assumption)
      simp only [nm, seval]
      apply VE.cons
      · exact ev_neq rfl (gn rfl) rfl rfl h_q1'
      simp only [nm, seval]
      apply VE.cons
      · exact ev_move rfl (gn rfl)
      simp only [nm, seval]
      apply VE.cons
      · first | exact Ev.skip (fun _ => rfl) | exact ev_load rfl (fun _ => rfl) rfl rfl Tryd.underlying29 rfl Tryd.sizeOf29 rfl rfl | exact ev_loadx rfl (fun _ => rfl) rfl Tryd.underlying29 rfl Tryd.sizeOf29 (by assumption) rfl | exact ev_loada rfl (fun _ => rfl) rfl rfl Tryd.underlying29 rfl Tryd.sizeOf29 rfl
      simp only [nm, seval]
      apply VE.cons
      · first | exact Ev.skip (fun _ => rfl) | exact ev_callb rfl (fun _ => rfl) rfl (en_of Tryd.func31 (by kernel_rfl) rfl) (fun w' hb => by have := right_all _ hok 1 _ w' _ (by decide) (DN_bw hb hx); rw [h_q2] at this; exact this)
      simp only [nm, seval]
      apply VE.cons
      · first | exact Ev.skip (fun _ => rfl) | exact ev_not rfl (fun _ => rfl) rfl
      simp only [nm, seval]
      apply VE.cons
      · first | exact ev_pick_t rfl (gn rfl) rfl rfl | exact ev_pick_f rfl (gn rfl) rfl rfl
      simp only [nm, seval]
      apply VE.cons
      · exact ev_move rfl (gn rfl)
      simp only [nm, seval]
      apply VE.cons
      · first | exact Ev.skip (fun _ => rfl) | exact ev_field rfl (fun _ => rfl) rfl Tryd.underlying29 rfl Tryd.sizeOf26 | exact ev_fieldx rfl (fun _ => rfl) rfl Tryd.underlying29 rfl Tryd.sizeOf26
      simp only [nm, seval]
      apply VE.cons
      · first | exact Ev.skip (fun _ => rfl) | exact ev_load1 rfl (fun _ => rfl) rfl rfl Tryd.underlying26 rfl rfl | exact ev_loadx1 rfl (fun _ => rfl) rfl Tryd.underlying26 rfl (by assumption)
      simp only [nm, seval]
      apply VE.cons
      · first | exact Ev.skip (fun _ => rfl) | exact ev_len rfl (fun _ => rfl) rfl Tryd.underlying26 (rdg_arg hv)
      simp only [nm, seval]
      apply VE.cons
      · first | exact Ev.skip (fun _ => rfl) | exact ev_gtr rfl (fun _ => rfl) rfl rfl h_q3'
      simp only [nm, seval]
      apply VE.cons
      · first | exact ev_pick_t rfl (gn rfl) rfl rfl | exact ev_pick_f rfl (gn rfl) rfl rfl
      simp only [nm, seval]
      exact VE.nil _
    · kernel_rfl
    change VOk _ _ _ _ _
    first
    | (
        refine vcond_t rfl ?_
        refine vseq ?_
        apply vrp
        · apply VE.cons
          · exact ev_assign rfl (gn rfl)
          simp only [nm, seval]
          apply VE.cons
          · exact ev_assign rfl (gn rfl)
          simp only [nm, seval]
          exact VE.nil _
        · kernel_rfl
        change VOk _ _ _ _ _
        refine vret ?_
        refine post_ret (res2 Tryd.results21 (rv_tmp rfl) (rv_tmp rfl)) ?_
        intro ρ w' hr
        exact ⟨rfl, hr.1⟩
      )
    | (
        refine vcond_f rfl ?_
        refine vskip ?_
        change VOk _ _ _ _ _
        refine vseq ?_
        apply vrp
        · apply VE.cons
          · first | exact ev_field rfl (gn rfl) rfl Tryd.underlying29 rfl Tryd.sizeOf26 | exact ev_fieldx rfl (gn rfl) rfl Tryd.underlying29 rfl Tryd.sizeOf26
          simp only [nm, seval]
          apply VE.cons
          · first | exact ev_load1 rfl (gn rfl) rfl rfl Tryd.underlying26 rfl rfl | exact ev_loadx1 rfl (gn rfl) rfl Tryd.underlying26 rfl (by assumption)
          simp only [nm, seval]
          apply VE.cons
          · exact ev_convb (bs := b) rfl (gn rfl) rfl Tryd.underlying26 Tryd.underlying5 Tryd.underlying9 (rdg_arg hv)
          simp only [nm, seval]
          apply VE.cons
          · exact ev_assign rfl (gn rfl)
          simp only [nm, seval]
          apply VE.cons
          · exact ev_assign rfl (gn rfl)
          simp only [nm, seval]
          exact VE.nil _
        · kernel_rfl
        change VOk _ _ _ _ _
        refine vret ?_
        refine post_ret (res2 Tryd.results21 (rv_tmp rfl) (rv_tmp rfl)) ?_
        intro ρ w' hr
        exact ⟨rfl, hr.1⟩
      )
  )
theorem toWord_ok {t : Tr} {c : List Value} {S : Nat → Prop} (w : World) (hok : t.ok) (hx : DN w S t c) : Calls Tryd.prog 21 #[.agg c.toArray] w fun e w' => e = .returned (.tuple #[.string (bstr (twN t).1), .int .i64 (twN t).2]) ∧ Bw w w' := by
  cases t with
  | mk tg b ks =>
    have hx' := hx
    simp only [DN] at hx'
    obtain ⟨bv, kv, cs, rfl, _⟩ := hx'
    exact toWord_s w hok hx
/-! ### the document's ToNum -/
def rbadT : Tr → Bool
  | .mk tg b ks => decide (tg ≠ 2) || (!(rightT (.mk tg b ks) 1) || decide (b.headD 0 ≥ 128))
theorem valT_eq (tg : Int) (b : List Nat) (ks : List Tr) (sz : Nat) : valT (.mk tg b ks) sz = bif rbadT (.mk tg b ks) then none else bif decide ((trimL b).length > sz) then none else some (List.replicate (sz - (trimL b).length) 0 ++ trimL b) := by
  simp only [valT, rbadT]
  cases decide (tg ≠ 2) <;> cases rightT (.mk tg b ks) 1 <;> cases decide (b.headD 0 ≥ 128) <;> rfl
theorem rbad_f {tg : Int} {b : List Nat} {ks : List Tr} (h : rbadT (.mk tg b ks) = false) : decide (tg ≠ 2) = false ∧ rightT (.mk tg b ks) 1 = true ∧ decide (b.headD 0 ≥ 128) = false := by
  simp only [rbadT, Bool.or_eq_false_iff, Bool.not_eq_false'] at h
  exact h
theorem trim_z {b : List Nat} (hw : wholeT b = true) (h : b.headD 0 = 0) : ∃ r, b = 0 :: r ∧ trimL b = r := by
  cases b with
  | nil => cases hw
  | cons x r =>
    have hx : x = 0 := h
    subst hx
    refine ⟨r, rfl, ?_⟩
    cases r with
    | nil => rfl
    | cons y r =>
      have hy : y ≠ 0 := by
        intro hy
        subst hy
        simp [wholeT] at hw
      simp [trimL, hy]
theorem trim_nz {b : List Nat} (h : b.headD 0 ≠ 0) : trimL b = b := by
  cases b with
  | nil => rfl
  | cons x r => have hx : x ≠ 0 := h; simp [trimL, hx]
theorem bstr_drop (b : List Nat) (k : Nat) : (bstr b).extract k (bstr b).size = bstr (b.drop k) := by
  apply ByteArray.ext
  simp only [bstr, ByteArray.data_extract]
  apply Array.ext'
  simp [Array.toList_extract, List.extract_eq_take_drop, List.map_drop, ByteArray.size]
  exact List.take_of_length_le (by simp)
theorem ev_cutlo {w0 : World} {ops : Array Oper} {o : Oper} {s : VS} {ty : TypeId} {x y : Operand} {b b' : List Nat} {k : Nat} (ho : o.op = .slice ty x (some y) none none) (hgd : Want ops o s) (hx : svEval s x = .v (.string (bstr b))) (hy : svEval s y = .v (.int .i64 (k : Nat))) (hu : Tryd.prog.underlying ty = some .string) (hk : k ≤ b.length) (hb' : b.drop k = b') : Ev Tryd.prog ops w0 o s ⟨.v (.string (bstr b')), [], [], [], []⟩ :=
  Ev.run _ _ hgd fun ρ S w hbw hR => by
    subst hb'
    have e0 := svEval_c s ρ x
    rw [hx] at e0
    have e1 := svEval_c s ρ y
    rw [hy] at e1
    simp only [SV.c] at e0 e1
    have h1 : (0 : Int) ≤ (k : Int) ∧ (k : Int) ≤ ((bstr b).size : Int) := by rw [bstr_size]; omega
    have h3 := bstr_drop b k
    simp [execOp, ho, e0, e1, SV.c, Instr.sliceAt, Instr.slice, Instr.sliceBounds, Instr.sliceBound, asIntOf, run_underlying hu, h1]
    rw [if_pos (by omega), h3]
theorem trim_len' (b : List Nat) : (trimL b).length ≤ b.length := trimL_len b
theorem get0 {l : List Nat} (h : 0 < l.length) : l[0]? = some (l.headD 0) := by
  cases l with
  | nil => simp at h
  | cons x r => rfl
theorem zeros_map (k : Nat) : List.replicate k (Value.int .u8 0) = (List.replicate k 0).map b8 := by rw [List.map_replicate]; rfl
theorem rToNum_na {tg : Int} {b : List Nat} {ks : List Tr} {kv : Value} {S : Nat → Prop} {sz : Nat} (w : World) (hok : (Tr.mk tg b ks).ok) (hx : RN w S (.mk tg b ks) [.int .i64 tg, .string (bstr b), kv]) (hsz : sz ≤ 64) (h_q1 : decide (tg ≠ 2) = true) : Calls Tryd.prog 22 #[.agg #[.int .i64 tg, .string (bstr b), kv], .int .i64 (sz : Nat)] w fun e w' => e = .returned (.tuple #[.string (bstr []), .bool false]) ∧ Bw w w' := by
  have h8 : ∀ x ∈ b, x < 256 := by simp only [Tr.ok] at hok; exact hok.1
  have hbm : b.length ≤ 1048576 := by simp only [Tr.ok] at hok; exact hok.2.1
  go_enter Tryd.func22, Tryd.ntmps22
  refine ve_go ?_
  simp only [List.map_cons, List.map_nil]
  refine vseq ?_
  apply vrp
  · apply VE.cons
    · exact ev_box rfl rfl (gn rfl) rfl
    simp only [nm, seval]
    apply VE.cons
    · exact ev_assign rfl (gn rfl)
    simp only [nm, seval]
    apply VE.cons
    · exact ev_assign rfl (gn rfl)
    simp only [nm, seval]
    exact VE.nil _
  · kernel_rfl
  change VOk _ _ _ _ _
  refine vseq ?_
  refine vseq ?_
  apply vrp
  · apply VE.cons
    · first | exact ev_field rfl (gn rfl) rfl Tryd.underlying24 rfl Tryd.sizeOf3 | exact ev_fieldx rfl (gn rfl) rfl Tryd.underlying24 rfl Tryd.sizeOf3
    simp only [nm, seval]
    apply VE.cons
    · first | exact ev_load1 rfl (gn rfl) rfl rfl Tryd.underlying3 rfl rfl | exact ev_loadx1 rfl (gn rfl) rfl Tryd.underlying3 rfl (by assumption)
    simp only [nm, seval]
    apply VE.cons
    · exact ev_neq rfl (gn rfl) rfl rfl h_q1
    simp only [nm, seval]
    apply VE.cons
    · exact ev_move rfl (gn rfl)
    simp only [nm, seval]
    apply VE.cons
    · first | exact Ev.skip (fun _ => rfl) | exact ev_load rfl (fun _ => rfl) rfl rfl Tryd.underlying24 rfl Tryd.sizeOf24 rfl rfl | exact ev_loadx rfl (fun _ => rfl) rfl Tryd.underlying24 rfl Tryd.sizeOf24 (by assumption) rfl | exact ev_loada rfl (fun _ => rfl) rfl rfl Tryd.underlying24 rfl Tryd.sizeOf24 rfl
    simp only [nm, seval]
    apply VE.cons
    · first | exact Ev.skip (fun _ => rfl) | exact ev_callb rfl (fun _ => rfl) rfl (en_of Tryd.func18 (by kernel_rfl) rfl) (fun w' hb => by have := rright_all _ hok 1 _ w' _ (by decide) (RN_bw hb hx); rw [h_q2] at this; exact this)
    simp only [nm, seval]
    apply VE.cons
    · first | exact Ev.skip (fun _ => rfl) | exact ev_not rfl (fun _ => rfl) rfl
    simp only [nm, seval]
    apply VE.cons
    · first | exact ev_pick_t rfl (gn rfl) rfl rfl | exact ev_pick_f rfl (gn rfl) rfl rfl
    simp only [nm, seval]
    apply VE.cons
    · exact ev_move rfl (gn rfl)
    simp only [nm, seval]
    apply VE.cons
    · first | exact Ev.skip (fun _ => rfl) | exact ev_field rfl (fun _ => rfl) rfl Tryd.underlying24 rfl Tryd.sizeOf9 | exact ev_fieldx rfl (fun _ => rfl) rfl Tryd.underlying24 rfl Tryd.sizeOf9
    simp only [nm, seval]
    apply VE.cons
    · first | exact Ev.skip (fun _ => rfl) | exact ev_load1 rfl (fun _ => rfl) rfl rfl Tryd.underlying9 rfl rfl | exact ev_loadx1 rfl (fun _ => rfl) rfl Tryd.underlying9 rfl (by assumption)
    simp only [nm, seval]
    apply VE.cons
    · first | exact Ev.skip (fun _ => rfl) | exact ev_idxb (k := 0) rfl (fun _ => rfl) rfl rfl Tryd.underlying9 (hg0) (hh8)
    simp only [nm, seval]
    apply VE.cons
    · first | exact Ev.skip (fun _ => rfl) | exact ev_geq5 rfl (fun _ => rfl) rfl rfl h_q3'
    simp only [nm, seval]
    apply VE.cons
    · first | exact ev_pick_t rfl (gn rfl) rfl rfl | exact ev_pick_f rfl (gn rfl) rfl rfl
    simp only [nm, seval]
    exact VE.nil _
  · kernel_rfl
  change VOk _ _ _ _ _
  refine vcond_t rfl ?_
  refine vseq ?_
  apply vrp
  · apply VE.cons
    · exact ev_assign rfl (gn rfl)
    simp only [nm, seval]
    apply VE.cons
    · exact ev_assign rfl (gn rfl)
    simp only [nm, seval]
    exact VE.nil _
  · kernel_rfl
  change VOk _ _ _ _ _
  refine vret ?_
  refine post_ret (res2 Tryd.results22 (rv_tmp rfl) (rv_tmp rfl)) ?_
  intro ρ w' hr
  exact ⟨rfl, hr.1⟩
theorem rToNum_nb {tg : Int} {b : List Nat} {ks : List Tr} {kv : Value} {S : Nat → Prop} {sz : Nat} (w : World) (hok : (Tr.mk tg b ks).ok) (hx : RN w S (.mk tg b ks) [.int .i64 tg, .string (bstr b), kv]) (hsz : sz ≤ 64) (h_q1 : decide (tg ≠ 2) = false) (h_q2 : rightT (.mk tg b ks) 1 = false) : Calls Tryd.prog 22 #[.agg #[.int .i64 tg, .string (bstr b), kv], .int .i64 (sz : Nat)] w fun e w' => e = .returned (.tuple #[.string (bstr []), .bool false]) ∧ Bw w w' := by
  have h8 : ∀ x ∈ b, x < 256 := by simp only [Tr.ok] at hok; exact hok.1
  have hbm : b.length ≤ 1048576 := by simp only [Tr.ok] at hok; exact hok.2.1
  go_enter Tryd.func22, Tryd.ntmps22
  refine ve_go ?_
  simp only [List.map_cons, List.map_nil]
  refine vseq ?_
  apply vrp
  · apply VE.cons
    · exact ev_box rfl rfl (gn rfl) rfl
    simp only [nm, seval]
    apply VE.cons
    · exact ev_assign rfl (gn rfl)
    simp only [nm, seval]
    apply VE.cons
    · exact ev_assign rfl (gn rfl)
    simp only [nm, seval]
    exact VE.nil _
  · kernel_rfl
  change VOk _ _ _ _ _
  refine vseq ?_
  refine vseq ?_
  apply vrp
  · apply VE.cons
    · first | exact ev_field rfl (gn rfl) rfl Tryd.underlying24 rfl Tryd.sizeOf3 | exact ev_fieldx rfl (gn rfl) rfl Tryd.underlying24 rfl Tryd.sizeOf3
    simp only [nm, seval]
    apply VE.cons
    · first | exact ev_load1 rfl (gn rfl) rfl rfl Tryd.underlying3 rfl rfl | exact ev_loadx1 rfl (gn rfl) rfl Tryd.underlying3 rfl (by assumption)
    simp only [nm, seval]
    apply VE.cons
    · exact ev_neq rfl (gn rfl) rfl rfl h_q1
    simp only [nm, seval]
    apply VE.cons
    · exact ev_move rfl (gn rfl)
    simp only [nm, seval]
    apply VE.cons
    · first | exact Ev.skip (fun _ => rfl) | exact ev_load rfl (fun _ => rfl) rfl rfl Tryd.underlying24 rfl Tryd.sizeOf24 rfl rfl | exact ev_loadx rfl (fun _ => rfl) rfl Tryd.underlying24 rfl Tryd.sizeOf24 (by assumption) rfl | exact ev_loada rfl (fun _ => rfl) rfl rfl Tryd.underlying24 rfl Tryd.sizeOf24 rfl
    simp only [nm, seval]
    apply VE.cons
    · first | exact Ev.skip (fun _ => rfl) | exact ev_callb rfl (fun _ => rfl) rfl (en_of Tryd.func18 (by kernel_rfl) rfl) (fun w' hb => by have := rright_all _ hok 1 _ w' _ (by decide) (RN_bw hb hx); rw [h_q2] at this; exact this)
    simp only [nm, seval]
    apply VE.cons
    · first | exact Ev.skip (fun _ => rfl) | exact ev_not rfl (fun _ => rfl) rfl
    simp only [nm, seval]
    apply VE.cons
    · first | exact ev_pick_t rfl (gn rfl) rfl rfl | exact ev_pick_f rfl (gn rfl) rfl rfl
    simp only [nm, seval]
    apply VE.cons
    · exact ev_move rfl (gn rfl)
    simp only [nm, seval]
    apply VE.cons
    · first | exact Ev.skip (fun _ => rfl) | exact ev_field rfl (fun _ => rfl) rfl Tryd.underlying24 rfl Tryd.sizeOf9 | exact ev_fieldx rfl (fun _ => rfl) rfl Tryd.underlying24 rfl Tryd.sizeOf9
    simp only [nm, seval]
    apply VE.cons
    · first | exact Ev.skip (fun _ => rfl) | exact ev_load1 rfl (fun _ => rfl) rfl rfl Tryd.underlying9 rfl rfl | exact ev_loadx1 rfl (fun _ => rfl) rfl Tryd.underlying9 rfl (by assumption)
    simp only [nm, seval]
    apply VE.cons
    · first | exact Ev.skip (fun _ => rfl) | exact ev_idxb (k := 0) rfl (fun _ => rfl) rfl rfl Tryd.underlying9 (hg0) (hh8)
    simp only [nm, seval]
    apply VE.cons
    · first | exact Ev.skip (fun _ => rfl) | exact ev_geq5 rfl (fun _ => rfl) rfl rfl h_q3'
    simp only [nm, seval]
    apply VE.cons
    · first | exact ev_pick_t rfl (gn rfl) rfl rfl | exact ev_pick_f rfl (gn rfl) rfl rfl
    simp only [nm, seval]
    exact VE.nil _
  · kernel_rfl
  change VOk _ _ _ _ _
  refine vcond_t rfl ?_
  refine vseq ?_
  apply vrp
  · apply VE.cons
    · exact ev_assign rfl (gn rfl)
    simp only [nm, seval]
    apply VE.cons
    · exact ev_assign rfl (gn rfl)
    simp only [nm, seval]
    exact VE.nil _
  · kernel_rfl
  change VOk _ _ _ _ _
  refine vret ?_
  refine post_ret (res2 Tryd.results22 (rv_tmp rfl) (rv_tmp rfl)) ?_
  intro ρ w' hr
  exact ⟨rfl, hr.1⟩
theorem rToNum_nc {tg : Int} {b : List Nat} {ks : List Tr} {kv : Value} {S : Nat → Prop} {sz : Nat} (w : World) (hok : (Tr.mk tg b ks).ok) (hx : RN w S (.mk tg b ks) [.int .i64 tg, .string (bstr b), kv]) (hsz : sz ≤ 64) (h_q1 : decide (tg ≠ 2) = false) (h_q2 : rightT (.mk tg b ks) 1 = true) (h_q3 : decide (b.headD 0 ≥ 128) = true) : Calls Tryd.prog 22 #[.agg #[.int .i64 tg, .string (bstr b), kv], .int .i64 (sz : Nat)] w fun e w' => e = .returned (.tuple #[.string (bstr []), .bool false]) ∧ Bw w w' := by
  have h8 : ∀ x ∈ b, x < 256 := by simp only [Tr.ok] at hok; exact hok.1
  have hbm : b.length ≤ 1048576 := by simp only [Tr.ok] at hok; exact hok.2.1
  have h_q3' := (nat_ge (b.headD 0) 128).trans h_q3
  have hg0 : b[0]? = some (b.headD 0) := get0 (whole_pos (right2 h_q1 h_q2))
  have hh8 : b.headD 0 < 256 := h8 _ (List.mem_of_getElem? hg0)
  go_enter Tryd.func22, Tryd.ntmps22
  refine ve_go ?_
  simp only [List.map_cons, List.map_nil]
  refine vseq ?_
  apply vrp
  · apply VE.cons
    · exact ev_box rfl rfl (gn rfl) rfl
    simp only [nm, seval]
    apply VE.cons
    · exact ev_assign rfl (gn rfl)
    simp only [nm, seval]
    apply VE.cons
    · exact ev_assign rfl (gn rfl)
    simp only [nm, seval]
    exact VE.nil _
  · kernel_rfl
  change VOk _ _ _ _ _
  refine vseq ?_
  refine vseq ?_
  apply vrp
  · apply VE.cons
    · first | exact ev_field rfl (gn rfl) rfl Tryd.underlying24 rfl Tryd.sizeOf3 | exact ev_fieldx rfl (gn rfl) rfl Tryd.underlying24 rfl Tryd.sizeOf3
    simp only [nm, seval]
    apply VE.cons
    · first | exact ev_load1 rfl (gn rfl) rfl rfl Tryd.underlying3 rfl rfl | exact ev_loadx1 rfl (gn rfl) rfl Tryd.underlying3 rfl (by assumption)
    simp only [nm, seval]
    apply VE.cons
    · exact ev_neq rfl (gn rfl) rfl rfl h_q1
    simp only [nm, seval]
    apply VE.cons
    · exact ev_move rfl (gn rfl)
    simp only [nm, seval]
    apply VE.cons
    · first | exact Ev.skip (fun _ => rfl) | exact ev_load rfl (fun _ => rfl) rfl rfl Tryd.underlying24 rfl Tryd.sizeOf24 rfl rfl | exact ev_loadx rfl (fun _ => rfl) rfl Tryd.underlying24 rfl Tryd.sizeOf24 (by assumption) rfl | exact ev_loada rfl (fun _ => rfl) rfl rfl Tryd.underlying24 rfl Tryd.sizeOf24 rfl
    simp only [nm, seval]
    apply VE.cons
    · first | exact Ev.skip (fun _ => rfl) | exact ev_callb rfl (fun _ => rfl) rfl (en_of Tryd.func18 (by kernel_rfl) rfl) (fun w' hb => by have := rright_all _ hok 1 _ w' _ (by decide) (RN_bw hb hx); rw [h_q2] at this; exact this)
    simp only [nm, seval]
    apply VE.cons
    · first | exact Ev.skip (fun _ => rfl) | exact ev_not rfl (fun _ => rfl) rfl
    simp only [nm, seval]
    apply VE.cons
    · first | exact ev_pick_t rfl (gn rfl) rfl rfl | exact ev_pick_f rfl (gn rfl) rfl rfl
    simp only [nm, seval]
    apply VE.cons
    · exact ev_move rfl (gn rfl)
    simp only [nm, seval]
    apply VE.cons
    · first | exact Ev.skip (fun _ => rfl) | exact ev_field rfl (fun _ => rfl) rfl Tryd.underlying24 rfl Tryd.sizeOf9 | exact ev_fieldx rfl (fun _ => rfl) rfl Tryd.underlying24 rfl Tryd.sizeOf9
    simp only [nm, seval]
    apply VE.cons
    · first | exact Ev.skip (fun _ => rfl) | exact ev_load1 rfl (fun _ => rfl) rfl rfl Tryd.underlying9 rfl rfl | exact ev_loadx1 rfl (fun _ => rfl) rfl Tryd.underlying9 rfl (by assumption)
    simp only [nm, seval]
    apply VE.cons
    · first | exact Ev.skip (fun _ => rfl) | exact ev_idxb (k := 0) rfl (fun _ => rfl) rfl rfl Tryd.underlying9 (hg0) (hh8)
    simp only [nm, seval]
    apply VE.cons
    · first | exact Ev.skip (fun _ => rfl) | exact ev_geq5 rfl (fun _ => rfl) rfl rfl h_q3'
    simp only [nm, seval]
    apply VE.cons
    · first | exact ev_pick_t rfl (gn rfl) rfl rfl | exact ev_pick_f rfl (gn rfl) rfl rfl
    simp only [nm, seval]
    exact VE.nil _
  · kernel_rfl
  change VOk _ _ _ _ _
  refine vcond_t rfl ?_
  refine vseq ?_
  apply vrp
  · apply VE.cons
    · exact ev_assign rfl (gn rfl)
    simp only [nm, seval]
    apply VE.cons
    · exact ev_assign rfl (gn rfl)
    simp only [nm, seval]
    exact VE.nil _
  · kernel_rfl
  change VOk _ _ _ _ _
  refine vret ?_
  refine post_ret (res2 Tryd.results22 (rv_tmp rfl) (rv_tmp rfl)) ?_
  intro ρ w' hr
  exact ⟨rfl, hr.1⟩
theorem rToNum_n {tg : Int} {b : List Nat} {ks : List Tr} {kv : Value} {S : Nat → Prop} {sz : Nat} (w : World) (hok : (Tr.mk tg b ks).ok) (hx : RN w S (.mk tg b ks) [.int .i64 tg, .string (bstr b), kv]) (hsz : sz ≤ 64) (h : rbadT (.mk tg b ks) = true) : Calls Tryd.prog 22 #[.agg #[.int .i64 tg, .string (bstr b), kv], .int .i64 (sz : Nat)] w fun e w' => e = .returned (.tuple #[.string (bstr []), .bool false]) ∧ Bw w w' := by
  have hq : (decide (tg ≠ 2) || (!(rightT (.mk tg b ks) 1) || decide (b.headD 0 ≥ 128))) = true := h
  cases q1 : decide (tg ≠ 2) with
  | true => exact rToNum_na w hok hx hsz q1
  | false =>
    cases q2 : rightT (.mk tg b ks) 1 with
    | false => exact rToNum_nb w hok hx hsz q1 q2
    | true =>
      rw [q1, q2] at hq
      exact rToNum_nc w hok hx hsz q1 q2 hq
theorem rToNum_z {tg : Int} {b : List Nat} {ks : List Tr} {kv : Value} {S : Nat → Prop} {sz : Nat} (w : World) (hok : (Tr.mk tg b ks).ok) (hx : RN w S (.mk tg b ks) [.int .i64 tg, .string (bstr b), kv]) (hsz : sz ≤ 64) (h : rbadT (.mk tg b ks) = false) (hz : b.headD 0 = 0) : Calls Tryd.prog 22 #[.agg #[.int .i64 tg, .string (bstr b), kv], .int .i64 (sz : Nat)] w fun e w' => e = .returned (.tuple #[.string (bstr (bif decide ((trimL b).length > sz) then [] else List.replicate (sz - (trimL b).length) 0 ++ trimL b)), .bool (!decide ((trimL b).length > sz))]) ∧ Bw w w' := by
  have h8 : ∀ x ∈ b, x < 256 := by simp only [Tr.ok] at hok; exact hok.1
  have hbm : b.length ≤ 1048576 := by simp only [Tr.ok] at hok; exact hok.2.1
  obtain ⟨h_q1, h_q2, h_q3⟩ := rbad_f h
  have h_q3' := (nat_ge (b.headD 0) 128).trans h_q3
  have hg0 : b[0]? = some (b.headD 0) := get0 (whole_pos (right2 h_q1 h_q2))
  have hh8 : b.headD 0 < 256 := h8 _ (List.mem_of_getElem? hg0)
  have htl := trimL_len b
  obtain ⟨q4, h_q4⟩ : ∃ p, decide ((trimL b).length > sz) = p := ⟨_, rfl⟩
  have h_q4' := (nat_gt (trimL b).length sz).trans h_q4
  obtain ⟨r, hbr, htr⟩ := trim_z (right2 h_q1 h_q2) hz
  have hd1 : b.drop 1 = trimL b := by rw [htr, hbr]; rfl
  rw [h_q4]
  go_enter Tryd.func22, Tryd.ntmps22
  refine ve_go ?_
  simp only [List.map_cons, List.map_nil]
  refine vseq ?_
  apply vrp
  · apply VE.cons
    · exact ev_box rfl rfl (gn rfl) rfl
    simp only [nm, seval]
    apply VE.cons
    · exact ev_assign rfl (gn rfl)
    simp only [nm, seval]
    apply VE.cons
    · exact ev_assign rfl (gn rfl)
    simp only [nm, seval]
    exact VE.nil _
  · kernel_rfl
  change VOk _ _ _ _ _
  refine vseq ?_
  refine vseq ?_
  apply vrp
  · apply VE.cons
    · first | exact ev_field rfl (gn rfl) rfl Tryd.underlying24 rfl Tryd.sizeOf3 | exact ev_fieldx rfl (gn rfl) rfl Tryd.underlying24 rfl Tryd.sizeOf3
    simp only [nm, seval]
    apply VE.cons
    · first | exact ev_load1 rfl (gn rfl) rfl rfl Tryd.underlying3 rfl rfl | exact ev_loadx1 rfl (gn rfl) rfl Tryd.underlying3 rfl (by assumption)
    simp only [nm, seval]
    apply VE.cons
    · exact ev_neq rfl (gn rfl) rfl rfl h_q1
    simp only [nm, seval]
    apply VE.cons
    · exact ev_move rfl (gn rfl)
    simp only [nm, seval]
    apply VE.cons
    · first | exact Ev.skip (fun _ => rfl) | exact ev_load rfl (fun _ => rfl) rfl rfl Tryd.underlying24 rfl Tryd.sizeOf24 rfl rfl | exact ev_loadx rfl (fun _ => rfl) rfl Tryd.underlying24 rfl Tryd.sizeOf24 (by assumption) rfl | exact ev_loada rfl (fun _ => rfl) rfl rfl Tryd.underlying24 rfl Tryd.sizeOf24 rfl
    simp only [nm, seval]
    apply VE.cons
    · first | exact Ev.skip (fun _ => rfl) | exact ev_callb rfl (fun _ => rfl) rfl (en_of Tryd.func18 (by kernel_rfl) rfl) (fun w' hb => by have := rright_all _ hok 1 _ w' _ (by decide) (RN_bw hb hx); rw [h_q2] at this; exact this)
    simp only [nm, seval]
    apply VE.cons
    · first | exact Ev.skip (fun _ => rfl) | exact ev_not rfl (fun _ => rfl) rfl
    simp only [nm, seval]
    apply VE.cons
    · first | exact ev_pick_t rfl (gn rfl) rfl rfl | exact ev_pick_f rfl (gn rfl) rfl rfl
    simp only [nm, seval]
    apply VE.cons
    · exact ev_move rfl (gn rfl)
    simp only [nm, seval]
    apply VE.cons
    · first | exact Ev.skip (fun _ => rfl) | exact ev_field rfl (fun _ => rfl) rfl Tryd.underlying24 rfl Tryd.sizeOf9 | exact ev_fieldx rfl (fun _ => rfl) rfl Tryd.underlying24 rfl Tryd.sizeOf9
    simp only [nm, seval]
    apply VE.cons
    · first | exact Ev.skip (fun _ => rfl) | exact ev_load1 rfl (fun _ => rfl) rfl rfl Tryd.underlying9 rfl rfl | exact ev_loadx1 rfl (fun _ => rfl) rfl Tryd.underlying9 rfl (by assumption)
    simp only [nm, seval]
    apply VE.cons
    · first | exact Ev.skip (fun _ => rfl) | exact ev_idxb (k := 0) rfl (fun _ => rfl) rfl rfl Tryd.underlying9 (hg0) (hh8)
    simp only [nm, seval]
    apply VE.cons
    · first | exact Ev.skip (fun _ => rfl) | exact ev_geq5 rfl (fun _ => rfl) rfl rfl h_q3'
    simp only [nm, seval]
    apply VE.cons
    · first | exact ev_pick_t rfl (gn rfl) rfl rfl | exact ev_pick_f rfl (gn rfl) rfl rfl
    simp only [nm, seval]
    exact VE.nil _
  · kernel_rfl
  change VOk _ _ _ _ _
  refine vcond_f rfl ?_
  refine vskip ?_
  change VOk _ _ _ _ _
  refine vseq ?_
  apply vrp
  · apply VE.cons
    · first | exact ev_field rfl (gn rfl) rfl Tryd.underlying24 rfl Tryd.sizeOf9 | exact ev_fieldx rfl (gn rfl) rfl Tryd.underlying24 rfl Tryd.sizeOf9
    simp only [nm, seval]
    apply VE.cons
    · first | exact ev_load1 rfl (gn rfl) rfl rfl Tryd.underlying9 rfl rfl | exact ev_loadx1 rfl (gn rfl) rfl Tryd.underlying9 rfl (by assumption)
    simp only [nm, seval]
    apply VE.cons
    · exact ev_assign rfl (gn rfl)
    simp only [nm, seval]
    exact VE.nil _
  · kernel_rfl
  change VOk _ _ _ _ _
  refine vseq ?_
  refine vseq ?_
  apply vrp
  · apply VE.cons
    · exact ev_move rfl (gn rfl)
    simp only [nm, seval]
    apply VE.cons
    · exact ev_idxb (k := 0) rfl (gn rfl) rfl rfl Tryd.underlying9 (hg0) (hh8)
    simp only [nm, seval]
    apply VE.cons
    · exact ev_eql (p := true) rfl (gn rfl) rfl rfl (decide_eq_true (by omega))
    simp only [nm, seval]
    exact VE.nil _
  · kernel_rfl
  change VOk _ _ _ _ _
  refine vcond_t rfl ?_
  apply vrp
  · apply VE.cons
    · exact ev_move rfl (gn rfl)
    simp only [nm, seval]
    apply VE.cons
    · exact ev_cutlo (k := 1) (b := b) (b' := trimL b) rfl (gn rfl) rfl rfl Tryd.underlying9 (whole_pos (right2 h_q1 h_q2)) hd1
    simp only [nm, seval]
    apply VE.cons
    · exact ev_assign rfl (gn rfl)
    simp only [nm, seval]
    exact VE.nil _
  · kernel_rfl
  change VOk _ _ _ _ _
  refine vseq ?_
  refine vseq ?_
  apply vrp
  · apply VE.cons
    · exact ev_move rfl (gn rfl)
    simp only [nm, seval]
    apply VE.cons
    · exact ev_lenb rfl (gn rfl) rfl Tryd.underlying9
    simp only [nm, seval]
    apply VE.cons
    · exact ev_move rfl (gn rfl)
    simp only [nm, seval]
    apply VE.cons
    · exact ev_gtr rfl (gn rfl) rfl rfl h_q4'
    simp only [nm, seval]
    exact VE.nil _
  · kernel_rfl
  change VOk _ _ _ _ _
  cases q4
  · refine vcond_f rfl ?_
    refine vskip ?_
    change VOk _ _ _ _ _
    refine vseq ?_
    apply vrp
    · apply VE.cons
      · exact ev_move rfl (gn rfl)
      simp only [nm, seval]
      apply VE.cons
      · exact ev_move rfl (gn rfl)
      simp only [nm, seval]
      apply VE.cons
      · exact ev_lenb rfl (gn rfl) rfl Tryd.underlying9
      simp only [nm, seval]
      apply VE.cons
      · exact ev_sub (c := ((sz - (trimL b).length : Nat) : Int)) rfl (gn rfl) rfl rfl (by have := of_decide_eq_false h_q4; rw [i64w (by omega) (by omega)]; omega)
      simp only [nm, seval]
      apply VE.cons
      · exact ev_makeslice rfl rfl (gn rfl) rfl rfl Tryd.underlying26 el5 Tryd.zeroValue5 rfl (by omega)
      simp only [nm, seval]
      apply VE.cons
      · exact ev_convb (bs := List.replicate (sz - (trimL b).length) 0) rfl (gn rfl) rfl Tryd.underlying26 Tryd.underlying5 Tryd.underlying9 (by rw [← zeros_map]; exact rdg_row rfl)
      simp only [nm, seval]
      apply VE.cons
      · exact ev_move rfl (gn rfl)
      simp only [nm, seval]
      apply VE.cons
      · exact ev_bin (c := .string (bstr (List.replicate (sz - (trimL b).length) 0 ++ trimL b))) rfl (gn rfl) rfl rfl (fun w => str_add _ _ (by rw [List.length_replicate]; omega) _ _ w)
      simp only [nm, seval]
      apply VE.cons
      · exact ev_assign rfl (gn rfl)
      simp only [nm, seval]
      apply VE.cons
      · exact ev_assign rfl (gn rfl)
      simp only [nm, seval]
      exact VE.nil _
    · kernel_rfl
    change VOk _ _ _ _ _
    refine vret ?_
    refine post_ret (res2 Tryd.results22 (rv_tmp rfl) (rv_tmp rfl)) ?_
    intro ρ w' hr
    exact ⟨rfl, hr.1⟩
  · refine vcond_t rfl ?_
    refine vseq ?_
    apply vrp
    · apply VE.cons
      · exact ev_assign rfl (gn rfl)
      simp only [nm, seval]
      apply VE.cons
      · exact ev_assign rfl (gn rfl)
      simp only [nm, seval]
      exact VE.nil _
    · kernel_rfl
    change VOk _ _ _ _ _
    refine vret ?_
    refine post_ret (res2 Tryd.results22 (rv_tmp rfl) (rv_tmp rfl)) ?_
    intro ρ w' hr
    exact ⟨rfl, hr.1⟩
theorem rToNum_p {tg : Int} {b : List Nat} {ks : List Tr} {kv : Value} {S : Nat → Prop} {sz : Nat} (w : World) (hok : (Tr.mk tg b ks).ok) (hx : RN w S (.mk tg b ks) [.int .i64 tg, .string (bstr b), kv]) (hsz : sz ≤ 64) (h : rbadT (.mk tg b ks) = false) (hz : b.headD 0 ≠ 0) (htb : trimL b = b) : Calls Tryd.prog 22 #[.agg #[.int .i64 tg, .string (bstr b), kv], .int .i64 (sz : Nat)] w fun e w' => e = .returned (.tuple #[.string (bstr (bif decide (b.length > sz) then [] else List.replicate (sz - b.length) 0 ++ b)), .bool (!decide (b.length > sz))]) ∧ Bw w w' := by
  have h8 : ∀ x ∈ b, x < 256 := by simp only [Tr.ok] at hok; exact hok.1
  have hbm : b.length ≤ 1048576 := by simp only [Tr.ok] at hok; exact hok.2.1
  obtain ⟨h_q1, h_q2, h_q3⟩ := rbad_f h
  have h_q3' := (nat_ge (b.headD 0) 128).trans h_q3
  have hg0 : b[0]? = some (b.headD 0) := get0 (whole_pos (right2 h_q1 h_q2))
  have hh8 : b.headD 0 < 256 := h8 _ (List.mem_of_getElem? hg0)
  have htl := Nat.le_refl b.length
  obtain ⟨q4, h_q4⟩ : ∃ p, decide (b.length > sz) = p := ⟨_, rfl⟩
  have h_q4' := (nat_gt b.length sz).trans h_q4
  rw [h_q4]
  go_enter Tryd.func22, Tryd.ntmps22
  refine ve_go ?_
  simp only [List.map_cons, List.map_nil]
  refine vseq ?_
  apply vrp
  · apply VE.cons
    · exact ev_box rfl rfl (gn rfl) rfl
    simp only [nm, seval]
    apply VE.cons
    · exact ev_assign rfl (gn rfl)
    simp only [nm, seval]
    apply VE.cons
    · exact ev_assign rfl (gn rfl)
    simp only [nm, seval]
    exact VE.nil _
  · kernel_rfl
  change VOk _ _ _ _ _
  refine vseq ?_
  refine vseq ?_
  apply vrp
  · apply VE.cons
    · first | exact ev_field rfl (gn rfl) rfl Tryd.underlying24 rfl Tryd.sizeOf3 | exact ev_fieldx rfl (gn rfl) rfl Tryd.underlying24 rfl Tryd.sizeOf3
    simp only [nm, seval]
    apply VE.cons
    · first | exact ev_load1 rfl (gn rfl) rfl rfl Tryd.underlying3 rfl rfl | exact ev_loadx1 rfl (gn rfl) rfl Tryd.underlying3 rfl (by assumption)
    simp only [nm, seval]
    apply VE.cons
    · exact ev_neq rfl (gn rfl) rfl rfl h_q1
    simp only [nm, seval]
    apply VE.cons
    · exact ev_move rfl (gn rfl)
    simp only [nm, seval]
    apply VE.cons
    · first | exact Ev.skip (fun _ => rfl) | exact ev_load rfl (fun _ => rfl) rfl rfl Tryd.underlying24 rfl Tryd.sizeOf24 rfl rfl | exact ev_loadx rfl (fun _ => rfl) rfl Tryd.underlying24 rfl Tryd.sizeOf24 (by assumption) rfl | exact ev_loada rfl (fun _ => rfl) rfl rfl Tryd.underlying24 rfl Tryd.sizeOf24 rfl
    simp only [nm, seval]
    apply VE.cons
    · first | exact Ev.skip (fun _ => rfl) | exact ev_callb rfl (fun _ => rfl) rfl (en_of Tryd.func18 (by kernel_rfl) rfl) (fun w' hb => by have := rright_all _ hok 1 _ w' _ (by decide) (RN_bw hb hx); rw [h_q2] at this; exact this)
    simp only [nm, seval]
    apply VE.cons
    · first | exact Ev.skip (fun _ => rfl) | exact ev_not rfl (fun _ => rfl) rfl
    simp only [nm, seval]
    apply VE.cons
    · first | exact ev_pick_t rfl (gn rfl) rfl rfl | exact ev_pick_f rfl (gn rfl) rfl rfl
    simp only [nm, seval]
    apply VE.cons
    · exact ev_move rfl (gn rfl)
    simp only [nm, seval]
    apply VE.cons
    · first | exact Ev.skip (fun _ => rfl) | exact ev_field rfl (fun _ => rfl) rfl Tryd.underlying24 rfl Tryd.sizeOf9 | exact ev_fieldx rfl (fun _ => rfl) rfl Tryd.underlying24 rfl Tryd.sizeOf9
    simp only [nm, seval]
    apply VE.cons
    · first | exact Ev.skip (fun _ => rfl) | exact ev_load1 rfl (fun _ => rfl) rfl rfl Tryd.underlying9 rfl rfl | exact ev_loadx1 rfl (fun _ => rfl) rfl Tryd.underlying9 rfl (by assumption)
    simp only [nm, seval]
    apply VE.cons
    · first | exact Ev.skip (fun _ => rfl) | exact ev_idxb (k := 0) rfl (fun _ => rfl) rfl rfl Tryd.underlying9 (hg0) (hh8)
    simp only [nm, seval]
    apply VE.cons
    · first | exact Ev.skip (fun _ => rfl) | exact ev_geq5 rfl (fun _ => rfl) rfl rfl h_q3'
    simp only [nm, seval]
    apply VE.cons
    · first | exact ev_pick_t rfl (gn rfl) rfl rfl | exact ev_pick_f rfl (gn rfl) rfl rfl
    simp only [nm, seval]
    exact VE.nil _
  · kernel_rfl
  change VOk _ _ _ _ _
  refine vcond_f rfl ?_
  refine vskip ?_
  change VOk _ _ _ _ _
  refine vseq ?_
  apply vrp
  · apply VE.cons
    · first | exact ev_field rfl (gn rfl) rfl Tryd.underlying24 rfl Tryd.sizeOf9 | exact ev_fieldx rfl (gn rfl) rfl Tryd.underlying24 rfl Tryd.sizeOf9
    simp only [nm, seval]
    apply VE.cons
    · first | exact ev_load1 rfl (gn rfl) rfl rfl Tryd.underlying9 rfl rfl | exact ev_loadx1 rfl (gn rfl) rfl Tryd.underlying9 rfl (by assumption)
    simp only [nm, seval]
    apply VE.cons
    · exact ev_assign rfl (gn rfl)
    simp only [nm, seval]
    exact VE.nil _
  · kernel_rfl
  change VOk _ _ _ _ _
  refine vseq ?_
  refine vseq ?_
  apply vrp
  · apply VE.cons
    · exact ev_move rfl (gn rfl)
    simp only [nm, seval]
    apply VE.cons
    · exact ev_idxb (k := 0) rfl (gn rfl) rfl rfl Tryd.underlying9 (hg0) (hh8)
    simp only [nm, seval]
    apply VE.cons
    · exact ev_eql (p := false) rfl (gn rfl) rfl rfl (decide_eq_false (by omega))
    simp only [nm, seval]
    exact VE.nil _
  · kernel_rfl
  change VOk _ _ _ _ _
  refine vcond_f rfl ?_
  refine vskip ?_
  change VOk _ _ _ _ _
  refine vseq ?_
  refine vseq ?_
  apply vrp
  · apply VE.cons
    · exact ev_move rfl (gn rfl)
    simp only [nm, seval]
    apply VE.cons
    · exact ev_lenb rfl (gn rfl) rfl Tryd.underlying9
    simp only [nm, seval]
    apply VE.cons
    · exact ev_move rfl (gn rfl)
    simp only [nm, seval]
    apply VE.cons
    · exact ev_gtr rfl (gn rfl) rfl rfl h_q4'
    simp only [nm, seval]
    exact VE.nil _
  · kernel_rfl
  change VOk _ _ _ _ _
  cases q4
  · refine vcond_f rfl ?_
    refine vskip ?_
    change VOk _ _ _ _ _
    refine vseq ?_
    apply vrp
    · apply VE.cons
      · exact ev_move rfl (gn rfl)
      simp only [nm, seval]
      apply VE.cons
      · exact ev_move rfl (gn rfl)
      simp only [nm, seval]
      apply VE.cons
      · exact ev_lenb rfl (gn rfl) rfl Tryd.underlying9
      simp only [nm, seval]
      apply VE.cons
      · exact ev_sub (c := ((sz - b.length : Nat) : Int)) rfl (gn rfl) rfl rfl (by have := of_decide_eq_false h_q4; rw [i64w (by omega) (by omega)]; omega)
      simp only [nm, seval]
      apply VE.cons
      · exact ev_makeslice rfl rfl (gn rfl) rfl rfl Tryd.underlying26 el5 Tryd.zeroValue5 rfl (by omega)
      simp only [nm, seval]
      apply VE.cons
      · exact ev_convb (bs := List.replicate (sz - b.length) 0) rfl (gn rfl) rfl Tryd.underlying26 Tryd.underlying5 Tryd.underlying9 (by rw [← zeros_map]; exact rdg_row rfl)
      simp only [nm, seval]
      apply VE.cons
      · exact ev_move rfl (gn rfl)
      simp only [nm, seval]
      apply VE.cons
      · exact ev_bin (c := .string (bstr (List.replicate (sz - b.length) 0 ++ b))) rfl (gn rfl) rfl rfl (fun w => str_add _ _ (by rw [List.length_replicate]; omega) _ _ w)
      simp only [nm, seval]
      apply VE.cons
      · exact ev_assign rfl (gn rfl)
      simp only [nm, seval]
      apply VE.cons
      · exact ev_assign rfl (gn rfl)
      simp only [nm, seval]
      exact VE.nil _
    · kernel_rfl
    change VOk _ _ _ _ _
    refine vret ?_
    refine post_ret (res2 Tryd.results22 (rv_tmp rfl) (rv_tmp rfl)) ?_
    intro ρ w' hr
    exact ⟨rfl, hr.1⟩
  · refine vcond_t rfl ?_
    refine vseq ?_
    apply vrp
    · apply VE.cons
      · exact ev_assign rfl (gn rfl)
      simp only [nm, seval]
      apply VE.cons
      · exact ev_assign rfl (gn rfl)
      simp only [nm, seval]
      exact VE.nil _
    · kernel_rfl
    change VOk _ _ _ _ _
    refine vret ?_
    refine post_ret (res2 Tryd.results22 (rv_tmp rfl) (rv_tmp rfl)) ?_
    intro ρ w' hr
    exact ⟨rfl, hr.1⟩
theorem rToNum_ok {t : Tr} {c : List Value} {S : Nat → Prop} {sz : Nat} (w : World) (hok : t.ok) (hx : RN w S t c) (hsz : sz ≤ 64) : Calls Tryd.prog 22 #[.agg c.toArray, .int .i64 (sz : Nat)] w fun e w' => e = .returned (.tuple #[.string (bstr ((valT t sz).getD [])), .bool (valT t sz).isSome]) ∧ Bw w w' := by
  cases t with
  | mk tg b ks =>
    have hx' := hx
    simp only [RN] at hx'
    obtain ⟨kv, cs, rfl, _⟩ := hx'
    rw [valT_eq]
    cases h : rbadT (.mk tg b ks) with
    | true => exact rToNum_n w hok hx hsz h
    | false =>
      by_cases hz : b.headD 0 = 0
      · have := rToNum_z w hok hx hsz h hz
        cases hq : decide ((trimL b).length > sz) <;> rw [hq] at this <;> exact this
      · have htb := trim_nz hz
        have := rToNum_p w hok hx hsz h hz htb
        rw [htb]
        cases hq : decide (b.length > sz) <;> rw [hq] at this <;> exact this
theorem Eight_ok (m : Nat) (hn : m < 9223372036854775808) (w : World) : Calls Tryd.prog 23 #[.int .i64 (m : Nat)] w fun e w' => e = .returned (.string (bstr (numL m))) ∧ Bw w w' := by
  go_enter Tryd.func23, Tryd.ntmps23
  refine ve_go ?_
  simp only [List.map_cons, List.map_nil]
  refine vseq ?_
  apply vrp
  · apply VE.cons
    · exact ev_assign rfl (gn rfl)
    simp only [nm, seval]
    exact VE.nil _
  · kernel_rfl
  change VOk _ _ _ _ _
  refine vseq ?_
  apply vrp
  · apply VE.cons
    · exact ev_assign rfl (gn rfl)
    simp only [nm, seval]
    exact VE.nil _
  · kernel_rfl
  change VOk _ _ _ _ _
  refine vseq ?_
  refine vseq ?_
  apply vrp
  · apply VE.cons
    · exact ev_assign rfl (gn rfl)
    simp only [nm, seval]
    exact VE.nil _
  · kernel_rfl
  change VOk _ _ _ _ _
  refine vblock ?_
  refine vloop_w (α := {x : Nat × Int // x.1 ≤ 8 ∧ x.2 = 56 - 8 * (x.1 : Int)}) (fun (x : {x : Nat × Int // x.1 ≤ 8 ∧ x.2 = 56 - 8 * (x.1 : Int)}) f => ⟨[.v (.int .i64 (m : Nat)), .v (f 1), .v (f 2), .d 900, .v (.int .i64 x.1.2), .v (f 5), .v (f 6), .v (f 7), .v (f 8), .v (f 9), .v (f 10), .v (f 11), .v (f 12), .v (f 13), .v (f 14), .v (f 15), .v (f 16), .v (f 17)], memOf [(900, .row x.1.1 1 5 (.exact (((numL m).take x.1.1).map b8)))]⟩) (fun x => 8 - x.1.1) ?_ (⟨(0, 56), by decide, rfl⟩) ?_
  · rintro ⟨⟨j, z⟩, hj, hz⟩ f
    simp only at hj hz
    obtain ⟨q, h_q⟩ : ∃ q, decide (z ≥ 0) = q := ⟨_, rfl⟩
    change VOk _ _ _ _ _
    refine vseq ?_
    refine vseq ?_
    apply vrp
    · apply VE.cons
      · exact ev_move rfl (gn rfl)
      simp only [nm, seval]
      apply VE.cons
      · exact ev_geq rfl (gn rfl) rfl rfl h_q
      simp only [nm, seval]
      exact VE.nil _
    · kernel_rfl
    change VOk _ _ _ _ _
    cases q
    · refine vcond_f rfl ?_
      have h8 : j = 8 := by have := of_decide_eq_false h_q; omega
      subst h8
      refine vexit ?_
      change VOk _ _ _ _ _
      refine vseq ?_
      apply vrp
      · apply VE.cons
        · exact ev_move rfl (gn rfl)
        simp only [nm, seval]
        apply VE.cons
        · exact ev_convb (bs := numL m) rfl (gn rfl) rfl Tryd.underlying26 Tryd.underlying5 Tryd.underlying9 (rdg_row rfl)
        simp only [nm, seval]
        apply VE.cons
        · exact ev_assign rfl (gn rfl)
        simp only [nm, seval]
        exact VE.nil _
      · kernel_rfl
      change VOk _ _ _ _ _
      refine vret ?_
      refine post_ret (res1 Tryd.results23 (rv_tmp rfl)) ?_
      intro ρ w' hr
      exact ⟨rfl, hr.1⟩
    · refine vcond_t rfl ?_
      have hj2 : j < 8 := by have := of_decide_eq_true h_q; omega
      obtain ⟨s, hs⟩ : ∃ s : Nat, s = 56 - 8 * j := ⟨_, rfl⟩
      have hzs : z = ((s : Nat) : Int) := by omega
      refine vskip ?_
      change VOk _ _ _ _ _
      refine vseq ?_
      refine vblock ?_
      apply vrp
      · apply VE.cons
        · exact ev_move rfl (gn rfl)
        simp only [nm, seval]
        apply VE.cons
        · exact ev_move rfl (gn rfl)
        simp only [nm, seval]
        apply VE.cons
        · exact ev_move rfl (gn rfl)
        simp only [nm, seval]
        apply VE.cons
        · exact ev_bin (b := .int .i64 ((s : Nat) : Int)) rfl (gn rfl) rfl (by simp only [nm, seval, hzs]) (fun w => shr_n _ s (by omega) (by omega) _ _ w)
        simp only [nm, seval]
        apply VE.cons
        · exact ev_conv rfl (gn rfl) rfl (fun w => cvu8 _ w)
        simp only [nm, seval]
        apply VE.cons
        · exact ev_buildslice rfl rfl (gn rfl) rfl (e := 5) (l := [b8 (n8 (hb m s))]) rfl (by decide) (fun _ => by kernel_rfl)
        simp only [nm, seval]
        apply VE.cons
        · exact ev_append rfl rfl (gn rfl) rfl rfl rfl (rdg_row rfl) Tryd.underlying26 el5 (by decide) (by simp [numL]; omega) rfl (by simp only [maxLen]; omega) (by omega) (by simp)
        simp only [nm, seval]
        apply VE.cons
        · exact ev_assign rfl (gn rfl)
        simp only [nm, seval]
        exact VE.nil _
      · kernel_rfl
      change VOk _ _ _ _ _
      apply vrp
      · apply VE.cons
        · exact ev_move rfl (gn rfl)
        simp only [nm, seval]
        apply VE.cons
        · exact ev_sub (c := z - 8) rfl (gn rfl) rfl rfl (by rw [i64w (by omega) (by omega)])
        simp only [nm, seval]
        apply VE.cons
        · exact ev_assign rfl (gn rfl)
        simp only [nm, seval]
        exact VE.nil _
      · kernel_rfl
      have e1 : ((numL m).take j).map b8 ++ [b8 (n8 (hb m s))] = ((numL m).take (j + 1)).map b8 := by rw [take_get (numL_get hj2 hs), List.map_append]; rfl
      rw [e1]
      refine ⟨⟨(j + 1, z - 8), by show j + 1 ≤ 8; omega, by show z - 8 = 56 - 8 * ((j + 1 : Nat) : Int); omega⟩, by show 8 - (j + 1) < 8 - j; omega, ?_⟩
      exact (weaker_forget (fun i => i == 0 || i == 3 || i == 4) [14]).trans2 (fun f => weaker_ren 15 900 (by decide) rfl)
  · refine (weaker_forget (fun i => i == 0 || i == 3 || i == 4) []).trans2 (fun f => ?_)
    refine (weaker_name 900 1 5 (.exact []) (fun w => rfl) (m' := []) rfl rfl (fun ρ hv => ?_) (fun ρ hv => ?_))
    · simp [forgetFr, SV.cs, SV.c, hv, nilV]
    · simp [memSim, memDel, Blk.sim]
end Go.Proofs.YtmgmiiongleaeaaDoor
