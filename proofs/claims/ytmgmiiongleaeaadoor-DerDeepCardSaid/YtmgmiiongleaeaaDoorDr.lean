import Derived.Test.YtmgmiiongleaeaaDoorDq
namespace Go.Proofs.YtmgmiiongleaeaaDoor
open Go.RowKit Go.Vx
open Go.Toll (Gw)
set_option maxHeartbeats 4000000
set_option maxRecDepth 100000
theorem ret_datR {w0 w : World} {s : VS} {ρ : Nat → Nm} (id : Nat) {t : Tr} (hr : Rel w0 ρ s w) (hm : s.mem id = some (.dat (datR t))) : RetD w0 w (.agg (SV.cs ρ [.fn (cellV 0) (.d id), .fn (cellV 1) (.d id), .fn (cellV 2) (.d id)]).toArray) (datR t) := by
  obtain ⟨hb, S, hR⟩ := hr
  obtain ⟨c, h1, h2⟩ := hR.good id _ hm
  simp only [List.cons.injEq, and_true] at h1
  rw [(fn3 h1 (RN_len h2)).2]
  exact ⟨S id, ⟨c, rfl, h2⟩, fun k hk => ⟨hR.fr id k (by rw [hm]; rfl) hk, hR.lt id k (by rw [hm]; rfl) hk⟩⟩
/-- a node that was made, as the agg of its cells. -/
theorem aggN {w : World} {base : Nat} {ρ : Nat → Nm} {S : Nat → Nat → Prop} {m : Mem} {rd : List Nat} {id : Nat} {t : Tr} (hR : RelOn base ρ S w (restr rd m)) (hid : id ∈ rd) (hm : m id = some (.dat (datN t))) : ∃ c, SV.c ρ (.agg [.fn (cellV 0) (.d id), .fn (cellV 1) (.d id), .fn (cellV 2) (.d id)]) = .agg c.toArray ∧ DN w (S id) t c := by
  obtain ⟨c, h1, h2⟩ := datN_get hR hid hm
  exact ⟨c, by simp only [SV.c]; rw [(fn3 h1 (DN_len h2)).2], h2⟩
theorem aggR {w : World} {base : Nat} {ρ : Nat → Nm} {S : Nat → Nat → Prop} {m : Mem} {rd : List Nat} {id : Nat} {t : Tr} (hR : RelOn base ρ S w (restr rd m)) (hid : id ∈ rd) (hm : m id = some (.dat (datR t))) : ∃ c, SV.c ρ (.agg [.fn (cellV 0) (.d id), .fn (cellV 1) (.d id), .fn (cellV 2) (.d id)]) = .agg c.toArray ∧ RN w (S id) t c := by
  obtain ⟨c, h1, h2⟩ := datR_get hR hid hm
  exact ⟨c, by simp only [SV.c]; rw [(fn3 h1 (RN_len h2)).2], h2⟩
theorem c_to {w : World} {base : Nat} {ρ : Nat → Nm} {S : Nat → Nat → Prop} {m : Mem} {rd : List Nat} (id : Nat) {t : Tr} (hok : t.ok) (hR : RelOn base ρ S w (restr rd m)) (hid : id ∈ rd) (hm : m id = some (.dat (datR t))) :
    Calls Tryd.prog 11 (SV.cs ρ [.agg [.fn (cellV 0) (.d id), .fn (cellV 1) (.d id), .fn (cellV 2) (.d id)]]).toArray w fun e w' => ∃ v, e = .returned v ∧ RetD w w' v (datN t) ∧ Bw w w' := by
  obtain ⟨c, h1, h2⟩ := aggR hR hid hm
  simp only [SV.cs, h1]
  exact to_all t hok c w _ h2
theorem c_from {w : World} {base : Nat} {ρ : Nat → Nm} {S : Nat → Nat → Prop} {m : Mem} {rd : List Nat} (id : Nat) {t : Tr} (hok : t.ok) (hR : RelOn base ρ S w (restr rd m)) (hid : id ∈ rd) (hm : m id = some (.dat (datN t))) :
    Calls Tryd.prog 16 (SV.cs ρ [.agg [.fn (cellV 0) (.d id), .fn (cellV 1) (.d id), .fn (cellV 2) (.d id)]]).toArray w fun e w' => ∃ v, e = .returned v ∧ RetD w w' v (datR t) ∧ Bw w w' := by
  obtain ⟨c, h1, h2⟩ := aggN hR hid hm
  simp only [SV.cs, h1]
  exact from_all t hok c w _ h2
/-- Write, in one. -/
theorem Write_ok {t : Tr} {c : List Value} {S : Nat → Prop} (w : World) (hok : t.ok) (hx : DN w S t c) (hwt : wt t ≤ 1073741824) :
    Calls Tryd.prog 12 #[.agg c.toArray] w fun e w' => ∃ v, e = .returned (.tuple #[v, .int .i64 (wrT t).2]) ∧ RetRow w w' v (wrT t).1.length 1 5 ((wrT t).1.map b8) ∧ Bw w w' := by
  obtain ⟨x0, x1, x2, rfl⟩ := list3 (DN_len hx)
  unfold wrT
  obtain ⟨h1, h2⟩ := wr_same t
  cases hr : rightT t 1 with
  | false => exact Write_f w hok hx hwt hr
  | true =>
    simp only [cond_true]
    cases hb : decide ((bytesT t).length > 2048) with
    | true =>
      have := h2 (of_decide_eq_true hb)
      exact Write_b w hok hx hwt hr this
    | false =>
      have hle : (bytesT t).length ≤ 2048 := by have := of_decide_eq_false hb; omega
      have e := h1 hle
      have := Write_t w hok hx hwt hr (by rw [e]; omega)
      rw [e] at this
      exact this
theorem c_write {w : World} {base : Nat} {ρ : Nat → Nm} {S : Nat → Nat → Prop} {m : Mem} {rd : List Nat} (id : Nat) {t : Tr} (hok : t.ok) (hwt : wt t ≤ 1048576) (hR : RelOn base ρ S w (restr rd m)) (hid : id ∈ rd) (hm : m id = some (.dat (datN t))) :
    Calls Tryd.prog 12 (SV.cs ρ [.agg [.fn (cellV 0) (.d id), .fn (cellV 1) (.d id), .fn (cellV 2) (.d id)]]).toArray w fun e w' => ∃ v, e = .returned (.tuple #[v, .int .i64 (wrT t).2]) ∧ RetRow w w' v (wrT t).1.length 1 5 ((wrT t).1.map b8) ∧ Bw w w' := by
  obtain ⟨c, h1, h2⟩ := aggN hR hid hm
  simp only [SV.cs, h1]
  exact Write_ok w hok h2 (by omega)
theorem c_rwrite {w : World} {base : Nat} {ρ : Nat → Nm} {S : Nat → Nat → Prop} {m : Mem} {rd : List Nat} (id : Nat) {t : Tr} (hok : t.ok) (hwt : wt t ≤ 1048576) (hR : RelOn base ρ S w (restr rd m)) (hid : id ∈ rd) (hm : m id = some (.dat (datR t))) :
    Calls Tryd.prog 13 (SV.cs ρ [.agg [.fn (cellV 0) (.d id), .fn (cellV 1) (.d id), .fn (cellV 2) (.d id)]]).toArray w fun e w' => e = .returned (.tuple #[.string (bstr (wrT t).1), .int .i64 (wrT t).2]) ∧ Bw w w' := by
  obtain ⟨c, h1, h2⟩ := aggR hR hid hm
  obtain ⟨x0, x1, x2, rfl⟩ := list3 (RN_len h2)
  simp only [SV.cs, h1]
  exact rWrite_ok w hok h2 hwt
theorem c_same {w : World} {base : Nat} {ρ : Nat → Nm} {S : Nat → Nat → Prop} {m : Mem} {rd : List Nat} (id jd : Nat) {t t' : Tr} (hok : t.ok) (hok' : t'.ok) (hR : RelOn base ρ S w (restr rd m)) (hid : id ∈ rd) (hm : m id = some (.dat (datR t))) (hjd : jd ∈ rd) (hm' : m jd = some (.dat (datR t'))) :
    Calls Tryd.prog 15 (SV.cs ρ [.agg [.fn (cellV 0) (.d id), .fn (cellV 1) (.d id), .fn (cellV 2) (.d id)], .agg [.fn (cellV 0) (.d jd), .fn (cellV 1) (.d jd), .fn (cellV 2) (.d jd)]]).toArray w fun e w' => e = .returned (.bool (sameT t t')) ∧ Bw w w' := by
  obtain ⟨c, h1, h2⟩ := aggR hR hid hm
  obtain ⟨c', h1', h2'⟩ := aggR hR hjd hm'
  simp only [SV.cs, h1, h1']
  exact same_all t hok t' c c' w _ _ hok' h2 h2'
theorem c_sameD {w : World} {base : Nat} {ρ : Nat → Nm} {S : Nat → Nat → Prop} {m : Mem} {rd : List Nat} (id jd : Nat) {t t' : Tr} (hok : t.ok) (hok' : t'.ok) (hR : RelOn base ρ S w (restr rd m)) (hid : id ∈ rd) (hm : m id = some (.dat (datR t))) (hjd : jd ∈ rd) (hm' : m jd = some (.dat (datR t'))) :
    Calls Tryd.prog 15 (SV.cs ρ [.d id, .agg [.fn (cellV 0) (.d jd), .fn (cellV 1) (.d jd), .fn (cellV 2) (.d jd)]]).toArray w fun e w' => e = .returned (.bool (sameT t t')) ∧ Bw w w' := by
  obtain ⟨c, h1, h2⟩ := datR_get hR hid hm
  obtain ⟨c', h1', h2'⟩ := aggR hR hjd hm'
  simp only [SV.cs, SV.c, h1] at h1' ⊢
  rw [h1']
  exact same_all t hok t' c c' w _ _ hok' h2 h2'
theorem wrT_lt {t : Tr} (h : t.ok) : ∀ x ∈ (wrT t).1, x < 256 := by
  unfold wrT
  cases rightT t 1 <;> cases decide ((bytesT t).length > 2048) <;> simp only [cond_true, cond_false] <;> first | exact bytesT_lt t h | (intro x hx; cases hx)
theorem wrT_len (t : Tr) : (wrT t).1.length ≤ 2048 := by
  unfold wrT
  cases hb : decide ((bytesT t).length > 2048) with
  | true => cases rightT t 1 <;> simp
  | false =>
    have := of_decide_eq_false hb
    cases rightT t 1 <;> simp only [cond_true, cond_false, List.length_nil] <;> omega
/-- the tame node. -/
def tm (t : Tr) : Tr := (tameT t 10 60).1
theorem tm_ok {t : Tr} (h : t.okL) : (tm t).ok := tameT_ok t 10 60 h
theorem tm_wt (t : Tr) : wt (tm t) ≤ 1048576 := by
  have := (tameT_wt t 10 60 (by decide)).1
  unfold tm; omega
theorem tame_ok {t : Tr} {x0 x1 x2 : Value} {S : Nat → Prop} (w : World) (hok : t.okL) (hx : RN w S t [x0, x1, x2]) : Calls Tryd.prog 10 #[.agg #[x0, x1, x2]] w fun e w' => ∃ v, e = .returned v ∧ RetD w w' v (datR (tm t)) ∧ Bw w w' := by
  go_enter Tryd.func10, Tryd.ntmps10
  refine ve_go ?_
  simp only [List.map_cons, List.map_nil]
  refine vseq ?_
  apply vrp
  · apply VE.cons
    · exact ev_box rfl rfl (gn rfl) rfl
    simp only [nm, seval]
    apply VE.cons
    · exact ev_alloc rfl rfl (gn rfl) Tryd.zeroValue24
    simp only [nm, seval]
    exact VE.nil _
  · kernel_rfl
  change VOk _ _ _ _ _
  refine vseq ?_
  apply vrp
  · apply VE.cons
    · first | exact ev_load rfl (gn rfl) rfl rfl Tryd.underlying24 rfl Tryd.sizeOf24 rfl rfl | exact ev_loadx rfl (gn rfl) rfl Tryd.underlying24 rfl Tryd.sizeOf24 (by assumption) rfl | exact ev_loada rfl (gn rfl) rfl rfl Tryd.underlying24 rfl Tryd.sizeOf24 rfl
    simp only [nm, seval]
    apply VE.cons
    · exact ev_calldt (D := datR (tm t)) (ys := [.int .i64 ((tameT t 10 60).2 : Nat)]) [] rfl rfl (gn rfl) rfl (en_of Tryd.func30 (by kernel_rfl) rfl) (fun ρ S w' hb _ => tame_all t hok 10 60 _ w' _ (by decide) (by decide) (by decide) (RN_bw hb hx))
    simp only [nm, seval]
    apply VE.cons
    · exact ev_move rfl (gn rfl)
    simp only [nm, seval]
    apply VE.cons
    · first | exact ev_extract rfl (gn rfl) rfl rfl | exact ev_extractt rfl (gn rfl) rfl rfl
    simp only [nm, seval]
    apply VE.cons
    · first | exact ev_extract rfl (gn rfl) rfl rfl | exact ev_extractt rfl (gn rfl) rfl rfl
    simp only [nm, seval]
    apply VE.cons
    · exact ev_alloc rfl rfl (gn rfl) Tryd.zeroValue24
    simp only [nm, seval]
    apply VE.cons
    · first | exact ev_storeR (vl := [.fn (cellV 0) (.d 7), .fn (cellV 1) (.d 7), .fn (cellV 2) (.d 7)]) [3, 7] rfl (gn rfl) rfl rfl rfl Tryd.sizeOf24 rfl (fun ρ S w' _ hR => by obtain ⟨c, h1, h2⟩ := datR_get (id := 7) hR (by simp) rfl; have hf := fn3 h1 (RN_len h2); exact ⟨hf.1, hf.2 ▸ RN_one h2⟩) rfl (by simp) | exact ev_storeR (vl := [.fn (cellV 0) (.d 7), .fn (cellV 1) (.d 7), .fn (cellV 2) (.d 7)]) [2, 7] rfl (gn rfl) rfl rfl rfl Tryd.sizeOf24 rfl (fun ρ S w' _ hR => by obtain ⟨c, h1, h2⟩ := datR_get (id := 7) hR (by simp) rfl; have hf := fn3 h1 (RN_len h2); exact ⟨agg_cells _, hf.2 ▸ RN_one h2⟩) rfl (by simp)
    simp only [nm, seval]
    apply VE.cons
    · exact ev_assign rfl (gn rfl)
    simp only [nm, seval]
    exact VE.nil _
  · kernel_rfl
  change VOk _ _ _ _ _
  refine vseq ?_
  apply vrp
  · apply VE.cons
    · exact ev_loada rfl (gn rfl) rfl rfl Tryd.underlying24 rfl Tryd.sizeOf24 rfl
    simp only [nm, seval]
    apply VE.cons
    · first | exact ev_storeR (vl := [.fn (cellV 0) (.d 7), .fn (cellV 1) (.d 7), .fn (cellV 2) (.d 7)]) [3, 7] rfl (gn rfl) rfl rfl rfl Tryd.sizeOf24 rfl (fun ρ S w' _ hR => by obtain ⟨c, h1, h2⟩ := datR_get (id := 7) hR (by simp) rfl; have hf := fn3 h1 (RN_len h2); exact ⟨hf.1, hf.2 ▸ RN_one h2⟩) rfl (by simp) | exact ev_storeR (vl := [.fn (cellV 0) (.d 7), .fn (cellV 1) (.d 7), .fn (cellV 2) (.d 7)]) [2, 7] rfl (gn rfl) rfl rfl rfl Tryd.sizeOf24 rfl (fun ρ S w' _ hR => by obtain ⟨c, h1, h2⟩ := datR_get (id := 7) hR (by simp) rfl; have hf := fn3 h1 (RN_len h2); exact ⟨agg_cells _, hf.2 ▸ RN_one h2⟩) rfl (by simp)
    simp only [nm, seval]
    exact VE.nil _
  · kernel_rfl
  change VOk _ _ _ _ _
  refine vret ?_
  refine post_ret (res1 Tryd.results10 (rv_cella rfl rfl Tryd.underlying24 rfl Tryd.sizeOf24 rfl)) ?_
  intro ρ w' hr
  exact ⟨_, rfl, ret_datR 7 hr rfl, hr.1⟩
theorem writes_law {t : Tr} {x0 x1 x2 : Value} {S : Nat → Prop} (w : World) (hok0 : t.okL) (hx : RN w S t [x0, x1, x2]) : Calls Tryd.prog 3 #[.agg #[x0, x1, x2]] w fun e w' => e = .returned (.bool true) ∧ Bw w w' := by
  have hok := tm_ok hok0
  have hwt := tm_wt t
  go_enter Tryd.func3, Tryd.ntmps3
  refine ve_go ?_
  simp only [List.map_cons, List.map_nil]
  refine vseq ?_
  apply vrp
  · apply VE.cons
    · exact ev_box rfl rfl (gn rfl) rfl
    simp only [nm, seval]
    apply VE.cons
    · exact ev_assign rfl (gn rfl)
    simp only [nm, seval]
    exact VE.nil _
  · kernel_rfl
  change VOk _ _ _ _ _
  refine vseq ?_
  apply vrp
  · apply VE.cons
    · first | exact ev_load rfl (gn rfl) rfl rfl Tryd.underlying24 rfl Tryd.sizeOf24 rfl rfl | exact ev_loadx rfl (gn rfl) rfl Tryd.underlying24 rfl Tryd.sizeOf24 (by assumption) rfl | exact ev_loada rfl (gn rfl) rfl rfl Tryd.underlying24 rfl Tryd.sizeOf24 rfl
    simp only [nm, seval]
    apply VE.cons
    · exact ev_calld (D := datR (tm t)) [] rfl rfl (gn rfl) rfl (en_of Tryd.func10 (by kernel_rfl) rfl) (fun ρ S w' hb _ => tame_ok w' hok0 (RN_bw hb hx))
    simp only [nm, seval]
    apply VE.cons
    · exact ev_storeR (vl := [.fn (cellV 0) (.d 9), .fn (cellV 1) (.d 9), .fn (cellV 2) (.d 9)]) [1, 9] rfl (gn rfl) rfl rfl rfl Tryd.sizeOf24 rfl (fun ρ S w' _ hR => by obtain ⟨c, h1, h2⟩ := datR_get (id := 9) hR (by simp) rfl; have hf := fn3 h1 (RN_len h2); exact ⟨hf.1, hf.2 ▸ RN_one h2⟩) rfl (by simp)
    simp only [nm, seval]
    exact VE.nil _
  · kernel_rfl
  change VOk _ _ _ _ _
  refine vseq ?_
  apply vrp
  · apply VE.cons
    · exact ev_loada rfl (gn rfl) rfl rfl Tryd.underlying24 rfl Tryd.sizeOf24 rfl
    simp only [nm, seval]
    apply VE.cons
    · exact ev_calld (D := datN (tm t)) [9] rfl rfl (gn rfl) rfl (en_of Tryd.func11 (by kernel_rfl) rfl) (fun ρ S w' hb hR => c_to 9 hok hR (by simp) rfl)
    simp only [nm, seval]
    apply VE.cons
    · exact ev_alloc rfl rfl (gn rfl) Tryd.zeroValue29
    simp only [nm, seval]
    apply VE.cons
    · exact ev_storeR (vl := [.fn (cellV 0) (.d 11), .fn (cellV 1) (.d 11), .fn (cellV 2) (.d 11)]) [3, 11] rfl (gn rfl) rfl rfl rfl Tryd.sizeOf29 rfl (fun ρ S w' _ hR => by obtain ⟨c, h1, h2⟩ := datN_get (id := 11) hR (by simp) rfl; have hf := fn3 h1 (DN_len h2); exact ⟨hf.1, hf.2 ▸ DN_one h2⟩) rfl (by simp)
    simp only [nm, seval]
    exact VE.nil _
  · kernel_rfl
  change VOk _ _ _ _ _
  refine vseq ?_
  apply vrp
  · apply VE.cons
    · exact ev_loada rfl (gn rfl) rfl rfl Tryd.underlying29 rfl Tryd.sizeOf29 rfl
    simp only [nm, seval]
    apply VE.cons
    · exact ev_callrowt [11] rfl rfl (gn rfl) rfl (en_of Tryd.func12 (by kernel_rfl) rfl) (n := (wrT (tm t)).1.length) (size := 1) (l := (wrT (tm t)).1.map b8) (y := .int .i64 (wrT (tm t)).2) (by simp) (fun ρ S w' hb hR => c_write 11 hok hwt hR (by simp) rfl)
    simp only [nm, seval]
    apply VE.cons
    · exact ev_move rfl (gn rfl)
    simp only [nm, seval]
    apply VE.cons
    · first | exact ev_extract rfl (gn rfl) rfl rfl | exact ev_extractt rfl (gn rfl) rfl rfl
    simp only [nm, seval]
    apply VE.cons
    · first | exact ev_extract rfl (gn rfl) rfl rfl | exact ev_extractt rfl (gn rfl) rfl rfl
    simp only [nm, seval]
    apply VE.cons
    · exact ev_assign rfl (gn rfl)
    simp only [nm, seval]
    apply VE.cons
    · exact ev_assign rfl (gn rfl)
    simp only [nm, seval]
    exact VE.nil _
  · kernel_rfl
  change VOk _ _ _ _ _
  refine vseq ?_
  apply vrp
  · apply VE.cons
    · exact ev_loada rfl (gn rfl) rfl rfl Tryd.underlying24 rfl Tryd.sizeOf24 rfl
    simp only [nm, seval]
    apply VE.cons
    · exact ev_callp (v := .tuple #[.string (bstr (wrT (tm t)).1), .int .i64 (wrT (tm t)).2]) [9] rfl (gn rfl) rfl (en_of Tryd.func13 (by kernel_rfl) rfl) (fun ρ S w' hb hR => c_rwrite 9 hok hwt hR (by simp) rfl)
    simp only [nm, seval]
    apply VE.cons
    · exact ev_move rfl (gn rfl)
    simp only [nm, seval]
    apply VE.cons
    · first | exact ev_extract rfl (gn rfl) rfl rfl | exact ev_extractt rfl (gn rfl) rfl rfl
    simp only [nm, seval]
    apply VE.cons
    · first | exact ev_extract rfl (gn rfl) rfl rfl | exact ev_extractt rfl (gn rfl) rfl rfl
    simp only [nm, seval]
    apply VE.cons
    · exact ev_assign rfl (gn rfl)
    simp only [nm, seval]
    apply VE.cons
    · exact ev_assign rfl (gn rfl)
    simp only [nm, seval]
    exact VE.nil _
  · kernel_rfl
  change VOk _ _ _ _ _
  refine vseq ?_
  apply vrd (by kernel_rfl)
  · apply VE.cons
    · exact ev_callb rfl (gn rfl) rfl (en_of Tryd.func14 (by kernel_rfl) rfl) (fun w' hb => ders_ok w')
    simp only [nm, seval]
    apply VE.cons
    · exact ev_move rfl (gn rfl)
    simp only [nm, seval]
    apply VE.cons
    · first | exact Ev.skip (fun _ => rfl) | exact ev_move rfl (fun _ => rfl)
    simp only [nm, seval]
    apply VE.cons
    · first | exact Ev.skip (fun _ => rfl) | exact ev_convb (bs := (wrT (tm t)).1) rfl (fun _ => rfl) rfl Tryd.underlying26 Tryd.underlying5 Tryd.underlying9 (rdg_row rfl)
    simp only [nm, seval]
    apply VE.cons
    · first | exact Ev.skip (fun _ => rfl) | exact ev_move rfl (fun _ => rfl)
    simp only [nm, seval]
    apply VE.cons
    · first | exact Ev.skip (fun _ => rfl) | exact ev_bin (c := .bool true) rfl (fun _ => rfl) rfl rfl (fun w => str_is (decide_eq_true rfl) (wrT_lt hok) (wrT_lt hok) _ _ w)
    simp only [nm, seval]
    apply VE.cons
    · first | exact ev_pick_t rfl (gn rfl) rfl rfl | exact ev_pick_f rfl (gn rfl) rfl rfl
    simp only [nm, seval]
    apply VE.cons
    · exact ev_move rfl (gn rfl)
    simp only [nm, seval]
    apply VE.cons
    · first | exact Ev.skip (fun _ => rfl) | exact ev_move rfl (fun _ => rfl)
    simp only [nm, seval]
    apply VE.cons
    · first | exact Ev.skip (fun _ => rfl) | exact ev_move rfl (fun _ => rfl)
    simp only [nm, seval]
    apply VE.cons
    · first | exact Ev.skip (fun _ => rfl) | exact ev_eql (p := true) rfl (fun _ => rfl) rfl rfl (decide_eq_true rfl)
    simp only [nm, seval]
    apply VE.cons
    · first | exact ev_pick_t rfl (gn rfl) rfl rfl | exact ev_pick_f rfl (gn rfl) rfl rfl
    simp only [nm, seval]
    apply VE.cons
    · exact ev_move rfl (gn rfl)
    simp only [nm, seval]
    apply VE.cons
    · first | exact Ev.skip (fun _ => rfl) | exact ev_loada rfl (fun _ => rfl) rfl rfl Tryd.underlying29 rfl Tryd.sizeOf29 rfl
    simp only [nm, seval]
    apply VE.cons
    · first | exact Ev.skip (fun _ => rfl) | exact ev_calld (D := datR (tm t)) [11] rfl rfl (fun _ => rfl) rfl (en_of Tryd.func16 (by kernel_rfl) rfl) (fun ρ S w' hb hR => c_from 11 hok hR (by simp) rfl)
    simp only [nm, seval]
    apply VE.cons
    · first | exact Ev.skip (fun _ => rfl) | exact ev_loada rfl (fun _ => rfl) rfl rfl Tryd.underlying24 rfl Tryd.sizeOf24 rfl
    simp only [nm, seval]
    apply VE.cons
    · first | exact Ev.skip (fun _ => rfl) | exact ev_callp (v := .bool true) [36, 9] rfl (fun _ => rfl) rfl (en_of Tryd.func15 (by kernel_rfl) rfl) (fun ρ S w' hb hR => by have := c_sameD 36 9 hok hok hR (by simp) rfl (by simp) rfl; rw [sameT_refl] at this; exact this)
    simp only [nm, seval]
    apply VE.cons
    · first | exact ev_pick_t rfl (gn rfl) rfl rfl | exact ev_pick_f rfl (gn rfl) rfl rfl
    simp only [nm, seval]
    apply VE.cons
    · exact ev_assign rfl (gn rfl)
    simp only [nm, seval]
    exact VE.nil _
  · kernel_rfl
  change VOk _ _ _ _ _
  refine vret ?_
  refine post_ret (res1 Tryd.results3 (rv_tmp rfl)) ?_
  intro ρ w' hr
  exact ⟨rfl, hr.1⟩
end Go.Proofs.YtmgmiiongleaeaaDoor
