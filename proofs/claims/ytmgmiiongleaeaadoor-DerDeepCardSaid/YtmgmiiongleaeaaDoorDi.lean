import Derived.Test.YtmgmiiongleaeaaDoorDh
namespace Go.Proofs.YtmgmiiongleaeaaDoor
open Go.RowKit Go.Vx
open Go.Toll (Gw)
set_option maxHeartbeats 4000000
set_option maxRecDepth 100000
theorem sl_cells {rd : List Nat} {ρ : Nat → Nm} {S : Nat → Nat → Prop} {w : World} {base : Nat} {m : Mem} {id : Nat} {l : List SV} {ty : TypeId} (hR : RelOn base ρ S w (restr rd m)) (hid : id ∈ rd) (hm : m id = some (.cells l ty)) : SlAt w (.slice (some ⟨(ρ id).g, 0, none⟩) l.length l.length) l.length 1 (SV.cs ρ l) (fun k => k = (ρ id).g) := by
  have hg := (Go.Vx.relon_get hR hm hid).2
  refine ⟨_, _, rfl, Nat.le_refl _, by rw [cs_map]; simp, .inr ⟨_, rfl, rfl, fun i x hx => ?_⟩⟩
  rw [cs_map, List.getElem?_map] at hx
  cases h : l[i]? with
  | none => rw [h] at hx; cases hx
  | some y => rw [h] at hx; simp only [Option.map_some, Option.some.injEq] at hx; rw [← hx, add_at, Nat.zero_add]; exact cell_own hg h
theorem sl_row {rd : List Nat} {ρ : Nat → Nm} {S : Nat → Nat → Prop} {w : World} {base : Nat} {m : Mem} {id n : Nat} {ty : TypeId} {l : List Value} (hR : RelOn base ρ S w (restr rd m)) (hid : id ∈ rd) (hm : m id = some (.row n 1 ty (.exact l))) : ∃ S1, SlAt w (ρ id).val n 1 l S1 := by
  obtain ⟨xs, h1, h2, h3⟩ := Go.Vx.relon_get hR hm hid
  have h2' : xs = l := h2
  subst h2'
  exact ⟨_, row_sl h3 h1⟩
theorem concat3 {v v0 v1 v2 : Value} {n0 n1 n2 : Nat} {l0 l1 l2 : List Value} {S S0 S1 S2 : Nat → Prop} (w : World) (hv : SlAt w v 3 1 [v0, v1, v2] S) (h0 : SlAt w v0 n0 1 l0 S0) (h1 : SlAt w v1 n1 1 l1 S1) (h2 : SlAt w v2 n2 1 l2 S2) (a0 : l0.all (·.oneCell') = true) (a1 : l1.all (·.oneCell') = true) (a2 : l2.all (·.oneCell') = true) (hm : n0 + n1 + n2 ≤ 140737488355328) : Calls Tryd.prog 46 #[v] w fun e w' => ∃ v, e = .returned v ∧ RetRow w w' v (n0 + n1 + n2) 1 5 (l0 ++ l1 ++ l2) ∧ Bw w w' := by
  have e0 : l0.length = n0 := by obtain ⟨_, _, _, _, h, _⟩ := h0; simpa using h
  have e1 : l1.length = n1 := by obtain ⟨_, _, _, _, h, _⟩ := h1; simpa using h
  have e2 : l2.length = n2 := by obtain ⟨_, _, _, _, h, _⟩ := h2; simpa using h
  go_enter Tryd.func46, Tryd.ntmps46
  refine ve_go ?_
  simp only [List.map_cons, List.map_nil]
  refine vseq ?_
  apply vrp
  · apply VE.cons
    · exact ev_assign rfl (gn rfl)
    simp only [nm, seval]
    exact VE.nil _
  · kernel_rfl
  change VOk _ _ _ _ _
  refine vseq ?_
  apply vrp
  · apply VE.cons
    · exact ev_assign rfl (gn rfl)
    simp only [nm, seval]
    exact VE.nil _
  · kernel_rfl
  change VOk _ _ _ _ _
  refine vseq ?_
  refine vseq ?_
  apply vrp
  · apply VE.cons
    · exact ev_move rfl (gn rfl)
    simp only [nm, seval]
    apply VE.cons
    · exact ev_len rfl (gn rfl) rfl Tryd.underlying87 (rdg_arg hv)
    simp only [nm, seval]
    apply VE.cons
    · exact ev_move rfl (gn rfl)
    simp only [nm, seval]
    exact VE.nil _
  · kernel_rfl
  change VOk _ _ _ _ _
  refine vblock ?_
  refine vloop 4 ?_
  change VOk _ _ _ _ _
  refine vseq ?_
  apply vrp
  · apply VE.cons
    · exact ev_lss5 (p := true) rfl (gn rfl) rfl rfl (by decide)
    simp only [nm, seval]
    exact VE.nil _
  · kernel_rfl
  change VOk _ _ _ _ _
  refine vseq ?_
  refine vcond_t rfl ?_
  refine vskip ?_
  change VOk _ _ _ _ _
  refine vseq ?_
  refine vblock ?_
  refine vseq ?_
  apply vrp
  · apply VE.cons
    · exact ev_idx (k := 0) rfl (gn rfl) rfl rfl Tryd.underlying87 Tryd.sizeOf26 (rdg_arg hv) (by decide) (by decide)
    simp only [nm, seval]
    apply VE.cons
    · exact ev_loadi rfl (gn rfl) rfl Tryd.underlying26 rfl (rdg_arg hv) (rfl)
    simp only [nm, seval]
    apply VE.cons
    · exact ev_assign rfl (gn rfl)
    simp only [nm, seval]
    exact VE.nil _
  · kernel_rfl
  change VOk _ _ _ _ _
  refine vseq ?_
  apply vrp
  · apply VE.cons
    · exact ev_move rfl (gn rfl)
    simp only [nm, seval]
    apply VE.cons
    · exact ev_move rfl (gn rfl)
    simp only [nm, seval]
    apply VE.cons
    · exact ev_len rfl (gn rfl) rfl Tryd.underlying26 (rdg_arg h0)
    simp only [nm, seval]
    apply VE.cons
    · exact ev_add (c := ((n0 : Nat) : Int)) rfl (gn rfl) rfl rfl (by rw [i64w (by omega) (by omega)]; omega)
    simp only [nm, seval]
    apply VE.cons
    · exact ev_assign rfl (gn rfl)
    simp only [nm, seval]
    exact VE.nil _
  · kernel_rfl
  change VOk _ _ _ _ _
  refine vseq ?_
  apply vrp
  · apply VE.cons
    · exact ev_move rfl (gn rfl)
    simp only [nm, seval]
    apply VE.cons
    · exact ev_lss5 (p := false) rfl (gn rfl) rfl rfl (decide_eq_false (by omega))
    simp only [nm, seval]
    exact VE.nil _
  · kernel_rfl
  change VOk _ _ _ _ _
  refine vcond_f rfl ?_
  refine vskip ?_
  change VOk _ _ _ _ _
  apply vrp
  · apply VE.cons
    · exact ev_add (c := 1) rfl (gn rfl) rfl rfl (by decide)
    simp only [nm, seval]
    apply VE.cons
    · exact ev_move rfl (gn rfl)
    simp only [nm, seval]
    exact VE.nil _
  · kernel_rfl
  change VOk _ _ _ _ _
  refine vseq ?_
  apply vrp
  · apply VE.cons
    · exact ev_lss5 (p := true) rfl (gn rfl) rfl rfl (by decide)
    simp only [nm, seval]
    exact VE.nil _
  · kernel_rfl
  change VOk _ _ _ _ _
  refine vseq ?_
  refine vcond_t rfl ?_
  refine vskip ?_
  change VOk _ _ _ _ _
  refine vseq ?_
  refine vblock ?_
  refine vseq ?_
  apply vrp
  · apply VE.cons
    · exact ev_idx (k := 1) rfl (gn rfl) rfl rfl Tryd.underlying87 Tryd.sizeOf26 (rdg_arg hv) (by decide) (by decide)
    simp only [nm, seval]
    apply VE.cons
    · exact ev_loadi rfl (gn rfl) rfl Tryd.underlying26 rfl (rdg_arg hv) (rfl)
    simp only [nm, seval]
    apply VE.cons
    · exact ev_assign rfl (gn rfl)
    simp only [nm, seval]
    exact VE.nil _
  · kernel_rfl
  change VOk _ _ _ _ _
  refine vseq ?_
  apply vrp
  · apply VE.cons
    · exact ev_move rfl (gn rfl)
    simp only [nm, seval]
    apply VE.cons
    · exact ev_move rfl (gn rfl)
    simp only [nm, seval]
    apply VE.cons
    · exact ev_len rfl (gn rfl) rfl Tryd.underlying26 (rdg_arg h1)
    simp only [nm, seval]
    apply VE.cons
    · exact ev_add (c := ((n0 + n1 : Nat) : Int)) rfl (gn rfl) rfl rfl (by rw [i64w (by omega) (by omega)]; omega)
    simp only [nm, seval]
    apply VE.cons
    · exact ev_assign rfl (gn rfl)
    simp only [nm, seval]
    exact VE.nil _
  · kernel_rfl
  change VOk _ _ _ _ _
  refine vseq ?_
  apply vrp
  · apply VE.cons
    · exact ev_move rfl (gn rfl)
    simp only [nm, seval]
    apply VE.cons
    · exact ev_lss5 (p := false) rfl (gn rfl) rfl rfl (decide_eq_false (by omega))
    simp only [nm, seval]
    exact VE.nil _
  · kernel_rfl
  change VOk _ _ _ _ _
  refine vcond_f rfl ?_
  refine vskip ?_
  change VOk _ _ _ _ _
  apply vrp
  · apply VE.cons
    · exact ev_add (c := 2) rfl (gn rfl) rfl rfl (by decide)
    simp only [nm, seval]
    apply VE.cons
    · exact ev_move rfl (gn rfl)
    simp only [nm, seval]
    exact VE.nil _
  · kernel_rfl
  change VOk _ _ _ _ _
  refine vseq ?_
  apply vrp
  · apply VE.cons
    · exact ev_lss5 (p := true) rfl (gn rfl) rfl rfl (by decide)
    simp only [nm, seval]
    exact VE.nil _
  · kernel_rfl
  change VOk _ _ _ _ _
  refine vseq ?_
  refine vcond_t rfl ?_
  refine vskip ?_
  change VOk _ _ _ _ _
  refine vseq ?_
  refine vblock ?_
  refine vseq ?_
  apply vrp
  · apply VE.cons
    · exact ev_idx (k := 2) rfl (gn rfl) rfl rfl Tryd.underlying87 Tryd.sizeOf26 (rdg_arg hv) (by decide) (by decide)
    simp only [nm, seval]
    apply VE.cons
    · exact ev_loadi rfl (gn rfl) rfl Tryd.underlying26 rfl (rdg_arg hv) (rfl)
    simp only [nm, seval]
    apply VE.cons
    · exact ev_assign rfl (gn rfl)
    simp only [nm, seval]
    exact VE.nil _
  · kernel_rfl
  change VOk _ _ _ _ _
  refine vseq ?_
  apply vrp
  · apply VE.cons
    · exact ev_move rfl (gn rfl)
    simp only [nm, seval]
    apply VE.cons
    · exact ev_move rfl (gn rfl)
    simp only [nm, seval]
    apply VE.cons
    · exact ev_len rfl (gn rfl) rfl Tryd.underlying26 (rdg_arg h2)
    simp only [nm, seval]
    apply VE.cons
    · exact ev_add (c := ((n0 + n1 + n2 : Nat) : Int)) rfl (gn rfl) rfl rfl (by rw [i64w (by omega) (by omega)]; omega)
    simp only [nm, seval]
    apply VE.cons
    · exact ev_assign rfl (gn rfl)
    simp only [nm, seval]
    exact VE.nil _
  · kernel_rfl
  change VOk _ _ _ _ _
  refine vseq ?_
  apply vrp
  · apply VE.cons
    · exact ev_move rfl (gn rfl)
    simp only [nm, seval]
    apply VE.cons
    · exact ev_lss5 (p := false) rfl (gn rfl) rfl rfl (decide_eq_false (by omega))
    simp only [nm, seval]
    exact VE.nil _
  · kernel_rfl
  change VOk _ _ _ _ _
  refine vcond_f rfl ?_
  refine vskip ?_
  change VOk _ _ _ _ _
  apply vrp
  · apply VE.cons
    · exact ev_add (c := 3) rfl (gn rfl) rfl rfl (by decide)
    simp only [nm, seval]
    apply VE.cons
    · exact ev_move rfl (gn rfl)
    simp only [nm, seval]
    exact VE.nil _
  · kernel_rfl
  change VOk _ _ _ _ _
  refine vseq ?_
  apply vrp
  · apply VE.cons
    · exact ev_lss5 (p := false) rfl (gn rfl) rfl rfl (by decide)
    simp only [nm, seval]
    exact VE.nil _
  · kernel_rfl
  change VOk _ _ _ _ _
  refine vseq ?_
  refine vcond_f rfl ?_
  refine vexit ?_
  change VOk _ _ _ _ _
  refine vseq ?_
  apply vrp
  · apply VE.cons
    · exact ev_move rfl (gn rfl)
    simp only [nm, seval]
    apply VE.cons
    · exact ev_callrow [] rfl rfl (gn rfl) rfl (en_of Tryd.func56 (by kernel_rfl) rfl) (n := 0) (l := []) rfl (fun ρ S w' hb _ => grow_ok (n0 + n1 + n2) hm w')
    simp only [nm, seval]
    apply VE.cons
    · exact ev_assign rfl (gn rfl)
    simp only [nm, seval]
    exact VE.nil _
  · kernel_rfl
  change VOk _ _ _ _ _
  refine vseq ?_
  refine vseq ?_
  apply vrp
  · apply VE.cons
    · exact ev_move rfl (gn rfl)
    simp only [nm, seval]
    apply VE.cons
    · exact ev_len rfl (gn rfl) rfl Tryd.underlying87 (rdg_arg hv)
    simp only [nm, seval]
    apply VE.cons
    · exact ev_move rfl (gn rfl)
    simp only [nm, seval]
    exact VE.nil _
  · kernel_rfl
  change VOk _ _ _ _ _
  refine vblock ?_
  refine vloop 4 ?_
  change VOk _ _ _ _ _
  refine vseq ?_
  apply vrp
  · apply VE.cons
    · exact ev_lss5 (p := true) rfl (gn rfl) rfl rfl (by decide)
    simp only [nm, seval]
    exact VE.nil _
  · kernel_rfl
  change VOk _ _ _ _ _
  refine vseq ?_
  refine vcond_t rfl ?_
  refine vskip ?_
  change VOk _ _ _ _ _
  refine vseq ?_
  refine vblock ?_
  refine vseq ?_
  apply vrp
  · apply VE.cons
    · exact ev_idx (k := 0) rfl (gn rfl) rfl rfl Tryd.underlying87 Tryd.sizeOf26 (rdg_arg hv) (by decide) (by decide)
    simp only [nm, seval]
    apply VE.cons
    · exact ev_loadi rfl (gn rfl) rfl Tryd.underlying26 rfl (rdg_arg hv) (rfl)
    simp only [nm, seval]
    apply VE.cons
    · exact ev_assign rfl (gn rfl)
    simp only [nm, seval]
    exact VE.nil _
  · kernel_rfl
  change VOk _ _ _ _ _
  apply vrp
  · apply VE.cons
    · exact ev_move rfl (gn rfl)
    simp only [nm, seval]
    apply VE.cons
    · exact ev_move rfl (gn rfl)
    simp only [nm, seval]
    apply VE.cons
    · exact ev_append rfl rfl (gn rfl) rfl rfl rfl (rdg_arg h0) Tryd.underlying26 el5 (by decide) (by simp) a0 (by simp only [maxLen]; omega) (by omega) (by simp [e0])
    simp only [nm, seval]
    apply VE.cons
    · exact ev_assign rfl (gn rfl)
    simp only [nm, seval]
    exact VE.nil _
  · kernel_rfl
  change VOk _ _ _ _ _
  apply vrp
  · apply VE.cons
    · exact ev_add (c := 1) rfl (gn rfl) rfl rfl (by decide)
    simp only [nm, seval]
    apply VE.cons
    · exact ev_move rfl (gn rfl)
    simp only [nm, seval]
    exact VE.nil _
  · kernel_rfl
  change VOk _ _ _ _ _
  refine VOk.weak (weaker_ren 33 901 (by decide) rfl) ?_
  intro _
  simp only [SV.renL, SV.ren, renMem, Blk.ren, seval]
  refine vseq ?_
  apply vrp
  · apply VE.cons
    · exact ev_lss5 (p := true) rfl (gn rfl) rfl rfl (by decide)
    simp only [nm, seval]
    exact VE.nil _
  · kernel_rfl
  change VOk _ _ _ _ _
  refine vseq ?_
  refine vcond_t rfl ?_
  refine vskip ?_
  change VOk _ _ _ _ _
  refine vseq ?_
  refine vblock ?_
  refine vseq ?_
  apply vrp
  · apply VE.cons
    · exact ev_idx (k := 1) rfl (gn rfl) rfl rfl Tryd.underlying87 Tryd.sizeOf26 (rdg_arg hv) (by decide) (by decide)
    simp only [nm, seval]
    apply VE.cons
    · exact ev_loadi rfl (gn rfl) rfl Tryd.underlying26 rfl (rdg_arg hv) (rfl)
    simp only [nm, seval]
    apply VE.cons
    · exact ev_assign rfl (gn rfl)
    simp only [nm, seval]
    exact VE.nil _
  · kernel_rfl
  change VOk _ _ _ _ _
  apply vrp
  · apply VE.cons
    · exact ev_move rfl (gn rfl)
    simp only [nm, seval]
    apply VE.cons
    · exact ev_move rfl (gn rfl)
    simp only [nm, seval]
    apply VE.cons
    · exact ev_append rfl rfl (gn rfl) rfl rfl rfl (rdg_arg h1) Tryd.underlying26 el5 (by decide) (by simp [e0]) a1 (by simp only [maxLen]; omega) (by omega) (by simp [e1])
    simp only [nm, seval]
    apply VE.cons
    · exact ev_assign rfl (gn rfl)
    simp only [nm, seval]
    exact VE.nil _
  · kernel_rfl
  change VOk _ _ _ _ _
  apply vrp
  · apply VE.cons
    · exact ev_add (c := 2) rfl (gn rfl) rfl rfl (by decide)
    simp only [nm, seval]
    apply VE.cons
    · exact ev_move rfl (gn rfl)
    simp only [nm, seval]
    exact VE.nil _
  · kernel_rfl
  change VOk _ _ _ _ _
  refine VOk.weak (weaker_ren 33 902 (by decide) rfl) ?_
  intro _
  simp only [SV.renL, SV.ren, renMem, Blk.ren, seval]
  refine vseq ?_
  apply vrp
  · apply VE.cons
    · exact ev_lss5 (p := true) rfl (gn rfl) rfl rfl (by decide)
    simp only [nm, seval]
    exact VE.nil _
  · kernel_rfl
  change VOk _ _ _ _ _
  refine vseq ?_
  refine vcond_t rfl ?_
  refine vskip ?_
  change VOk _ _ _ _ _
  refine vseq ?_
  refine vblock ?_
  refine vseq ?_
  apply vrp
  · apply VE.cons
    · exact ev_idx (k := 2) rfl (gn rfl) rfl rfl Tryd.underlying87 Tryd.sizeOf26 (rdg_arg hv) (by decide) (by decide)
    simp only [nm, seval]
    apply VE.cons
    · exact ev_loadi rfl (gn rfl) rfl Tryd.underlying26 rfl (rdg_arg hv) (rfl)
    simp only [nm, seval]
    apply VE.cons
    · exact ev_assign rfl (gn rfl)
    simp only [nm, seval]
    exact VE.nil _
  · kernel_rfl
  change VOk _ _ _ _ _
  apply vrp
  · apply VE.cons
    · exact ev_move rfl (gn rfl)
    simp only [nm, seval]
    apply VE.cons
    · exact ev_move rfl (gn rfl)
    simp only [nm, seval]
    apply VE.cons
    · exact ev_append rfl rfl (gn rfl) rfl rfl rfl (rdg_arg h2) Tryd.underlying26 el5 (by decide) (by simp [e0, e1]) a2 (by simp only [maxLen]; omega) (by omega) (by simp [e2])
    simp only [nm, seval]
    apply VE.cons
    · exact ev_assign rfl (gn rfl)
    simp only [nm, seval]
    exact VE.nil _
  · kernel_rfl
  change VOk _ _ _ _ _
  apply vrp
  · apply VE.cons
    · exact ev_add (c := 3) rfl (gn rfl) rfl rfl (by decide)
    simp only [nm, seval]
    apply VE.cons
    · exact ev_move rfl (gn rfl)
    simp only [nm, seval]
    exact VE.nil _
  · kernel_rfl
  change VOk _ _ _ _ _
  refine vseq ?_
  apply vrp
  · apply VE.cons
    · exact ev_lss5 (p := false) rfl (gn rfl) rfl rfl (by decide)
    simp only [nm, seval]
    exact VE.nil _
  · kernel_rfl
  change VOk _ _ _ _ _
  refine vseq ?_
  refine vcond_f rfl ?_
  refine vexit ?_
  change VOk _ _ _ _ _
  refine vseq ?_
  apply vrp
  · apply VE.cons
    · exact ev_move rfl (gn rfl)
    simp only [nm, seval]
    apply VE.cons
    · exact ev_assign rfl (gn rfl)
    simp only [nm, seval]
    exact VE.nil _
  · kernel_rfl
  change VOk _ _ _ _ _
  refine vret ?_
  refine post_ret (res1 Tryd.results46 (rv_tmp rfl)) ?_
  intro ρ w' hr
  exact ⟨_, rfl, ret_row (id := 33) hr rfl, hr.1⟩
end Go.Proofs.YtmgmiiongleaeaaDoor
