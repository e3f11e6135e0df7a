import Derived.Test.YtmgmiiongleaeaaDoorEa
namespace Go.Proofs.YtmgmiiongleaeaaDoor
open Go.RowKit Go.Vx
open Go.Toll (Gw)
set_option maxHeartbeats 4000000
set_option maxRecDepth 100000
theorem rRead_big {b : List Nat} (w : World) (h8 : ∀ x ∈ b, x < 256) (hbl : b.length ≤ 1048576) (hl : b.length > 2048) : Calls Tryd.prog 29 #[.string (bstr b)] w fun e w' => ∃ v', e = .returned (.tuple #[v', .int .i64 4]) ∧ RetD w w' v' (datR (noT)) ∧ Bw w w' := by
  go_enter Tryd.func29, Tryd.ntmps29
  refine ve_go ?_
  simp only [List.map_cons, List.map_nil]
  refine vseq ?_
  apply vrp
  · apply VE.cons
    · exact ev_alloc rfl rfl (gn rfl) Tryd.zeroValue24
    simp only [nm, seval]
    apply VE.cons
    · exact ev_assign rfl (gn rfl)
    simp only [nm, seval]
    exact VE.nil _
  · kernel_rfl
  change VOk _ _ _ _ _
  refine vseq ?_
  refine vseq ?_
  apply vrp
  · apply VE.cons
    · exact ev_move rfl (gn rfl)
    simp only [nm, seval]
    apply VE.cons
    · exact ev_lenb rfl (gn rfl) rfl Tryd.underlying9
    simp only [nm, seval]
    apply VE.cons
    · exact ev_gtr (p := true) rfl (gn rfl) rfl rfl (decide_eq_true (by omega))
    simp only [nm, seval]
    exact VE.nil _
  · kernel_rfl
  change VOk _ _ _ _ _
  refine vcond_t rfl ?_
  refine vseq ?_
  apply vrp
  · apply VE.cons
    · exact ev_build (cells := #[.int .i64 0, .string (ByteArray.mk #[]), .slice none 0 0]) rfl (gn rfl) rfl built24_0
    simp only [nm, seval]
    apply VE.cons
    · exact ev_store rfl (gn rfl) rfl rfl rfl Tryd.sizeOf24 rfl (by simp) rfl
    simp only [nm, seval]
    apply VE.cons
    · exact ev_assign rfl (gn rfl)
    simp only [nm, seval]
    exact VE.nil _
  · kernel_rfl
  change VOk _ _ _ _ _
  refine vret ?_
  refine post_ret (res2 Tryd.results29 (rv_cella rfl rfl Tryd.underlying24 rfl Tryd.sizeOf24 rfl) (rv_tmp rfl)) ?_
  intro ρ w' hr
  refine ⟨_, rfl, ?_, hr.1⟩
  exact rnode_leaf 0 []
theorem rRead_n {b : List Nat} (w : World) (h8 : ∀ x ∈ b, x < 256) (hbl : b.length ≤ 1048576) {t : Tr} {r : List Nat} (hl : b.length ≤ 2048) (hz : oneF 8 b = (t, r, false)) (hr8 : ∀ x ∈ r, x < 256)  : Calls Tryd.prog 29 #[.string (bstr b)] w fun e w' => ∃ v', e = .returned (.tuple #[v', .int .i64 2]) ∧ RetD w w' v' (datR (noT)) ∧ Bw w w' := by
  go_enter Tryd.func29, Tryd.ntmps29
  refine ve_go ?_
  simp only [List.map_cons, List.map_nil]
  refine vseq ?_
  apply vrp
  · apply VE.cons
    · exact ev_alloc rfl rfl (gn rfl) Tryd.zeroValue24
    simp only [nm, seval]
    apply VE.cons
    · exact ev_assign rfl (gn rfl)
    simp only [nm, seval]
    exact VE.nil _
  · kernel_rfl
  change VOk _ _ _ _ _
  refine vseq ?_
  refine vseq ?_
  apply vrp
  · apply VE.cons
    · exact ev_move rfl (gn rfl)
    simp only [nm, seval]
    apply VE.cons
    · exact ev_lenb rfl (gn rfl) rfl Tryd.underlying9
    simp only [nm, seval]
    apply VE.cons
    · exact ev_gtr (p := false) rfl (gn rfl) rfl rfl (decide_eq_false (by omega))
    simp only [nm, seval]
    exact VE.nil _
  · kernel_rfl
  change VOk _ _ _ _ _
  refine vcond_f rfl ?_
  refine vskip ?_
  change VOk _ _ _ _ _
  refine vseq ?_
  apply vrp
  · apply VE.cons
    · exact ev_move rfl (gn rfl)
    simp only [nm, seval]
    apply VE.cons
    · exact ev_calldt (D := datR t) (ys := [.string (bstr r), .bool false]) [] rfl rfl (gn rfl) rfl (en_of Tryd.func40 (by kernel_rfl) rfl) (fun ρ S w' hb _ => by have := one_ok 8 _ 1 w' rfl h8 hbl; rw [hz] at this; exact this)
    simp only [nm, seval]
    apply VE.cons
    · exact ev_move rfl (gn rfl)
    simp only [nm, seval]
    apply VE.cons
    · first | exact ev_extract rfl (gn rfl) rfl rfl | exact ev_extractt rfl (gn rfl) rfl rfl
    simp only [nm, seval]
    apply VE.cons
    · first | exact ev_extract rfl (gn rfl) rfl rfl | exact ev_extractt rfl (gn rfl) rfl rfl
    simp only [nm, seval]
    apply VE.cons
    · first | exact ev_extract rfl (gn rfl) rfl rfl | exact ev_extractt rfl (gn rfl) rfl rfl
    simp only [nm, seval]
    apply VE.cons
    · exact ev_alloc rfl rfl (gn rfl) Tryd.zeroValue24
    simp only [nm, seval]
    apply VE.cons
    · first | exact ev_store rfl (gn rfl) rfl rfl rfl Tryd.sizeOf24 rfl (by simp) rfl | exact ev_storeR (vl := [.fn (cellV 0) (.d 15), .fn (cellV 1) (.d 15), .fn (cellV 2) (.d 15)]) [4, 15] rfl (gn rfl) rfl rfl rfl Tryd.sizeOf24 rfl (fun ρ S w' _ hR => by obtain ⟨c, h1, h2⟩ := datR_get (id := 15) hR (by simp) rfl; have hf := fn3 h1 (RN_len h2); exact ⟨hf.1, hf.2 ▸ RN_one h2⟩) rfl (by simp) | exact ev_storeR (vl := [.fn (cellV 0) (.d 15), .fn (cellV 1) (.d 15), .fn (cellV 2) (.d 15)]) [2, 15] rfl (gn rfl) rfl rfl rfl Tryd.sizeOf24 rfl (fun ρ S w' _ hR => by obtain ⟨c, h1, h2⟩ := datR_get (id := 15) hR (by simp) rfl; have hf := fn3 h1 (RN_len h2); exact ⟨agg_cells _, hf.2 ▸ RN_one h2⟩) rfl (by simp)
    simp only [nm, seval]
    apply VE.cons
    · exact ev_assign rfl (gn rfl)
    simp only [nm, seval]
    apply VE.cons
    · exact ev_assign rfl (gn rfl)
    simp only [nm, seval]
    exact VE.nil _
  · kernel_rfl
  change VOk _ _ _ _ _
  refine vseq ?_
  refine vseq ?_
  apply vrp
  · apply VE.cons
    · exact ev_move rfl (gn rfl)
    simp only [nm, seval]
    apply VE.cons
    · exact ev_not rfl (gn rfl) rfl
    simp only [nm, seval]
    apply VE.cons
    · exact ev_move rfl (gn rfl)
    simp only [nm, seval]
    apply VE.cons
    · first | exact Ev.skip (fun _ => rfl) | exact ev_move rfl (fun _ => rfl)
    simp only [nm, seval]
    apply VE.cons
    · first | exact Ev.skip (fun _ => rfl) | refine ev_pure' (fun _ => rfl) (fun ρ w => by simp only [VS.act, SV.c, List.map_cons, List.map_nil]; go_simp; exact rfl) (fun _ _ => rfl)
    simp only [nm, seval]
    apply VE.cons
    · first | exact ev_pick_t rfl (gn rfl) rfl rfl | exact ev_pick_f rfl (gn rfl) rfl rfl
    simp only [nm, seval]
    exact VE.nil _
  · kernel_rfl
  change VOk _ _ _ _ _
  refine vcond_t rfl ?_
  refine vseq ?_
  apply vrp
  · apply VE.cons
    · exact ev_build (cells := #[.int .i64 0, .string (ByteArray.mk #[]), .slice none 0 0]) rfl (gn rfl) rfl built24_0
    simp only [nm, seval]
    apply VE.cons
    · first | exact ev_store rfl (gn rfl) rfl rfl rfl Tryd.sizeOf24 rfl (by simp) rfl | exact ev_storeR (vl := [.fn (cellV 0) (.d 15), .fn (cellV 1) (.d 15), .fn (cellV 2) (.d 15)]) [4, 15] rfl (gn rfl) rfl rfl rfl Tryd.sizeOf24 rfl (fun ρ S w' _ hR => by obtain ⟨c, h1, h2⟩ := datR_get (id := 15) hR (by simp) rfl; have hf := fn3 h1 (RN_len h2); exact ⟨hf.1, hf.2 ▸ RN_one h2⟩) rfl (by simp) | exact ev_storeR (vl := [.fn (cellV 0) (.d 15), .fn (cellV 1) (.d 15), .fn (cellV 2) (.d 15)]) [2, 15] rfl (gn rfl) rfl rfl rfl Tryd.sizeOf24 rfl (fun ρ S w' _ hR => by obtain ⟨c, h1, h2⟩ := datR_get (id := 15) hR (by simp) rfl; have hf := fn3 h1 (RN_len h2); exact ⟨agg_cells _, hf.2 ▸ RN_one h2⟩) rfl (by simp)
    simp only [nm, seval]
    apply VE.cons
    · exact ev_assign rfl (gn rfl)
    simp only [nm, seval]
    exact VE.nil _
  · kernel_rfl
  change VOk _ _ _ _ _
  refine vret ?_
  refine post_ret (res2 Tryd.results29 (rv_cella rfl rfl Tryd.underlying24 rfl Tryd.sizeOf24 rfl) (rv_tmp rfl)) ?_
  intro ρ w' hr
  refine ⟨_, rfl, ?_, hr.1⟩
  exact rnode_leaf 0 []
theorem rRead_r {b : List Nat} (w : World) (h8 : ∀ x ∈ b, x < 256) (hbl : b.length ≤ 1048576) {t : Tr} {r : List Nat} (hl : b.length ≤ 2048) (hz : oneF 8 b = (t, r, true)) (hr8 : ∀ x ∈ r, x < 256) (hr0 : r.length > 0) : Calls Tryd.prog 29 #[.string (bstr b)] w fun e w' => ∃ v', e = .returned (.tuple #[v', .int .i64 2]) ∧ RetD w w' v' (datR (noT)) ∧ Bw w w' := by
  go_enter Tryd.func29, Tryd.ntmps29
  refine ve_go ?_
  simp only [List.map_cons, List.map_nil]
  refine vseq ?_
  apply vrp
  · apply VE.cons
    · exact ev_alloc rfl rfl (gn rfl) Tryd.zeroValue24
    simp only [nm, seval]
    apply VE.cons
    · exact ev_assign rfl (gn rfl)
    simp only [nm, seval]
    exact VE.nil _
  · kernel_rfl
  change VOk _ _ _ _ _
  refine vseq ?_
  refine vseq ?_
  apply vrp
  · apply VE.cons
    · exact ev_move rfl (gn rfl)
    simp only [nm, seval]
    apply VE.cons
    · exact ev_lenb rfl (gn rfl) rfl Tryd.underlying9
    simp only [nm, seval]
    apply VE.cons
    · exact ev_gtr (p := false) rfl (gn rfl) rfl rfl (decide_eq_false (by omega))
    simp only [nm, seval]
    exact VE.nil _
  · kernel_rfl
  change VOk _ _ _ _ _
  refine vcond_f rfl ?_
  refine vskip ?_
  change VOk _ _ _ _ _
  refine vseq ?_
  apply vrp
  · apply VE.cons
    · exact ev_move rfl (gn rfl)
    simp only [nm, seval]
    apply VE.cons
    · exact ev_calldt (D := datR t) (ys := [.string (bstr r), .bool true]) [] rfl rfl (gn rfl) rfl (en_of Tryd.func40 (by kernel_rfl) rfl) (fun ρ S w' hb _ => by have := one_ok 8 _ 1 w' rfl h8 hbl; rw [hz] at this; exact this)
    simp only [nm, seval]
    apply VE.cons
    · exact ev_move rfl (gn rfl)
    simp only [nm, seval]
    apply VE.cons
    · first | exact ev_extract rfl (gn rfl) rfl rfl | exact ev_extractt rfl (gn rfl) rfl rfl
    simp only [nm, seval]
    apply VE.cons
    · first | exact ev_extract rfl (gn rfl) rfl rfl | exact ev_extractt rfl (gn rfl) rfl rfl
    simp only [nm, seval]
    apply VE.cons
    · first | exact ev_extract rfl (gn rfl) rfl rfl | exact ev_extractt rfl (gn rfl) rfl rfl
    simp only [nm, seval]
    apply VE.cons
    · exact ev_alloc rfl rfl (gn rfl) Tryd.zeroValue24
    simp only [nm, seval]
    apply VE.cons
    · first | exact ev_store rfl (gn rfl) rfl rfl rfl Tryd.sizeOf24 rfl (by simp) rfl | exact ev_storeR (vl := [.fn (cellV 0) (.d 15), .fn (cellV 1) (.d 15), .fn (cellV 2) (.d 15)]) [4, 15] rfl (gn rfl) rfl rfl rfl Tryd.sizeOf24 rfl (fun ρ S w' _ hR => by obtain ⟨c, h1, h2⟩ := datR_get (id := 15) hR (by simp) rfl; have hf := fn3 h1 (RN_len h2); exact ⟨hf.1, hf.2 ▸ RN_one h2⟩) rfl (by simp) | exact ev_storeR (vl := [.fn (cellV 0) (.d 15), .fn (cellV 1) (.d 15), .fn (cellV 2) (.d 15)]) [2, 15] rfl (gn rfl) rfl rfl rfl Tryd.sizeOf24 rfl (fun ρ S w' _ hR => by obtain ⟨c, h1, h2⟩ := datR_get (id := 15) hR (by simp) rfl; have hf := fn3 h1 (RN_len h2); exact ⟨agg_cells _, hf.2 ▸ RN_one h2⟩) rfl (by simp)
    simp only [nm, seval]
    apply VE.cons
    · exact ev_assign rfl (gn rfl)
    simp only [nm, seval]
    apply VE.cons
    · exact ev_assign rfl (gn rfl)
    simp only [nm, seval]
    exact VE.nil _
  · kernel_rfl
  change VOk _ _ _ _ _
  refine vseq ?_
  refine vseq ?_
  apply vrp
  · apply VE.cons
    · exact ev_move rfl (gn rfl)
    simp only [nm, seval]
    apply VE.cons
    · exact ev_not rfl (gn rfl) rfl
    simp only [nm, seval]
    apply VE.cons
    · exact ev_move rfl (gn rfl)
    simp only [nm, seval]
    apply VE.cons
    · first | exact Ev.skip (fun _ => rfl) | exact ev_move rfl (fun _ => rfl)
    simp only [nm, seval]
    apply VE.cons
    · first | exact Ev.skip (fun _ => rfl) | exact ev_bin (c := .bool true) rfl (fun _ => rfl) rfl rfl (fun w => str_ne (b := []) (decide_eq_true (fun h => by rw [h] at hr0; simp at hr0)) hr8 (fun x hx => by cases hx) _ _ w)
    simp only [nm, seval]
    apply VE.cons
    · first | exact ev_pick_t rfl (gn rfl) rfl rfl | exact ev_pick_f rfl (gn rfl) rfl rfl
    simp only [nm, seval]
    exact VE.nil _
  · kernel_rfl
  change VOk _ _ _ _ _
  refine vcond_t rfl ?_
  refine vseq ?_
  apply vrp
  · apply VE.cons
    · exact ev_build (cells := #[.int .i64 0, .string (ByteArray.mk #[]), .slice none 0 0]) rfl (gn rfl) rfl built24_0
    simp only [nm, seval]
    apply VE.cons
    · first | exact ev_store rfl (gn rfl) rfl rfl rfl Tryd.sizeOf24 rfl (by simp) rfl | exact ev_storeR (vl := [.fn (cellV 0) (.d 15), .fn (cellV 1) (.d 15), .fn (cellV 2) (.d 15)]) [4, 15] rfl (gn rfl) rfl rfl rfl Tryd.sizeOf24 rfl (fun ρ S w' _ hR => by obtain ⟨c, h1, h2⟩ := datR_get (id := 15) hR (by simp) rfl; have hf := fn3 h1 (RN_len h2); exact ⟨hf.1, hf.2 ▸ RN_one h2⟩) rfl (by simp) | exact ev_storeR (vl := [.fn (cellV 0) (.d 15), .fn (cellV 1) (.d 15), .fn (cellV 2) (.d 15)]) [2, 15] rfl (gn rfl) rfl rfl rfl Tryd.sizeOf24 rfl (fun ρ S w' _ hR => by obtain ⟨c, h1, h2⟩ := datR_get (id := 15) hR (by simp) rfl; have hf := fn3 h1 (RN_len h2); exact ⟨agg_cells _, hf.2 ▸ RN_one h2⟩) rfl (by simp)
    simp only [nm, seval]
    apply VE.cons
    · exact ev_assign rfl (gn rfl)
    simp only [nm, seval]
    exact VE.nil _
  · kernel_rfl
  change VOk _ _ _ _ _
  refine vret ?_
  refine post_ret (res2 Tryd.results29 (rv_cella rfl rfl Tryd.underlying24 rfl Tryd.sizeOf24 rfl) (rv_tmp rfl)) ?_
  intro ρ w' hr
  refine ⟨_, rfl, ?_, hr.1⟩
  exact rnode_leaf 0 []
theorem rRead_e {b : List Nat} (w : World) (h8 : ∀ x ∈ b, x < 256) (hbl : b.length ≤ 1048576) {t : Tr} {r : List Nat} (hl : b.length ≤ 2048) (hz : oneF 8 b = (t, r, true)) (hr8 : ∀ x ∈ r, x < 256) (hr0 : r = []) (hok : t.ok) (hwt : wt t ≤ 1048576) (he : (wrT t).2 ≠ 0) : Calls Tryd.prog 29 #[.string (bstr b)] w fun e w' => ∃ v', e = .returned (.tuple #[v', .int .i64 2]) ∧ RetD w w' v' (datR (noT)) ∧ Bw w w' := by
  go_enter Tryd.func29, Tryd.ntmps29
  refine ve_go ?_
  simp only [List.map_cons, List.map_nil]
  refine vseq ?_
  apply vrp
  · apply VE.cons
    · exact ev_alloc rfl rfl (gn rfl) Tryd.zeroValue24
    simp only [nm, seval]
    apply VE.cons
    · exact ev_assign rfl (gn rfl)
    simp only [nm, seval]
    exact VE.nil _
  · kernel_rfl
  change VOk _ _ _ _ _
  refine vseq ?_
  refine vseq ?_
  apply vrp
  · apply VE.cons
    · exact ev_move rfl (gn rfl)
    simp only [nm, seval]
    apply VE.cons
    · exact ev_lenb rfl (gn rfl) rfl Tryd.underlying9
    simp only [nm, seval]
    apply VE.cons
    · exact ev_gtr (p := false) rfl (gn rfl) rfl rfl (decide_eq_false (by omega))
    simp only [nm, seval]
    exact VE.nil _
  · kernel_rfl
  change VOk _ _ _ _ _
  refine vcond_f rfl ?_
  refine vskip ?_
  change VOk _ _ _ _ _
  refine vseq ?_
  apply vrp
  · apply VE.cons
    · exact ev_move rfl (gn rfl)
    simp only [nm, seval]
    apply VE.cons
    · exact ev_calldt (D := datR t) (ys := [.string (bstr r), .bool true]) [] rfl rfl (gn rfl) rfl (en_of Tryd.func40 (by kernel_rfl) rfl) (fun ρ S w' hb _ => by have := one_ok 8 _ 1 w' rfl h8 hbl; rw [hz] at this; exact this)
    simp only [nm, seval]
    apply VE.cons
    · exact ev_move rfl (gn rfl)
    simp only [nm, seval]
    apply VE.cons
    · first | exact ev_extract rfl (gn rfl) rfl rfl | exact ev_extractt rfl (gn rfl) rfl rfl
    simp only [nm, seval]
    apply VE.cons
    · first | exact ev_extract rfl (gn rfl) rfl rfl | exact ev_extractt rfl (gn rfl) rfl rfl
    simp only [nm, seval]
    apply VE.cons
    · first | exact ev_extract rfl (gn rfl) rfl rfl | exact ev_extractt rfl (gn rfl) rfl rfl
    simp only [nm, seval]
    apply VE.cons
    · exact ev_alloc rfl rfl (gn rfl) Tryd.zeroValue24
    simp only [nm, seval]
    apply VE.cons
    · first | exact ev_store rfl (gn rfl) rfl rfl rfl Tryd.sizeOf24 rfl (by simp) rfl | exact ev_storeR (vl := [.fn (cellV 0) (.d 15), .fn (cellV 1) (.d 15), .fn (cellV 2) (.d 15)]) [4, 15] rfl (gn rfl) rfl rfl rfl Tryd.sizeOf24 rfl (fun ρ S w' _ hR => by obtain ⟨c, h1, h2⟩ := datR_get (id := 15) hR (by simp) rfl; have hf := fn3 h1 (RN_len h2); exact ⟨hf.1, hf.2 ▸ RN_one h2⟩) rfl (by simp) | exact ev_storeR (vl := [.fn (cellV 0) (.d 15), .fn (cellV 1) (.d 15), .fn (cellV 2) (.d 15)]) [2, 15] rfl (gn rfl) rfl rfl rfl Tryd.sizeOf24 rfl (fun ρ S w' _ hR => by obtain ⟨c, h1, h2⟩ := datR_get (id := 15) hR (by simp) rfl; have hf := fn3 h1 (RN_len h2); exact ⟨agg_cells _, hf.2 ▸ RN_one h2⟩) rfl (by simp)
    simp only [nm, seval]
    apply VE.cons
    · exact ev_assign rfl (gn rfl)
    simp only [nm, seval]
    apply VE.cons
    · exact ev_assign rfl (gn rfl)
    simp only [nm, seval]
    exact VE.nil _
  · kernel_rfl
  change VOk _ _ _ _ _
  refine vseq ?_
  refine vseq ?_
  apply vrp
  · apply VE.cons
    · exact ev_move rfl (gn rfl)
    simp only [nm, seval]
    apply VE.cons
    · exact ev_not rfl (gn rfl) rfl
    simp only [nm, seval]
    apply VE.cons
    · exact ev_move rfl (gn rfl)
    simp only [nm, seval]
    apply VE.cons
    · first | exact Ev.skip (fun _ => rfl) | exact ev_move rfl (fun _ => rfl)
    simp only [nm, seval]
    apply VE.cons
    · first | exact Ev.skip (fun _ => rfl) | exact ev_bin (c := .bool false) rfl (fun _ => rfl) rfl rfl (fun w => str_ne (b := []) (decide_eq_false (fun h => h hr0)) hr8 (fun x hx => by cases hx) _ _ w)
    simp only [nm, seval]
    apply VE.cons
    · first | exact ev_pick_t rfl (gn rfl) rfl rfl | exact ev_pick_f rfl (gn rfl) rfl rfl
    simp only [nm, seval]
    exact VE.nil _
  · kernel_rfl
  change VOk _ _ _ _ _
  refine vcond_f rfl ?_
  refine vskip ?_
  change VOk _ _ _ _ _
  refine vseq ?_
  apply vrp
  · apply VE.cons
    · exact ev_loada rfl (gn rfl) rfl rfl Tryd.underlying24 rfl Tryd.sizeOf24 rfl
    simp only [nm, seval]
    apply VE.cons
    · exact ev_callp (v := .tuple #[.string (bstr (wrT t).1), .int .i64 (wrT t).2]) [15] rfl (gn rfl) rfl (en_of Tryd.func13 (by kernel_rfl) rfl) (fun ρ S w' hb hR => c_rwrite 15 hok hwt hR (by simp) rfl)
    simp only [nm, seval]
    apply VE.cons
    · exact ev_move rfl (gn rfl)
    simp only [nm, seval]
    apply VE.cons
    · first | exact ev_extract rfl (gn rfl) rfl rfl | exact ev_extractt rfl (gn rfl) rfl rfl
    simp only [nm, seval]
    apply VE.cons
    · first | exact ev_extract rfl (gn rfl) rfl rfl | exact ev_extractt rfl (gn rfl) rfl rfl
    simp only [nm, seval]
    apply VE.cons
    · exact ev_assign rfl (gn rfl)
    simp only [nm, seval]
    apply VE.cons
    · exact ev_assign rfl (gn rfl)
    simp only [nm, seval]
    exact VE.nil _
  · kernel_rfl
  change VOk _ _ _ _ _
  refine vseq ?_
  refine vseq ?_
  apply vrp
  · apply VE.cons
    · exact ev_move rfl (gn rfl)
    simp only [nm, seval]
    apply VE.cons
    · exact ev_neq (p := true) rfl (gn rfl) rfl rfl (decide_eq_true he)
    simp only [nm, seval]
    apply VE.cons
    · exact ev_move rfl (gn rfl)
    simp only [nm, seval]
    apply VE.cons
    · first | exact Ev.skip (fun _ => rfl) | exact ev_move rfl (fun _ => rfl)
    simp only [nm, seval]
    apply VE.cons
    · first | exact Ev.skip (fun _ => rfl) | exact ev_move rfl (fun _ => rfl)
    simp only [nm, seval]
    apply VE.cons
    · first | exact Ev.skip (fun _ => rfl) | refine ev_pure' (fun _ => rfl) (fun ρ w => by simp only [VS.act, SV.c, List.map_cons, List.map_nil]; go_simp; exact rfl) (fun _ _ => rfl)
    simp only [nm, seval]
    apply VE.cons
    · first | exact ev_pick_t rfl (gn rfl) rfl rfl | exact ev_pick_f rfl (gn rfl) rfl rfl
    simp only [nm, seval]
    exact VE.nil _
  · kernel_rfl
  change VOk _ _ _ _ _
  refine vcond_t rfl ?_
  refine vseq ?_
  apply vrp
  · apply VE.cons
    · exact ev_build (cells := #[.int .i64 0, .string (ByteArray.mk #[]), .slice none 0 0]) rfl (gn rfl) rfl built24_0
    simp only [nm, seval]
    apply VE.cons
    · first | exact ev_store rfl (gn rfl) rfl rfl rfl Tryd.sizeOf24 rfl (by simp) rfl | exact ev_storeR (vl := [.fn (cellV 0) (.d 15), .fn (cellV 1) (.d 15), .fn (cellV 2) (.d 15)]) [4, 15] rfl (gn rfl) rfl rfl rfl Tryd.sizeOf24 rfl (fun ρ S w' _ hR => by obtain ⟨c, h1, h2⟩ := datR_get (id := 15) hR (by simp) rfl; have hf := fn3 h1 (RN_len h2); exact ⟨hf.1, hf.2 ▸ RN_one h2⟩) rfl (by simp) | exact ev_storeR (vl := [.fn (cellV 0) (.d 15), .fn (cellV 1) (.d 15), .fn (cellV 2) (.d 15)]) [2, 15] rfl (gn rfl) rfl rfl rfl Tryd.sizeOf24 rfl (fun ρ S w' _ hR => by obtain ⟨c, h1, h2⟩ := datR_get (id := 15) hR (by simp) rfl; have hf := fn3 h1 (RN_len h2); exact ⟨agg_cells _, hf.2 ▸ RN_one h2⟩) rfl (by simp)
    simp only [nm, seval]
    apply VE.cons
    · exact ev_assign rfl (gn rfl)
    simp only [nm, seval]
    exact VE.nil _
  · kernel_rfl
  change VOk _ _ _ _ _
  refine vret ?_
  refine post_ret (res2 Tryd.results29 (rv_cella rfl rfl Tryd.underlying24 rfl Tryd.sizeOf24 rfl) (rv_tmp rfl)) ?_
  intro ρ w' hr
  refine ⟨_, rfl, ?_, hr.1⟩
  exact rnode_leaf 0 []
theorem rRead_c {b : List Nat} (w : World) (h8 : ∀ x ∈ b, x < 256) (hbl : b.length ≤ 1048576) {t : Tr} {r : List Nat} (hl : b.length ≤ 2048) (hz : oneF 8 b = (t, r, true)) (hr8 : ∀ x ∈ r, x < 256) (hr0 : r = []) (hok : t.ok) (hwt : wt t ≤ 1048576) (he : (wrT t).2 = 0) (hc : (wrT t).1 ≠ b) : Calls Tryd.prog 29 #[.string (bstr b)] w fun e w' => ∃ v', e = .returned (.tuple #[v', .int .i64 2]) ∧ RetD w w' v' (datR (noT)) ∧ Bw w w' := by
  go_enter Tryd.func29, Tryd.ntmps29
  refine ve_go ?_
  simp only [List.map_cons, List.map_nil]
  refine vseq ?_
  apply vrp
  · apply VE.cons
    · exact ev_alloc rfl rfl (gn rfl) Tryd.zeroValue24
    simp only [nm, seval]
    apply VE.cons
    · exact ev_assign rfl (gn rfl)
    simp only [nm, seval]
    exact VE.nil _
  · kernel_rfl
  change VOk _ _ _ _ _
  refine vseq ?_
  refine vseq ?_
  apply vrp
  · apply VE.cons
    · exact ev_move rfl (gn rfl)
    simp only [nm, seval]
    apply VE.cons
    · exact ev_lenb rfl (gn rfl) rfl Tryd.underlying9
    simp only [nm, seval]
    apply VE.cons
    · exact ev_gtr (p := false) rfl (gn rfl) rfl rfl (decide_eq_false (by omega))
    simp only [nm, seval]
    exact VE.nil _
  · kernel_rfl
  change VOk _ _ _ _ _
  refine vcond_f rfl ?_
  refine vskip ?_
  change VOk _ _ _ _ _
  refine vseq ?_
  apply vrp
  · apply VE.cons
    · exact ev_move rfl (gn rfl)
    simp only [nm, seval]
    apply VE.cons
    · exact ev_calldt (D := datR t) (ys := [.string (bstr r), .bool true]) [] rfl rfl (gn rfl) rfl (en_of Tryd.func40 (by kernel_rfl) rfl) (fun ρ S w' hb _ => by have := one_ok 8 _ 1 w' rfl h8 hbl; rw [hz] at this; exact this)
    simp only [nm, seval]
    apply VE.cons
    · exact ev_move rfl (gn rfl)
    simp only [nm, seval]
    apply VE.cons
    · first | exact ev_extract rfl (gn rfl) rfl rfl | exact ev_extractt rfl (gn rfl) rfl rfl
    simp only [nm, seval]
    apply VE.cons
    · first | exact ev_extract rfl (gn rfl) rfl rfl | exact ev_extractt rfl (gn rfl) rfl rfl
    simp only [nm, seval]
    apply VE.cons
    · first | exact ev_extract rfl (gn rfl) rfl rfl | exact ev_extractt rfl (gn rfl) rfl rfl
    simp only [nm, seval]
    apply VE.cons
    · exact ev_alloc rfl rfl (gn rfl) Tryd.zeroValue24
    simp only [nm, seval]
    apply VE.cons
    · first | exact ev_store rfl (gn rfl) rfl rfl rfl Tryd.sizeOf24 rfl (by simp) rfl | exact ev_storeR (vl := [.fn (cellV 0) (.d 15), .fn (cellV 1) (.d 15), .fn (cellV 2) (.d 15)]) [4, 15] rfl (gn rfl) rfl rfl rfl Tryd.sizeOf24 rfl (fun ρ S w' _ hR => by obtain ⟨c, h1, h2⟩ := datR_get (id := 15) hR (by simp) rfl; have hf := fn3 h1 (RN_len h2); exact ⟨hf.1, hf.2 ▸ RN_one h2⟩) rfl (by simp) | exact ev_storeR (vl := [.fn (cellV 0) (.d 15), .fn (cellV 1) (.d 15), .fn (cellV 2) (.d 15)]) [2, 15] rfl (gn rfl) rfl rfl rfl Tryd.sizeOf24 rfl (fun ρ S w' _ hR => by obtain ⟨c, h1, h2⟩ := datR_get (id := 15) hR (by simp) rfl; have hf := fn3 h1 (RN_len h2); exact ⟨agg_cells _, hf.2 ▸ RN_one h2⟩) rfl (by simp)
    simp only [nm, seval]
    apply VE.cons
    · exact ev_assign rfl (gn rfl)
    simp only [nm, seval]
    apply VE.cons
    · exact ev_assign rfl (gn rfl)
    simp only [nm, seval]
    exact VE.nil _
  · kernel_rfl
  change VOk _ _ _ _ _
  refine vseq ?_
  refine vseq ?_
  apply vrp
  · apply VE.cons
    · exact ev_move rfl (gn rfl)
    simp only [nm, seval]
    apply VE.cons
    · exact ev_not rfl (gn rfl) rfl
    simp only [nm, seval]
    apply VE.cons
    · exact ev_move rfl (gn rfl)
    simp only [nm, seval]
    apply VE.cons
    · first | exact Ev.skip (fun _ => rfl) | exact ev_move rfl (fun _ => rfl)
    simp only [nm, seval]
    apply VE.cons
    · first | exact Ev.skip (fun _ => rfl) | exact ev_bin (c := .bool false) rfl (fun _ => rfl) rfl rfl (fun w => str_ne (b := []) (decide_eq_false (fun h => h hr0)) hr8 (fun x hx => by cases hx) _ _ w)
    simp only [nm, seval]
    apply VE.cons
    · first | exact ev_pick_t rfl (gn rfl) rfl rfl | exact ev_pick_f rfl (gn rfl) rfl rfl
    simp only [nm, seval]
    exact VE.nil _
  · kernel_rfl
  change VOk _ _ _ _ _
  refine vcond_f rfl ?_
  refine vskip ?_
  change VOk _ _ _ _ _
  refine vseq ?_
  apply vrp
  · apply VE.cons
    · exact ev_loada rfl (gn rfl) rfl rfl Tryd.underlying24 rfl Tryd.sizeOf24 rfl
    simp only [nm, seval]
    apply VE.cons
    · exact ev_callp (v := .tuple #[.string (bstr (wrT t).1), .int .i64 (wrT t).2]) [15] rfl (gn rfl) rfl (en_of Tryd.func13 (by kernel_rfl) rfl) (fun ρ S w' hb hR => c_rwrite 15 hok hwt hR (by simp) rfl)
    simp only [nm, seval]
    apply VE.cons
    · exact ev_move rfl (gn rfl)
    simp only [nm, seval]
    apply VE.cons
    · first | exact ev_extract rfl (gn rfl) rfl rfl | exact ev_extractt rfl (gn rfl) rfl rfl
    simp only [nm, seval]
    apply VE.cons
    · first | exact ev_extract rfl (gn rfl) rfl rfl | exact ev_extractt rfl (gn rfl) rfl rfl
    simp only [nm, seval]
    apply VE.cons
    · exact ev_assign rfl (gn rfl)
    simp only [nm, seval]
    apply VE.cons
    · exact ev_assign rfl (gn rfl)
    simp only [nm, seval]
    exact VE.nil _
  · kernel_rfl
  change VOk _ _ _ _ _
  refine vseq ?_
  refine vseq ?_
  apply vrp
  · apply VE.cons
    · exact ev_move rfl (gn rfl)
    simp only [nm, seval]
    apply VE.cons
    · exact ev_neq (p := false) rfl (gn rfl) rfl rfl (decide_eq_false (fun h => h he))
    simp only [nm, seval]
    apply VE.cons
    · exact ev_move rfl (gn rfl)
    simp only [nm, seval]
    apply VE.cons
    · first | exact Ev.skip (fun _ => rfl) | exact ev_move rfl (fun _ => rfl)
    simp only [nm, seval]
    apply VE.cons
    · first | exact Ev.skip (fun _ => rfl) | exact ev_move rfl (fun _ => rfl)
    simp only [nm, seval]
    apply VE.cons
    · first | exact Ev.skip (fun _ => rfl) | exact ev_bin (c := .bool true) rfl (fun _ => rfl) rfl rfl (fun w => str_ne (decide_eq_true hc) (wrT_lt hok) h8 _ _ w)
    simp only [nm, seval]
    apply VE.cons
    · first | exact ev_pick_t rfl (gn rfl) rfl rfl | exact ev_pick_f rfl (gn rfl) rfl rfl
    simp only [nm, seval]
    exact VE.nil _
  · kernel_rfl
  change VOk _ _ _ _ _
  refine vcond_t rfl ?_
  refine vseq ?_
  apply vrp
  · apply VE.cons
    · exact ev_build (cells := #[.int .i64 0, .string (ByteArray.mk #[]), .slice none 0 0]) rfl (gn rfl) rfl built24_0
    simp only [nm, seval]
    apply VE.cons
    · first | exact ev_store rfl (gn rfl) rfl rfl rfl Tryd.sizeOf24 rfl (by simp) rfl | exact ev_storeR (vl := [.fn (cellV 0) (.d 15), .fn (cellV 1) (.d 15), .fn (cellV 2) (.d 15)]) [4, 15] rfl (gn rfl) rfl rfl rfl Tryd.sizeOf24 rfl (fun ρ S w' _ hR => by obtain ⟨c, h1, h2⟩ := datR_get (id := 15) hR (by simp) rfl; have hf := fn3 h1 (RN_len h2); exact ⟨hf.1, hf.2 ▸ RN_one h2⟩) rfl (by simp) | exact ev_storeR (vl := [.fn (cellV 0) (.d 15), .fn (cellV 1) (.d 15), .fn (cellV 2) (.d 15)]) [2, 15] rfl (gn rfl) rfl rfl rfl Tryd.sizeOf24 rfl (fun ρ S w' _ hR => by obtain ⟨c, h1, h2⟩ := datR_get (id := 15) hR (by simp) rfl; have hf := fn3 h1 (RN_len h2); exact ⟨agg_cells _, hf.2 ▸ RN_one h2⟩) rfl (by simp)
    simp only [nm, seval]
    apply VE.cons
    · exact ev_assign rfl (gn rfl)
    simp only [nm, seval]
    exact VE.nil _
  · kernel_rfl
  change VOk _ _ _ _ _
  refine vret ?_
  refine post_ret (res2 Tryd.results29 (rv_cella rfl rfl Tryd.underlying24 rfl Tryd.sizeOf24 rfl) (rv_tmp rfl)) ?_
  intro ρ w' hr
  refine ⟨_, rfl, ?_, hr.1⟩
  exact rnode_leaf 0 []
theorem rRead_s {b : List Nat} (w : World) (h8 : ∀ x ∈ b, x < 256) (hbl : b.length ≤ 1048576) {t : Tr} {r : List Nat} (hl : b.length ≤ 2048) (hz : oneF 8 b = (t, r, true)) (hr8 : ∀ x ∈ r, x < 256) (hr0 : r = []) (hok : t.ok) (hwt : wt t ≤ 1048576) (he : (wrT t).2 = 0) (hc : (wrT t).1 = b) : Calls Tryd.prog 29 #[.string (bstr b)] w fun e w' => ∃ v', e = .returned (.tuple #[v', .int .i64 0]) ∧ RetD w w' v' (datR (t)) ∧ Bw w w' := by
  go_enter Tryd.func29, Tryd.ntmps29
  refine ve_go ?_
  simp only [List.map_cons, List.map_nil]
  refine vseq ?_
  apply vrp
  · apply VE.cons
    · exact ev_alloc rfl rfl (gn rfl) Tryd.zeroValue24
    simp only [nm, seval]
    apply VE.cons
    · exact ev_assign rfl (gn rfl)
    simp only [nm, seval]
    exact VE.nil _
  · kernel_rfl
  change VOk _ _ _ _ _
  refine vseq ?_
  refine vseq ?_
  apply vrp
  · apply VE.cons
    · exact ev_move rfl (gn rfl)
    simp only [nm, seval]
    apply VE.cons
    · exact ev_lenb rfl (gn rfl) rfl Tryd.underlying9
    simp only [nm, seval]
    apply VE.cons
    · exact ev_gtr (p := false) rfl (gn rfl) rfl rfl (decide_eq_false (by omega))
    simp only [nm, seval]
    exact VE.nil _
  · kernel_rfl
  change VOk _ _ _ _ _
  refine vcond_f rfl ?_
  refine vskip ?_
  change VOk _ _ _ _ _
  refine vseq ?_
  apply vrp
  · apply VE.cons
    · exact ev_move rfl (gn rfl)
    simp only [nm, seval]
    apply VE.cons
    · exact ev_calldt (D := datR t) (ys := [.string (bstr r), .bool true]) [] rfl rfl (gn rfl) rfl (en_of Tryd.func40 (by kernel_rfl) rfl) (fun ρ S w' hb _ => by have := one_ok 8 _ 1 w' rfl h8 hbl; rw [hz] at this; exact this)
    simp only [nm, seval]
    apply VE.cons
    · exact ev_move rfl (gn rfl)
    simp only [nm, seval]
    apply VE.cons
    · first | exact ev_extract rfl (gn rfl) rfl rfl | exact ev_extractt rfl (gn rfl) rfl rfl
    simp only [nm, seval]
    apply VE.cons
    · first | exact ev_extract rfl (gn rfl) rfl rfl | exact ev_extractt rfl (gn rfl) rfl rfl
    simp only [nm, seval]
    apply VE.cons
    · first | exact ev_extract rfl (gn rfl) rfl rfl | exact ev_extractt rfl (gn rfl) rfl rfl
    simp only [nm, seval]
    apply VE.cons
    · exact ev_alloc rfl rfl (gn rfl) Tryd.zeroValue24
    simp only [nm, seval]
    apply VE.cons
    · first | exact ev_store rfl (gn rfl) rfl rfl rfl Tryd.sizeOf24 rfl (by simp) rfl | exact ev_storeR (vl := [.fn (cellV 0) (.d 15), .fn (cellV 1) (.d 15), .fn (cellV 2) (.d 15)]) [4, 15] rfl (gn rfl) rfl rfl rfl Tryd.sizeOf24 rfl (fun ρ S w' _ hR => by obtain ⟨c, h1, h2⟩ := datR_get (id := 15) hR (by simp) rfl; have hf := fn3 h1 (RN_len h2); exact ⟨hf.1, hf.2 ▸ RN_one h2⟩) rfl (by simp) | exact ev_storeR (vl := [.fn (cellV 0) (.d 15), .fn (cellV 1) (.d 15), .fn (cellV 2) (.d 15)]) [2, 15] rfl (gn rfl) rfl rfl rfl Tryd.sizeOf24 rfl (fun ρ S w' _ hR => by obtain ⟨c, h1, h2⟩ := datR_get (id := 15) hR (by simp) rfl; have hf := fn3 h1 (RN_len h2); exact ⟨agg_cells _, hf.2 ▸ RN_one h2⟩) rfl (by simp)
    simp only [nm, seval]
    apply VE.cons
    · exact ev_assign rfl (gn rfl)
    simp only [nm, seval]
    apply VE.cons
    · exact ev_assign rfl (gn rfl)
    simp only [nm, seval]
    exact VE.nil _
  · kernel_rfl
  change VOk _ _ _ _ _
  refine vseq ?_
  refine vseq ?_
  apply vrp
  · apply VE.cons
    · exact ev_move rfl (gn rfl)
    simp only [nm, seval]
    apply VE.cons
    · exact ev_not rfl (gn rfl) rfl
    simp only [nm, seval]
    apply VE.cons
    · exact ev_move rfl (gn rfl)
    simp only [nm, seval]
    apply VE.cons
    · first | exact Ev.skip (fun _ => rfl) | exact ev_move rfl (fun _ => rfl)
    simp only [nm, seval]
    apply VE.cons
    · first | exact Ev.skip (fun _ => rfl) | exact ev_bin (c := .bool false) rfl (fun _ => rfl) rfl rfl (fun w => str_ne (b := []) (decide_eq_false (fun h => h hr0)) hr8 (fun x hx => by cases hx) _ _ w)
    simp only [nm, seval]
    apply VE.cons
    · first | exact ev_pick_t rfl (gn rfl) rfl rfl | exact ev_pick_f rfl (gn rfl) rfl rfl
    simp only [nm, seval]
    exact VE.nil _
  · kernel_rfl
  change VOk _ _ _ _ _
  refine vcond_f rfl ?_
  refine vskip ?_
  change VOk _ _ _ _ _
  refine vseq ?_
  apply vrp
  · apply VE.cons
    · exact ev_loada rfl (gn rfl) rfl rfl Tryd.underlying24 rfl Tryd.sizeOf24 rfl
    simp only [nm, seval]
    apply VE.cons
    · exact ev_callp (v := .tuple #[.string (bstr (wrT t).1), .int .i64 (wrT t).2]) [15] rfl (gn rfl) rfl (en_of Tryd.func13 (by kernel_rfl) rfl) (fun ρ S w' hb hR => c_rwrite 15 hok hwt hR (by simp) rfl)
    simp only [nm, seval]
    apply VE.cons
    · exact ev_move rfl (gn rfl)
    simp only [nm, seval]
    apply VE.cons
    · first | exact ev_extract rfl (gn rfl) rfl rfl | exact ev_extractt rfl (gn rfl) rfl rfl
    simp only [nm, seval]
    apply VE.cons
    · first | exact ev_extract rfl (gn rfl) rfl rfl | exact ev_extractt rfl (gn rfl) rfl rfl
    simp only [nm, seval]
    apply VE.cons
    · exact ev_assign rfl (gn rfl)
    simp only [nm, seval]
    apply VE.cons
    · exact ev_assign rfl (gn rfl)
    simp only [nm, seval]
    exact VE.nil _
  · kernel_rfl
  change VOk _ _ _ _ _
  refine vseq ?_
  refine vseq ?_
  apply vrp
  · apply VE.cons
    · exact ev_move rfl (gn rfl)
    simp only [nm, seval]
    apply VE.cons
    · exact ev_neq (p := false) rfl (gn rfl) rfl rfl (decide_eq_false (fun h => h he))
    simp only [nm, seval]
    apply VE.cons
    · exact ev_move rfl (gn rfl)
    simp only [nm, seval]
    apply VE.cons
    · first | exact Ev.skip (fun _ => rfl) | exact ev_move rfl (fun _ => rfl)
    simp only [nm, seval]
    apply VE.cons
    · first | exact Ev.skip (fun _ => rfl) | exact ev_move rfl (fun _ => rfl)
    simp only [nm, seval]
    apply VE.cons
    · first | exact Ev.skip (fun _ => rfl) | exact ev_bin (c := .bool false) rfl (fun _ => rfl) rfl rfl (fun w => str_ne (decide_eq_false (fun h => h hc)) (wrT_lt hok) h8 _ _ w)
    simp only [nm, seval]
    apply VE.cons
    · first | exact ev_pick_t rfl (gn rfl) rfl rfl | exact ev_pick_f rfl (gn rfl) rfl rfl
    simp only [nm, seval]
    exact VE.nil _
  · kernel_rfl
  change VOk _ _ _ _ _
  refine vcond_f rfl ?_
  refine vskip ?_
  change VOk _ _ _ _ _
  refine vseq ?_
  apply vrp
  · apply VE.cons
    · exact ev_loada rfl (gn rfl) rfl rfl Tryd.underlying24 rfl Tryd.sizeOf24 rfl
    simp only [nm, seval]
    apply VE.cons
    · first | exact ev_store rfl (gn rfl) rfl rfl rfl Tryd.sizeOf24 rfl (by simp) rfl | exact ev_storeR (vl := [.fn (cellV 0) (.d 15), .fn (cellV 1) (.d 15), .fn (cellV 2) (.d 15)]) [4, 15] rfl (gn rfl) rfl rfl rfl Tryd.sizeOf24 rfl (fun ρ S w' _ hR => by obtain ⟨c, h1, h2⟩ := datR_get (id := 15) hR (by simp) rfl; have hf := fn3 h1 (RN_len h2); exact ⟨hf.1, hf.2 ▸ RN_one h2⟩) rfl (by simp) | exact ev_storeR (vl := [.fn (cellV 0) (.d 15), .fn (cellV 1) (.d 15), .fn (cellV 2) (.d 15)]) [2, 15] rfl (gn rfl) rfl rfl rfl Tryd.sizeOf24 rfl (fun ρ S w' _ hR => by obtain ⟨c, h1, h2⟩ := datR_get (id := 15) hR (by simp) rfl; have hf := fn3 h1 (RN_len h2); exact ⟨agg_cells _, hf.2 ▸ RN_one h2⟩) rfl (by simp)
    simp only [nm, seval]
    apply VE.cons
    · exact ev_assign rfl (gn rfl)
    simp only [nm, seval]
    exact VE.nil _
  · kernel_rfl
  change VOk _ _ _ _ _
  refine vret ?_
  refine post_ret (res2 Tryd.results29 (rv_cella rfl rfl Tryd.underlying24 rfl Tryd.sizeOf24 rfl) (rv_tmp rfl)) ?_
  intro ρ w' hr
  exact ⟨_, rfl, ret_datR 15 hr rfl, hr.1⟩
theorem rRead_ok {b : List Nat} (w : World) (h8 : ∀ x ∈ b, x < 256) (hbl : b.length ≤ 1048576) : Calls Tryd.prog 29 #[.string (bstr b)] w fun e w' => ∃ v', e = .returned (.tuple #[v', .int .i64 (rdT b).2]) ∧ RetD w w' v' (datR ((rdT b).1)) ∧ Bw w w' := by
  rw [← read_same h8]
  unfold rrT
  by_cases hl : b.length > 2048
  · rw [decide_eq_true hl]; exact rRead_big w h8 hbl hl
  · rw [decide_eq_false hl]
    obtain ⟨f1, _, f3, f4⟩ := one_fits 8 b h8 hbl
    obtain ⟨⟨t, r, ok⟩, hz⟩ : ∃ z, oneF 8 b = z := ⟨_, rfl⟩
    rw [hz] at f1 f3 f4 ⊢
    have hr8 : ∀ x ∈ r, x < 256 := fun x hx => h8 x (f4 x hx)
    cases ok with
    | false => exact rRead_n w h8 hbl (by omega) hz hr8
    | true =>
      by_cases hr : r.length > 0
      · have e : isNil r = false := decide_eq_false (by omega)
        simp only [e]
        exact rRead_r w h8 hbl (by omega) hz hr8 hr
      · have hr0 : r = [] := List.eq_nil_of_length_eq_zero (by omega)
        have e : isNil r = true := decide_eq_true (by omega)
        have hwt : wt t ≤ 1048576 := by have := (f3 rfl).1; simp only at this; omega
        simp only [e, Bool.and_self, cond_true]
        by_cases he : (wrT t).2 = 0
        · rw [decide_eq_true he]
          by_cases hc : (wrT t).1 = b
          · rw [decide_eq_true hc]; exact rRead_s w h8 hbl (by omega) hz hr8 hr0 f1 hwt he hc
          · rw [decide_eq_false hc]; exact rRead_c w h8 hbl (by omega) hz hr8 hr0 f1 hwt he hc
        · rw [decide_eq_false he]; exact rRead_e w h8 hbl (by omega) hz hr8 hr0 f1 hwt he
theorem u8x (b c : Nat) (hb : b < 256) (hc : c < 256) : bits .xor .u8 (b : Int) (c : Int) = ((b ^^^ c : Nat) : Int) := by
  have h := Nat.xor_lt_two_pow (n := 8) (x := b) (y := c) (by omega) (by omega)
  show IntKind.u8.wrap ((BitVec.ofInt 8 (b : Int) ^^^ BitVec.ofInt 8 (c : Int)).toNat : Int) = _
  rw [BitVec.toNat_xor, BitVec.toNat_ofInt, BitVec.toNat_ofInt]
  have h1 : ((b : Int) % ((2 ^ 8 : Nat) : Int)).toNat = b := by omega
  have h2 : ((c : Int) % ((2 ^ 8 : Nat) : Int)).toNat = c := by omega
  rw [h1, h2, IntKind.wrap_u8']
  omega
theorem xor85 {b : Nat} (hb : b < 256) (p q : Operand) (w : World) : (do eqGuard .xor 5 p q (.int .u8 (b : Nat)) (.int .u8 85); binOp .xor 5 (.int .u8 (b : Nat)) (.int .u8 85) : Sem Value).run Tryd.prog w = .ok (.int .u8 ((b ^^^ 85 : Nat) : Int)) w := by
  go_simp
  exact u8x b 85 hb (by decide)
theorem reads_law {v : Value} {bs : List Nat} {S : Nat → Prop} (w : World) (hv : SlAt w v bs.length 1 (bs.map b8) S) (h8 : ∀ x ∈ bs, x < 256) : Calls Tryd.prog 7 #[v] w fun e w' => e = .returned (.bool true) ∧ Bw w w' := by
  obtain ⟨L, hL⟩ : ∃ L, bs.take 2100 = L := ⟨_, rfl⟩
  have hL8 : ∀ x ∈ L, x < 256 := fun x hx => h8 x (List.mem_of_mem_take (hL ▸ hx))
  have hll : L.length = min bs.length 2100 := by rw [← hL, List.length_take]; omega
  have hcut : SlAt w (cutV 0 (min bs.length 2100) 1 v) L.length 1 (L.map b8) S := by
    have := sl_cut (lo := 0) (hi := min bs.length 2100) hv (Nat.zero_le _) (Nat.min_le_left _ _)
    rw [Nat.mul_one, Nat.mul_one, List.drop_zero, Nat.sub_zero, ← List.map_take] at this
    have e : bs.take (min bs.length 2100) = L := by rw [← hL, List.take_eq_take_iff]; omega
    rw [e] at this
    rw [hll]
    exact this
  have hL21 : L.length ≤ 2100 := by omega
  have hok := rdT_ok hL8 (by omega)
  go_enter Tryd.func7, Tryd.ntmps7
  refine ve_go ?_
  simp only [List.map_cons, List.map_nil]
  refine vseq ?_
  apply vrp
  · apply VE.cons
    · exact ev_assign rfl (gn rfl)
    simp only [nm, seval]
    exact VE.nil _
  · kernel_rfl
  change VOk _ _ _ _ _
  refine vseq ?_
  apply vrp
  · apply VE.cons
    · exact ev_buildslice rfl rfl (gn rfl) rfl (e := 5) (l := []) rfl (by decide) (fun _ => by kernel_rfl)
    simp only [nm, seval]
    apply VE.cons
    · exact ev_move rfl (gn rfl)
    simp only [nm, seval]
    apply VE.cons
    · exact ev_move rfl (gn rfl)
    simp only [nm, seval]
    apply VE.cons
    · exact ev_len rfl (gn rfl) rfl Tryd.underlying26 (rdg_arg hv)
    simp only [nm, seval]
    apply VE.cons
    · exact ev_min (c := min bs.length 2100) (b := 2100) rfl (gn rfl) rfl rfl rfl
    simp only [nm, seval]
    apply VE.cons
    · exact ev_cutx (a := 0) (b := min bs.length 2100) (v' := cutV 0 (min bs.length 2100) 1 v) rfl (gn rfl) rfl Tryd.underlying26 Tryd.sizeOf5 (rdg_arg hv) rfl rfl (Nat.zero_le _) (Nat.min_le_left _ _) rfl
    simp only [nm, seval]
    apply VE.cons
    · exact ev_append rfl rfl (gn rfl) rfl rfl rfl (rdg_arg hcut) Tryd.underlying26 el5 (by decide) (by simp) (b8_all _) (by simp only [maxLen]; omega) (by omega) (by simp)
    simp only [nm, seval]
    apply VE.cons
    · exact ev_assign rfl (gn rfl)
    simp only [nm, seval]
    exact VE.nil _
  · kernel_rfl
  change VOk _ _ _ _ _
  refine vseq ?_
  apply vrp
  · apply VE.cons
    · exact ev_move rfl (gn rfl)
    simp only [nm, seval]
    apply VE.cons
    · exact ev_calldt (D := datN ((rdT L).1)) (ys := [.int .i64 (rdT L).2]) [14] rfl rfl (gn rfl) rfl (en_of Tryd.func28 (by kernel_rfl) rfl) (fun ρ S w' hb hR => by obtain ⟨_, s0⟩ := sl_row (id := 14) hR (by simp) rfl; exact Read_ok (b := L) w' s0 hL8 (by omega))
    simp only [nm, seval]
    apply VE.cons
    · exact ev_move rfl (gn rfl)
    simp only [nm, seval]
    apply VE.cons
    · first | exact ev_extract rfl (gn rfl) rfl rfl | exact ev_extractt rfl (gn rfl) rfl rfl
    simp only [nm, seval]
    apply VE.cons
    · first | exact ev_extract rfl (gn rfl) rfl rfl | exact ev_extractt rfl (gn rfl) rfl rfl
    simp only [nm, seval]
    apply VE.cons
    · exact ev_alloc rfl rfl (gn rfl) Tryd.zeroValue29
    simp only [nm, seval]
    apply VE.cons
    · exact ev_storeR (vl := [.fn (cellV 0) (.d 17), .fn (cellV 1) (.d 17), .fn (cellV 2) (.d 17)]) [3, 17] rfl (gn rfl) rfl rfl rfl Tryd.sizeOf29 rfl (fun ρ S w' _ hR => by obtain ⟨c, h1, h2⟩ := datN_get (id := 17) hR (by simp) rfl; have hf := fn3 h1 (DN_len h2); exact ⟨hf.1, hf.2 ▸ DN_one h2⟩) rfl (by simp)
    simp only [nm, seval]
    apply VE.cons
    · exact ev_assign rfl (gn rfl)
    simp only [nm, seval]
    exact VE.nil _
  · kernel_rfl
  change VOk _ _ _ _ _
  refine vseq ?_
  apply vrp
  · apply VE.cons
    · exact ev_move rfl (gn rfl)
    simp only [nm, seval]
    apply VE.cons
    · exact ev_convb (bs := L) rfl (gn rfl) rfl Tryd.underlying26 Tryd.underlying5 Tryd.underlying9 (rdg_row rfl)
    simp only [nm, seval]
    apply VE.cons
    · exact ev_calldt (D := datR (rdT L).1) (ys := [.int .i64 (rdT L).2]) [] rfl rfl (gn rfl) rfl (en_of Tryd.func29 (by kernel_rfl) rfl) (fun ρ S w' hb _ => rRead_ok w' hL8 (by omega))
    simp only [nm, seval]
    apply VE.cons
    · exact ev_move rfl (gn rfl)
    simp only [nm, seval]
    apply VE.cons
    · first | exact ev_extract rfl (gn rfl) rfl rfl | exact ev_extractt rfl (gn rfl) rfl rfl
    simp only [nm, seval]
    apply VE.cons
    · first | exact ev_extract rfl (gn rfl) rfl rfl | exact ev_extractt rfl (gn rfl) rfl rfl
    simp only [nm, seval]
    apply VE.cons
    · exact ev_alloc rfl rfl (gn rfl) Tryd.zeroValue24
    simp only [nm, seval]
    apply VE.cons
    · exact ev_storeR (vl := [.fn (cellV 0) (.d 23), .fn (cellV 1) (.d 23), .fn (cellV 2) (.d 23)]) [5, 23] rfl (gn rfl) rfl rfl rfl Tryd.sizeOf24 rfl (fun ρ S w' _ hR => by obtain ⟨c, h1, h2⟩ := datR_get (id := 23) hR (by simp) rfl; have hf := fn3 h1 (RN_len h2); exact ⟨hf.1, hf.2 ▸ RN_one h2⟩) rfl (by simp)
    simp only [nm, seval]
    apply VE.cons
    · exact ev_assign rfl (gn rfl)
    simp only [nm, seval]
    exact VE.nil _
  · kernel_rfl
  change VOk _ _ _ _ _
  refine vseq ?_
  refine vseq ?_
  apply vrd (by kernel_rfl)
  · apply VE.cons
    · exact ev_callb rfl (gn rfl) rfl (en_of Tryd.func14 (by kernel_rfl) rfl) (fun w' hb => ders_ok w')
    simp only [nm, seval]
    apply VE.cons
    · exact ev_not rfl (gn rfl) rfl
    simp only [nm, seval]
    apply VE.cons
    · exact ev_move rfl (gn rfl)
    simp only [nm, seval]
    apply VE.cons
    · first | exact Ev.skip (fun _ => rfl) | exact ev_move rfl (fun _ => rfl)
    simp only [nm, seval]
    apply VE.cons
    · first | exact Ev.skip (fun _ => rfl) | exact ev_move rfl (fun _ => rfl)
    simp only [nm, seval]
    apply VE.cons
    · first | exact Ev.skip (fun _ => rfl) | exact ev_neq (p := false) rfl (fun _ => rfl) rfl rfl (decide_eq_false (fun h => h rfl))
    simp only [nm, seval]
    apply VE.cons
    · first | exact ev_pick_t rfl (gn rfl) rfl rfl | exact ev_pick_f rfl (gn rfl) rfl rfl
    simp only [nm, seval]
    apply VE.cons
    · exact ev_move rfl (gn rfl)
    simp only [nm, seval]
    apply VE.cons
    · first | exact Ev.skip (fun _ => rfl) | exact ev_loada rfl (fun _ => rfl) rfl rfl Tryd.underlying29 rfl Tryd.sizeOf29 rfl
    simp only [nm, seval]
    apply VE.cons
    · first | exact Ev.skip (fun _ => rfl) | exact ev_calld (D := datR (rdT L).1) [17] rfl rfl (fun _ => rfl) rfl (en_of Tryd.func16 (by kernel_rfl) rfl) (fun ρ S w' hb hR => c_from 17 hok hR (by simp) rfl)
    simp only [nm, seval]
    apply VE.cons
    · first | exact Ev.skip (fun _ => rfl) | exact ev_loada rfl (fun _ => rfl) rfl rfl Tryd.underlying24 rfl Tryd.sizeOf24 rfl
    simp only [nm, seval]
    apply VE.cons
    · first | exact Ev.skip (fun _ => rfl) | exact ev_callp (v := .bool true) [35, 23] rfl (fun _ => rfl) rfl (en_of Tryd.func15 (by kernel_rfl) rfl) (fun ρ S w' hb hR => by have := c_sameD 35 23 hok hok hR (by simp) rfl (by simp) rfl; rw [sameT_refl] at this; exact this)
    simp only [nm, seval]
    apply VE.cons
    · first | exact Ev.skip (fun _ => rfl) | exact ev_not rfl (fun _ => rfl) rfl
    simp only [nm, seval]
    apply VE.cons
    · first | exact ev_pick_t rfl (gn rfl) rfl rfl | exact ev_pick_f rfl (gn rfl) rfl rfl
    simp only [nm, seval]
    exact VE.nil _
  · kernel_rfl
  change VOk _ _ _ _ _
  refine vcond_f rfl ?_
  refine vskip ?_
  change VOk _ _ _ _ _
  refine vseq ?_
  refine vseq ?_
  apply vrp
  · apply VE.cons
    · exact ev_assign rfl (gn rfl)
    simp only [nm, seval]
    exact VE.nil _
  · kernel_rfl
  change VOk _ _ _ _ _
  refine vblock ?_
  refine vloop_w (α := {x : Nat × List Nat // x.1 ≤ L.length ∧ x.2.length = L.length ∧ ∀ y ∈ x.2, y < 256}) (fun (x : {x : Nat × List Nat // x.1 ≤ L.length ∧ x.2.length = L.length ∧ ∀ y ∈ x.2, y < 256}) f => ⟨[.d 14, .v (f 1), .v (f 2), .p 3 0, .v (f 4), .p 5 0, .v (f 6), .v (.int .i64 (x.1.1 : Nat)), .v (f 8), .v (f 9), .v (f 10), .v (f 11), .v (f 12), .v (f 13), .v (f 14), .v (f 15), .v (f 16), .v (f 17), .v (f 18), .v (f 19), .v (f 20), .v (f 21), .v (f 22), .v (f 23), .v (f 24), .v (f 25), .v (f 26), .v (f 27), .v (f 28), .v (f 29), .v (f 30), .v (f 31), .v (f 32), .v (f 33), .v (f 34), .v (f 35), .v (f 36), .v (f 37), .v (f 38), .v (f 39), .v (f 40), .v (f 41), .v (f 42), .v (f 43), .v (f 44), .v (f 45), .v (f 46), .v (f 47), .v (f 48), .v (f 49), .v (f 50), .v (f 51), .v (f 52), .v (f 53), .v (f 54), .v (f 55)], memOf [(5, .cells [.fn (cellV 0) (.d 23), .fn (cellV 1) (.d 23), .fn (cellV 2) (.d 23)] 24), (23, .dat (datR (rdT L).1)), (3, .cells [.fn (cellV 0) (.d 17), .fn (cellV 1) (.d 17), .fn (cellV 2) (.d 17)] 29), (17, .dat (datN (rdT L).1)), (14, .row (L.length) 1 5 (.exact (x.1.2.map b8)))]⟩) (fun x => L.length - x.1.1) ?_ (⟨(0, L), Nat.zero_le _, rfl, hL8⟩) ?_
  · rintro ⟨⟨i, l⟩, hi, hll, hl8⟩ f
    simp only at hi hll hl8
    obtain ⟨q, h_q⟩ : ∃ q, decide (i < L.length) = q := ⟨_, rfl⟩
    have h_q' := (nat_lt i (L.length)).trans h_q
    change VOk _ _ _ _ _
    refine vseq ?_
    refine vseq ?_
    apply vrp
    · apply VE.cons
      · exact ev_move rfl (gn rfl)
      simp only [nm, seval]
      apply VE.cons
      · exact ev_move rfl (gn rfl)
      simp only [nm, seval]
      apply VE.cons
      · exact ev_len rfl (gn rfl) rfl Tryd.underlying26 (rdg_row rfl)
      simp only [nm, seval]
      apply VE.cons
      · exact ev_lss rfl (gn rfl) rfl rfl h_q'
      simp only [nm, seval]
      exact VE.nil _
    · kernel_rfl
    change VOk _ _ _ _ _
    cases q
    · refine vcond_f rfl ?_
      refine vexit ?_
      change VOk _ _ _ _ _
      refine vseq ?_
      apply vrd (by kernel_rfl)
      · apply VE.cons
        · exact ev_loada rfl (gn rfl) rfl rfl Tryd.underlying29 rfl Tryd.sizeOf29 rfl
        simp only [nm, seval]
        apply VE.cons
        · exact ev_calld (D := datR (rdT L).1) [17] rfl rfl (gn rfl) rfl (en_of Tryd.func16 (by kernel_rfl) rfl) (fun ρ S w' hb hR => c_from 17 hok hR (by simp) rfl)
        simp only [nm, seval]
        apply VE.cons
        · exact ev_loada rfl (gn rfl) rfl rfl Tryd.underlying24 rfl Tryd.sizeOf24 rfl
        simp only [nm, seval]
        apply VE.cons
        · exact ev_callp (v := .bool true) [53, 23] rfl (gn rfl) rfl (en_of Tryd.func15 (by kernel_rfl) rfl) (fun ρ S w' hb hR => by have := c_sameD 53 23 hok hok hR (by simp) rfl (by simp) rfl; rw [sameT_refl] at this; exact this)
        simp only [nm, seval]
        apply VE.cons
        · exact ev_assign rfl (gn rfl)
        simp only [nm, seval]
        exact VE.nil _
      · kernel_rfl
      change VOk _ _ _ _ _
      refine vret ?_
      refine post_ret (res1 Tryd.results7 (rv_tmp rfl)) ?_
      intro ρ w' hr
      exact ⟨rfl, hr.1⟩
    · refine vcond_t rfl ?_
      have hlt := of_decide_eq_true h_q
      obtain ⟨y, hy⟩ := get_some (l := l) (i := i) (by omega)
      have hy8 := hl8 y (List.mem_of_getElem? hy)
      refine vskip ?_
      change VOk _ _ _ _ _
      refine vseq ?_
      refine vblock ?_
      apply vrp
      · apply VE.cons
        · exact ev_move rfl (gn rfl)
        simp only [nm, seval]
        apply VE.cons
        · exact ev_move rfl (gn rfl)
        simp only [nm, seval]
        apply VE.cons
        · exact ev_idx (k := i) rfl (gn rfl) rfl rfl Tryd.underlying26 Tryd.sizeOf5 (rdg_row rfl) (of_decide_eq_true h_q) (by decide)
        simp only [nm, seval]
        apply VE.cons
        · exact ev_loadi rfl (gn rfl) rfl Tryd.underlying5 rfl (rdg_row rfl) (map_get hy)
        simp only [nm, seval]
        apply VE.cons
        · exact ev_bin rfl (gn rfl) rfl rfl (fun w => xor85 hy8 _ _ w)
        simp only [nm, seval]
        apply VE.cons
        · exact ev_idx (k := i) rfl (gn rfl) rfl rfl Tryd.underlying26 Tryd.sizeOf5 (rdg_row rfl) (of_decide_eq_true h_q) (by decide)
        simp only [nm, seval]
        apply VE.cons
        · exact ev_storei (l' := (l.set i (y ^^^ 85)).map b8) rfl (gn rfl) rfl rfl rfl Tryd.sizeOf5 rfl rfl (of_decide_eq_true h_q) (by rw [List.map_set]; rfl)
        simp only [nm, seval]
        exact VE.nil _
      · kernel_rfl
      change VOk _ _ _ _ _
      apply vrp
      · apply VE.cons
        · exact ev_move rfl (gn rfl)
        simp only [nm, seval]
        apply VE.cons
        · exact ev_add (c := ((i + 1 : Nat) : Int)) rfl (gn rfl) rfl rfl (by rw [i64w (by omega) (by omega)]; omega)
        simp only [nm, seval]
        apply VE.cons
        · exact ev_assign rfl (gn rfl)
        simp only [nm, seval]
        exact VE.nil _
      · kernel_rfl
      refine ⟨⟨(i + 1, l.set i (y ^^^ 85)), by show i + 1 ≤ L.length; omega, by simp [hll], fun z hz => ?_⟩, by show L.length - (i + 1) < L.length - i; omega, ?_⟩
      · rcases List.mem_or_eq_of_mem_set hz with hz | hz
        · exact hl8 z hz
        · rw [hz]; exact Nat.xor_lt_two_pow (n := 8) (by omega) (by decide)
      exact weaker_forget (fun i => i == 0 || i == 3 || i == 5 || i == 7) []
  · exact weaker_forget (fun i => i == 0 || i == 3 || i == 5 || i == 7) [35]
end Go.Proofs.YtmgmiiongleaeaaDoor
