import Derived.Test.YtdhklekkpkbfeaaDoorSg
namespace Go.Proofs.YtdhklekkpkbfeaaDoor
open Go.RowKit Go.Vx
open Go.Toll (Gw)
open TollSha
set_option maxHeartbeats 4000000
set_option maxRecDepth 100000
theorem partsAt_bw {w w' : World} {v : Value} {ls : List (List Nat)} {F : Nat → Prop} (h : PartsAt w v ls F) (hb : Bw w w') : PartsAt w' v ls F := by
  obtain ⟨vs, h1, h2⟩ := h
  refine ⟨vs, sl_bw h1 hb, fun i l hl => ?_⟩
  obtain ⟨u, h3, h4, h5⟩ := h2 i l hl
  exact ⟨u, h3, sl_bw h4 hb, h5⟩
theorem c_sum {w w0 : World} {ρ : Nat → Nm} {S : Nat → Nat → Prop} {m : Mem} {rd : List Nat} {id r n wl : Nat} {a : List Nat} (hR : RelOn w0.heap.size ρ S w (restr rd m)) (hid : id ∈ rd) (hr : r ∈ rd) (hm1 : m id = some (.cells (stL (stH a) r n) 42)) (hm2 : m r = some (.row wl 1 5 (.exact ((stW a).map b8)))) (hn : n = a.length) (hw : wl = (stW a).length) (hL : LaidK w) (h8 : ∀ x ∈ a, x < 256) (hm : a.length < 1048576) :
    Calls Tryd.prog 9 (SV.cs ρ [.p id 0]).toArray w fun e w' => e = .returned (.agg ((sha a).map b8).toArray) ∧ Bw w w' := by
  subst hn hw
  have g1 := relon_get hR hm1 hid
  obtain ⟨xs, x1, x2, x3⟩ := relon_get hR hm2 hr
  have x2' : xs = (stW a).map b8 := x2
  subst x2'
  have hs : StAt w (ρ id).g (ρ r).val a := fun j v hj => cell_arr (l := stCells a (ρ r).val) (ty := 42) (by rw [g1.2]; rfl) hj
  simp only [SV.cs, SV.c]
  exact Sum_ok w hL hs (row_sl x3 x1) h8 hm
theorem below_own {base : Nat} {ρ : Nat → Nm} {S : Nat → Nat → Prop} {w : World} {m : Mem} {rd : List Nat} {id r : Nat} {l : List SV} {ty : TypeId} {n : Nat} {D : Dat} {F : Nat → Prop} (hR : RelOn base ρ S w (restr rd m)) (hid : id ∈ rd) (hr : r ∈ rd) (hm1 : m id = some (.cells l ty)) (hm2 : m r = some (.row n 1 5 D)) (hF : ∀ k, F k → k < base) : ∀ k, F k → k ≠ (ρ id).g ∧ ((ρ r).val ≠ nilV → k ≠ (ρ r).g) := fun k hk => by
  have h0 := hF k hk
  have g1 := (relon_get hR hm1 hid).1
  obtain ⟨xs, _, _, x3⟩ := relon_get hR hm2 hr
  refine ⟨fun h => by omega, fun hv h => ?_⟩
  rcases x3 with ⟨x3, _⟩ | ⟨_, _, _, _, _, a2, _⟩
  · exact hv x3
  · have : base ≤ (ρ r).g := a2
    omega
theorem flat_lt {w : World} {v : Value} {ls : List (List Nat)} {F : Nat → Prop} (h : PartsAt w v ls F) : ∀ x ∈ ls.flatten, x < 256 := fun x hx => by
  obtain ⟨vs, _, h2⟩ := h
  obtain ⟨l, hl, hx⟩ := List.mem_flatten.1 hx
  obtain ⟨j, hj⟩ := List.getElem?_of_mem hl
  obtain ⟨_, _, _, h8⟩ := h2 j l hj
  exact h8 x hx
theorem Of_ok {v : Value} {ls : List (List Nat)} {F : Nat → Prop} (w : World) (hL : LaidK w) (hH : LaidH w) (hb1 : 1 < w.heap.size) (hp : PartsAt w v ls F) (hF : ∀ k, F k → k < w.heap.size) (hlt : ls.flatten.length < 1048576) (hln : ls.length ≤ 1048576) : Calls Tryd.prog 20 #[v] w fun e w' => e = .returned (.agg ((sha ls.flatten).map b8).toArray) ∧ Bw w w' := by
  go_enter Tryd.func20, Tryd.ntmps20
  refine ve_go ?_
  simp only [List.map_cons, List.map_nil]
  refine vseq ?_
  apply vrp
  · apply VE.cons
    · exact ev_allocr (l := OL []) rfl rfl (gn rfl) Tryd.zeroValue28 rfl
    simp only [nm, seval]
    exact VE.nil _
  · kernel_rfl
  change VOk _ _ _ _ _
  refine vseq ?_
  apply vrp
  · apply VE.cons
    · exact ev_callnewst 700 (by decide) hH (fun w h => New_ok w h) rfl rfl (gn rfl) (en_of Tryd.func5 (by kernel_rfl) rfl)
    simp only [nm, seval]
    apply VE.cons
    · exact ev_assign rfl (gn rfl)
    simp only [nm, seval]
    exact VE.nil _
  · kernel_rfl
  change VOk _ _ _ _ _
  refine vseq ?_
  apply vrp
  · apply VE.cons
    · exact ev_move rfl (gn rfl)
    simp only [nm, seval]
    apply VE.cons
    · exact ev_move rfl (gn rfl)
    simp only [nm, seval]
    apply VE.cons
    · exact ev_callput (id := 4) (r := 700) (n := 0) (wl := 0) (a := []) (ls := ls) 701 [4, 700] (by decide) hL hb1 rfl (gn rfl) (en_of Tryd.func6 (by kernel_rfl) rfl) rfl rfl rfl rfl rfl rfl (by simp) (by simp) (fun ρ S w' hb hR => ⟨F, partsAt_bw hp hb, below_own (id := 4) (r := 700) hR (by simp) (by simp) rfl rfl hF⟩) (fun x hx => by cases hx) hlt hln
    simp only [nm, seval]
    exact VE.nil _
  · kernel_rfl
  change VOk _ _ _ _ _
  refine vseq ?_
  apply vrp
  · apply VE.cons
    · exact ev_move rfl (gn rfl)
    simp only [nm, seval]
    apply VE.cons
    · exact ev_callp (v := .agg ((sha ls.flatten).map b8).toArray) [4, 701] rfl (gn rfl) rfl (en_of Tryd.func9 (by kernel_rfl) rfl) (fun ρ S w' hb hR => c_sum (id := 4) (r := 701) (a := ls.flatten) hR (by simp) (by simp) rfl rfl rfl rfl (hL.bw hb) (flat_lt hp) hlt)
    simp only [nm, seval]
    apply VE.cons
    · exact ev_storer (l' := (sha ls.flatten).map b8) rfl (gn rfl) rfl rfl rfl Tryd.sizeOf28 (by simp [Value.cells, sha_len]) (by rw [OL_len (by simp)]; decide) (by show ((sha ls.flatten).map b8).toArray.toList.all _ = true; exact b8_all _) (by rw [List.take_zero, List.nil_append, List.drop_of_length_le (by rw [OL_len (by simp)]; decide), List.append_nil]; simp [Value.cells])
    simp only [nm, seval]
    exact VE.nil _
  · kernel_rfl
  change VOk _ _ _ _ _
  refine vret ?_
  refine post_ret (res1 Tryd.results20 (rv_cellr (vs := (sha ls.flatten).map b8) rfl rfl Tryd.underlying28 rfl Tryd.sizeOf28 (List.take_of_length_le (by simp [sha_len])) (by simp [sha_len]))) ?_
  intro ρ w' hr
  exact ⟨rfl, hr.1⟩
end Go.Proofs.YtdhklekkpkbfeaaDoor
