import Derived.Test.YtdhklekkpkbfeaaDoorSi
namespace Go.Proofs.YtdhklekkpkbfeaaDoor
open Go.RowKit Go.Vx
open Go.Toll (Gw)
open TollSha
set_option maxHeartbeats 4000000
set_option maxRecDepth 100000
/-- a block on which something of the call's may rest: one of the caller's, or one that hangs on a name. -/
def Hangs (base : Nat) (ρ : Nat → Nm) (S : Nat → Nat → Prop) (m : Mem) (rd : List Nat) (k : Nat) : Prop := k < base ∨ ∃ j ∈ rd, ∃ b, m j = some b ∧ ((b.owns (ρ j) ∧ k = (ρ j).g) ∨ S j k)
theorem sl_mono {w : World} {v : Value} {n size : Nat} {l : List Value} {S S' : Nat → Prop} (h : SlAt w v n size l S) (hs : ∀ k, S k → S' k) : SlAt w v n size l S' := by
  obtain ⟨ao, cap, h1, h2, h3, h4⟩ := h
  exact ⟨ao, cap, h1, h2, h3, h4.imp _root_.id fun ⟨a, b, c, d⟩ => ⟨a, b, hs _ c, d⟩⟩
theorem Hangs.mono {base : Nat} {ρ : Nat → Nm} {S : Nat → Nat → Prop} {m : Mem} {rd rd' : List Nat} {k : Nat} (h : Hangs base ρ S m rd k) (hs : ∀ j ∈ rd, j ∈ rd') : Hangs base ρ S m rd' k :=
  h.imp _root_.id fun ⟨j, a, b⟩ => ⟨j, hs j a, b⟩
def RdgF (w0 : World) (m : Mem) (rd : List Nat) (x : SV) (n : Nat) (l : List Value) : Prop :=
  ∀ ρ S w, Bw w0 w → RelOn w0.heap.size ρ S w (restr rd m) → SlAt w (x.c ρ) n 1 l (Hangs w0.heap.size ρ S m rd)
def PartsF (w0 : World) (m : Mem) (rd : List Nat) (x : SV) (ls : List (List Nat)) : Prop :=
  ∀ ρ S w, Bw w0 w → RelOn w0.heap.size ρ S w (restr rd m) → PartsAt w (x.c ρ) ls (Hangs w0.heap.size ρ S m rd)
section
variable {w0 : World} {m : Mem} {rd : List Nat}
theorem rdgf_rdg {x : SV} {n : Nat} {l : List Value} (h : RdgF w0 m rd x n l) : Rdg w0 m rd x n 1 l := fun ρ S w hb hR => ⟨_, h ρ S w hb hR⟩
theorem rdgf_arg {v : Value} {n : Nat} {l : List Value} {F : Nat → Prop} (h : SlAt w0 v n 1 l F) (hF : ∀ k, F k → k < w0.heap.size) : RdgF w0 m rd (.v v) n l := fun _ _ _ hb _ => sl_bw (sl_mono h fun k hk => .inl (hF k hk)) hb
theorem rdgf_argb {v : Value} {n : Nat} {l : List Value} {F : Nat → Prop} (h : SlAt w0 v n 1 l F) : ∃ F', SlAt w0 v n 1 l F' ∧ ∀ k, F' k → k < w0.heap.size := by
  obtain ⟨ao, cap, h1, h2, h3, h4⟩ := h
  rcases h4 with h4 | ⟨a, b, c, d⟩
  · exact ⟨fun _ => False, ⟨ao, cap, h1, h2, h3, .inl h4⟩, fun _ h => h.elim⟩
  · cases l with
    | nil => exact ⟨fun _ => False, ⟨ao, cap, h1, h2, h3, .inl rfl⟩, fun _ h => h.elim⟩
    | cons x l =>
      refine ⟨fun k => k = a.block, ⟨ao, cap, h1, h2, h3, .inr ⟨a, b, rfl, d⟩⟩, fun k hk => ?_⟩
      have := World.block_lt_of_cell? _ _ (d 0 x rfl)
      rw [add_block] at this
      omega
theorem rdgf_row {id n : Nat} {e : TypeId} {l : List Value} (hid : id ∈ rd) (hm : m id = some (.row n 1 e (.exact l))) : RdgF w0 m rd (.d id) n l := fun ρ S w hb hR => by
  obtain ⟨xs, x1, x2, x3⟩ := relon_get hR hm hid
  have x2' : xs = l := x2
  subst x2'
  by_cases hv : (ρ id).val = nilV
  · rcases x3 with ⟨_, h0⟩ | ⟨off, cap, cur, fz, a1, _⟩
    · subst h0
      exact ⟨none, 0, hv, Nat.le_refl _, x1, .inl (List.eq_nil_of_length_eq_zero (by simpa using x1))⟩
    · rw [hv] at a1; simp [nilV] at a1
  · exact sl_mono (row_sl x3 x1) fun k hk => .inr ⟨id, hid, _, hm, .inl ⟨hv, hk⟩⟩
theorem rdgf_arr {id len cap : Nat} {b : List Value} {ty : TypeId} (hid : id ∈ rd) (hm : m id = some (.arr b ty)) (hn : b.length = len) (hc : len ≤ cap) : RdgF w0 m rd (.s id 0 len cap) len b := fun ρ S w hb hR => by
  have h := relon_get hR hm hid
  refine ⟨_, cap, rfl, hc, by omega, .inr ⟨_, rfl, .inr ⟨id, hid, _, hm, .inl ⟨True.intro, rfl⟩⟩, fun i x hx => ?_⟩⟩
  rw [add_at, Nat.zero_add]
  exact cell_arr (by rw [h.2]) hx
theorem partsf_arg {v : Value} {ls : List (List Nat)} {F : Nat → Prop} (h : PartsAt w0 v ls F) (hF : ∀ k, F k → k < w0.heap.size) : PartsF w0 m rd (.v v) ls := fun ρ S w hb _ => by
  obtain ⟨vs, h1, h2⟩ := partsAt_bw h hb
  refine ⟨vs, sl_mono h1 fun k hk => .inl (hF k hk), fun i l hl => ?_⟩
  obtain ⟨u, h3, h4, h5⟩ := h2 i l hl
  exact ⟨u, h3, sl_mono h4 fun k hk => .inl (hF k hk), h5⟩
def AllF (w0 : World) (m : Mem) (rd : List Nat) : List SV → List (List Nat) → Prop
  | [], [] => True
  | y :: ys, l :: ls => (RdgF w0 m rd y l.length (l.map b8) ∧ ∀ x ∈ l, x < 256) ∧ AllF w0 m rd ys ls
  | _, _ => False
theorem allf_len : ∀ {ys : List SV} {ls : List (List Nat)}, AllF w0 m rd ys ls → ys.length = ls.length
  | [], [], _ => rfl
  | _ :: _, _ :: _, h => by simp [allf_len h.2]
  | [], _ :: _, h => h.elim
  | _ :: _, [], h => h.elim
theorem allf_get : ∀ {ys : List SV} {ls : List (List Nat)}, AllF w0 m rd ys ls → ∀ (i : Nat) (l : List Nat), ls[i]? = some l → ∃ y, ys[i]? = some y ∧ RdgF w0 m rd y l.length (l.map b8) ∧ ∀ x ∈ l, x < 256
  | [], [], _, i, l, hl => by simp at hl
  | y :: _, _ :: _, h, 0, l, hl => by
    simp only [List.getElem?_cons_zero, Option.some.injEq] at hl
    subst hl
    exact ⟨y, rfl, h.1⟩
  | _ :: _, _ :: _, h, i + 1, l, hl => by
    simp only [List.getElem?_cons_succ] at hl ⊢
    exact allf_get h.2 i l hl
  | [], _ :: _, h, _, _, _ => h.elim
  | _ :: _, [], h, _, _, _ => h.elim
theorem partsf_own {id n : Nat} {ys : List SV} {ty : TypeId} {ls : List (List Nat)} (hid : id ∈ rd) (hm : m id = some (.cells ys ty)) (hn : ls.length = n) (h : AllF w0 m rd ys ls) : PartsF w0 m rd (.s id 0 n n) ls := fun ρ S w hb hR => by
  have hc := relon_get hR hm hid
  subst hn
  refine ⟨SV.cs ρ ys, ⟨_, _, rfl, Nat.le_refl _, by rw [cs_map, List.length_map, Nat.mul_one, allf_len h], .inr ⟨_, rfl, .inr ⟨id, hid, _, hm, .inl ⟨True.intro, rfl⟩⟩, fun i x hx => ?_⟩⟩, fun i l hl => ?_⟩
  · rw [add_at, Nat.zero_add]
    rw [cs_map, List.getElem?_map] at hx
    cases hy : ys[i]? with
    | none => rw [hy] at hx; cases hx
    | some y => rw [hy] at hx; simp only [Option.map_some, Option.some.injEq] at hx; rw [← hx]; exact cell_own hc.2 hy
  · obtain ⟨y, h1, h2, h3⟩ := allf_get h i l hl
    exact ⟨y.c ρ, by rw [cs_map, List.getElem?_map, h1]; rfl, h2 ρ S w hb hR, h3⟩
/-- parts beside a state. -/
theorem partsf_put {x : SV} {ls : List (List Nat)} {id r n : Nat} {l : List SV} {D : Dat} {ty : TypeId} (rd2 : List Nat) (h : PartsF w0 m rd2 x ls) (hs : ∀ j ∈ rd2, j ∈ rd) (hi : id ∈ rd) (hr : r ∈ rd) (hni : id ∉ rd2) (hnr : r ∉ rd2) (hm1 : m id = some (.cells l ty)) (hm2 : m r = some (.row n 1 5 D)) :
    ∀ ρ S w, Bw w0 w → RelOn w0.heap.size ρ S w (restr rd m) → ∃ F, PartsAt w (x.c ρ) ls F ∧ ∀ k, F k → k ≠ (ρ id).g ∧ ((ρ r).val ≠ nilV → k ≠ (ρ r).g) := fun ρ S w hb hR => by
  refine ⟨_, h ρ S w hb (relon_mono rd2 hs hR), fun k hk => ?_⟩
  have hin : ∀ j, j ∈ rd → restr rd m j = m j := fun j hj => by unfold restr; rw [if_pos hj]
  have one : ∀ q c, q ∈ rd → q ∉ rd2 → m q = some c → c.owns (ρ q) → k ≠ (ρ q).g := by
    rintro q c hq hn2 hm ho rfl
    rcases hk with hk | ⟨j, hj, b, hb', h1 | h1⟩
    · have := (Good.own (relon_get hR hm hq) ho).1
      omega
    · have := hR.inj q _ j _ ((hin q hq).trans hm) ho ((hin j (hs j hj)).trans hb') h1.1 h1.2
      subst this
      exact hn2 hj
    · exact hR.dis q c j ((hin q hq).trans hm) ho (by rw [hin j (hs j hj), hb']; rfl) h1
  exact ⟨one id _ hi hni hm1 True.intro, fun hv => one r _ hr hnr hm2 hv⟩
theorem hangs_lt {ρ : Nat → Nm} {S : Nat → Nat → Prop} {w : World} (hb : Bw w0 w) (hR : RelOn w0.heap.size ρ S w (restr rd m)) : ∀ k, Hangs w0.heap.size ρ S m rd k → k < w.heap.size := fun k hk => by
  have hin : ∀ j, j ∈ rd → restr rd m j = m j := fun j hj => by unfold restr; rw [if_pos hj]
  rcases hk with hk | ⟨j, hj, b, hb', h1 | h1⟩
  · exact Nat.lt_of_lt_of_le hk hb.size
  · rw [h1.2]; exact (Good.own (relon_get hR hb' hj) h1.1).2
  · exact hR.lt j k (by rw [hin j hj, hb']; rfl) h1
end
theorem size1 {a : Array Value} (h : a.size = 1) : ∃ c, a = #[c] := by
  have h' : a.toList.length = 1 := by simpa using h
  obtain ⟨c, hc⟩ := List.length_eq_one_iff.1 h'
  exact ⟨c, by apply Array.ext'; rw [hc]⟩
theorem bsl1 (v : Value) (w : World) (h : v.cells.size = 1) : (Instr.buildSlice 22 1 #[(0, v)]).run Tryd.prog w = .ok (.slice (some ⟨w.heap.size, 0, none⟩) 1 1) (w.alloc (.cells v.cells 27)) := by
  have hz : ∀ w, (zeroValue 27).run Tryd.prog w = .ok (.slice none 0 0) w := Tryd.zeroValue27
  have hs : ∀ w, (Go.sizeOf 27).run Tryd.prog w = .ok 1 w := Tryd.sizeOf27
  obtain ⟨c, hc⟩ := size1 h
  unfold Instr.buildSlice
  have hzc : Value.cells (.slice none 0 0) = #[.slice none 0 0] := rfl
  simp [run_underlying Tryd.underlying22, hs, hz, Instr.fill, hc, hzc, newRow, newObj]
  rw [show (Array.map (fun x => ([Value.slice none 0 0][x % 1]?).getD default) (Array.range 1)) = #[.slice none 0 0] from by kernel_rfl]
  rfl
theorem bsl2 (v u : Value) (w : World) (h : v.cells.size = 1) (h' : u.cells.size = 1) : (Instr.buildSlice 22 2 #[(0, v), (1, u)]).run Tryd.prog w = .ok (.slice (some ⟨w.heap.size, 0, none⟩) 2 2) (w.alloc (.cells (v.cells ++ u.cells) 27)) := by
  have hz : ∀ w, (zeroValue 27).run Tryd.prog w = .ok (.slice none 0 0) w := Tryd.zeroValue27
  have hs : ∀ w, (Go.sizeOf 27).run Tryd.prog w = .ok 1 w := Tryd.sizeOf27
  obtain ⟨c, hc⟩ := size1 h
  obtain ⟨d, hd⟩ := size1 h'
  unfold Instr.buildSlice
  have hzc : Value.cells (.slice none 0 0) = #[.slice none 0 0] := rfl
  simp [run_underlying Tryd.underlying22, hs, hz, Instr.fill, hc, hd, hzc, newRow, newObj]
  rw [show (Array.map (fun x => ([Value.slice none 0 0][x % 1]?).getD default) (Array.range 2)) = #[.slice none 0 0, .slice none 0 0] from by kernel_rfl]
  rfl
theorem bsl3 (v0 v1 v2 : Value) (w : World) (h0 : v0.cells = #[v0]) (h1 : v1.cells = #[v1]) (h2 : v2.cells = #[v2]) : (Instr.buildSlice 22 3 #[(0, v0), (1, v1), (2, v2)]).run Tryd.prog w = .ok (.slice (some ⟨w.heap.size, 0, none⟩) 3 3) (w.alloc (.cells #[v0, v1, v2] 27)) := by
  have hz : ∀ w, (zeroValue 27).run Tryd.prog w = .ok (.slice none 0 0) w := Tryd.zeroValue27
  have hs : ∀ w, (Go.sizeOf 27).run Tryd.prog w = .ok 1 w := Tryd.sizeOf27
  unfold Instr.buildSlice
  have hzc : Value.cells (.slice none 0 0) = #[.slice none 0 0] := rfl
  simp [run_underlying Tryd.underlying22, hs, hz, Instr.fill, h0, h1, h2, hzc, newRow, newObj]
  rw [show (Array.map (fun x => ([Value.slice none 0 0][x % 1]?).getD default) (Array.range 3)) = #[.slice none 0 0, .slice none 0 0, .slice none 0 0] from by kernel_rfl]
  rfl
/-- two values of some cells in a slice of their own. -/
theorem ev_buildsl2 {P : Program} {w0 : World} {ops : Array Oper} {o : Oper} {s : VS} {ty e : TypeId} {x y : Operand} {n id : Nat} {sv sv2 : SV} {l l2 : List SV} (rd : List Nat) (_hd : o.dst = some id) (ho : o.op = .buildSlice ty 2 #[(0, x), (1, y)]) (hgd : Want ops o s)
    (hx : svEval s x = sv) (hy : svEval s y = sv2) (hc : ∀ ρ S w, RelOn w0.heap.size ρ S w (restr rd s.mem) → (sv.c ρ).cells.toList = SV.cs ρ l ∧ (sv2.c ρ).cells.toList = SV.cs ρ l2) (hn : l.length = n) (hn2 : l2.length = n) (hid : SV.hasL id (l ++ l2) = false)
    (hb : ∀ v u w, v.cells.size = n → u.cells.size = n → (Instr.buildSlice ty 2 #[(0, v), (1, u)]).run P w = .ok (.slice (some ⟨w.heap.size, 0, none⟩) 2 2) (w.alloc (.cells (v.cells ++ u.cells) e))) : Ev P ops w0 o s ⟨.s id 0 2 2, [(id, .cells (l ++ l2) e)], [], [id], rd⟩ :=
  ⟨by simp [Eff.ok], .inr ⟨hgd, fun ρ S w hbw hR => by
    have e0 := svEval_c s ρ x
    rw [hx] at e0
    have e1 := svEval_c s ρ y
    rw [hy] at e1
    obtain ⟨hcs, hcs2⟩ := hc ρ S w hR
    have hsz : (sv.c ρ).cells.size = n := by rw [← Array.length_toList, hcs, cs_map, List.length_map]; exact hn
    have hsz2 : (sv2.c ρ).cells.size = n := by rw [← Array.length_toList, hcs2, cs_map, List.length_map]; exact hn2
    have hcells : (sv.c ρ).cells ++ (sv2.c ρ).cells = (SV.cs ρ (l ++ l2)).toArray := by apply Array.ext'; rw [Array.toList_append, hcs, hcs2]; simp [cs_map]
    have hrun := hb _ _ w hsz hsz2
    rw [hcells] at hrun
    refine .inl ⟨.slice (some ⟨w.heap.size, 0, none⟩) 2 2, w.alloc (.cells (SV.cs ρ (l ++ l2)).toArray e), ?_, fun j => if j = id then ⟨w.heap.size, undef⟩ else ρ j, fun _ _ => False, ?_⟩
    · simp only [execOp, ho, List.map_toArray, List.map_cons, List.map_nil, e0, e1]
      rw [Sem.run_bind, hrun]
      rfl
    · have := out_new (base := w0.heap.size) (t := s.mem) (ρ := ρ) (S := S) (w := w) (w' := w.alloc (.cells (SV.cs ρ (l ++ l2)).toArray e)) (val := .s id 0 2 2) (rd := rd) (up := []) (id := id) (b := .cells (l ++ l2) e) (m := ⟨w.heap.size, undef⟩) (S1 := fun _ => False)
        rfl rfl rfl (by simp) (fun k hk _ => heap_alloc_old w _ hk) (fun ρ' g1 g2 => by
          refine ⟨by rw [g1]; exact hbw.size, ?_⟩
          rw [g1]
          simp only [cellsObj]
          rw [cs_upd (nw := [id]) (fun i hi => g2 i (by simpa using hi)) (fun i hi => by simp at hi; rw [hi]; exact hid)]
          exact heap_alloc_new w _) (fun _ h => h.elim) (fun _ => .inr ⟨Nat.le_refl _, fun h => h⟩)
      simpa [SV.c] using this⟩⟩
theorem padK_len (k : List Nat) (x : Nat) : (padK k x).length = 64 := by simp [padK]
theorem padK_lt {k : List Nat} {x : Nat} (h : ∀ y ∈ k, y < 256) (hx : x < 256) : ∀ y ∈ padK k x, y < 256 := fun y hy => by
  simp only [padK, List.mem_map, List.mem_range] at hy
  obtain ⟨i, _, rfl⟩ := hy
  exact Nat.xor_lt_two_pow (n := 8) (getD_lt h i) hx
theorem sha_lt (s : List Nat) : ∀ x ∈ sha s, x < 256 := out_lt _
theorem hmac_eq {key s : List Nat} (h : key.length ≤ 64) : sha (padK key 92 ++ sha (padK key 54 ++ s)) = hmac key s := by
  unfold hmac TollSha.keyOf
  rw [if_neg (by omega)]
theorem hmac_len (k s : List Nat) : (hmac k s).length = 32 := sha_len _
theorem hmac_lt (k s : List Nat) : ∀ x ∈ hmac k s, x < 256 := sha_lt _
theorem macOf_ok {v u : Value} {key : List Nat} {ls : List (List Nat)} {F G : Nat → Prop} (w : World) (hL : LaidK w) (hH : LaidH w) (hb1 : 1 < w.heap.size) (hv : SlAt w v key.length 1 (key.map b8) G) (hkl : key.length ≤ 64) (hk8 : ∀ y ∈ key, y < 256) (hp : PartsAt w u ls F) (hF : ∀ k, F k → k < w.heap.size) (hlt : ls.flatten.length < 1040000) (hln : ls.length ≤ 1048576) : Calls Tryd.prog 15 #[v, u] w fun e w' => e = .returned (.agg ((hmac key ls.flatten).map b8).toArray) ∧ Bw w w' := by
  obtain ⟨I, hI⟩ : ∃ I, padK key 54 = I := ⟨_, rfl⟩
  obtain ⟨O, hO⟩ : ∃ O, padK key 92 = O := ⟨_, rfl⟩
  have hIl : I.length = 64 := by rw [← hI]; exact padK_len _ _
  have hOl : O.length = 64 := by rw [← hO]; exact padK_len _ _
  have hI8 : ∀ x ∈ I, x < 256 := by rw [← hI]; exact padK_lt hk8 (by decide)
  have hO8 : ∀ x ∈ O, x < 256 := by rw [← hO]; exact padK_lt hk8 (by decide)
  have hres : sha [O, sha ([I].flatten ++ ls.flatten)].flatten = hmac key ls.flatten := by rw [← hmac_eq hkl, hI, hO]; simp
  rw [← hres]
  go_enter Tryd.func15, Tryd.ntmps15
  refine ve_go ?_
  simp only [List.map_cons, List.map_nil]
  refine vseq ?_
  apply vrp
  · apply VE.cons
    · exact ev_allocr (l := OL []) rfl rfl (gn rfl) Tryd.zeroValue28 rfl
    simp only [nm, seval]
    exact VE.nil _
  · kernel_rfl
  change VOk _ _ _ _ _
  refine vseq ?_
  refine vseq ?_
  apply vrp
  · apply VE.cons
    · exact ev_move rfl (gn rfl)
    simp only [nm, seval]
    apply VE.cons
    · exact ev_len rfl (gn rfl) rfl Tryd.underlying27 (rdg_arg hv)
    simp only [nm, seval]
    apply VE.cons
    · exact ev_gtr (p := false) rfl (gn rfl) rfl rfl (decide_eq_false (by omega))
    simp only [nm, seval]
    exact VE.nil _
  · kernel_rfl
  change VOk _ _ _ _ _
  refine vcond_f rfl ?_
  refine vskip ?_
  change VOk _ _ _ _ _
  refine vseq ?_
  apply vrp
  · apply VE.cons
    · exact ev_callnewst 700 (by decide) hH (fun w h => New_ok w h) rfl rfl (gn rfl) (en_of Tryd.func5 (by kernel_rfl) rfl)
    simp only [nm, seval]
    apply VE.cons
    · exact ev_assign rfl (gn rfl)
    simp only [nm, seval]
    exact VE.nil _
  · kernel_rfl
  change VOk _ _ _ _ _
  refine vseq ?_
  apply vrp
  · apply VE.cons
    · exact ev_move rfl (gn rfl)
    simp only [nm, seval]
    apply VE.cons
    · exact ev_move rfl (gn rfl)
    simp only [nm, seval]
    apply VE.cons
    · exact ev_callrow [] rfl rfl (gn rfl) rfl (en_of Tryd.func22 (by kernel_rfl) rfl) (n := 64) (size := 1) (l := I.map b8) (by simp [hIl]) (fun ρ S w' hb hR => by rw [← hI]; exact pad_ok w' (sl_bw hv hb) hkl hk8 (by decide))
    simp only [nm, seval]
    apply VE.cons
    · exact ev_buildsl1 (n := 1) (l := [.d 18]) [18] rfl rfl (gn rfl) rfl (fun ρ S w' hR => by have hh := row_cells (id := 18) hR (by simp) rfl; exact hh.1) rfl rfl bsl1
    simp only [nm, seval]
    apply VE.cons
    · exact ev_callput (id := 15) (r := 700) (n := 0) (wl := 0) (a := []) (ls := [I]) 701 [15, 700, 18, 19] (by decide) hL hb1 rfl (gn rfl) (en_of Tryd.func6 (by kernel_rfl) rfl) rfl rfl rfl rfl rfl rfl (by simp) (by simp) (partsf_put [18, 19] (partsf_own (by simp) rfl rfl ⟨⟨by rw [hIl]; exact rdgf_row (by simp) rfl, hI8⟩, trivial⟩) (by simp) (by simp) (by simp) (by decide) (by decide) rfl rfl) (fun x hx => by cases hx) (by simp [hIl]) (by simp)
    simp only [nm, seval]
    exact VE.nil _
  · kernel_rfl
  change VOk _ _ _ _ _
  refine vseq ?_
  apply vrp
  · apply VE.cons
    · exact ev_move rfl (gn rfl)
    simp only [nm, seval]
    apply VE.cons
    · exact ev_move rfl (gn rfl)
    simp only [nm, seval]
    apply VE.cons
    · exact ev_callput (id := 15) (r := 701) (a := [I].flatten) (ls := ls) 702 [15, 701] (by decide) hL hb1 rfl (gn rfl) (en_of Tryd.func6 (by kernel_rfl) rfl) rfl rfl rfl rfl rfl rfl (by simp) (by simp) (partsf_put [] (partsf_arg hp hF) (by simp) (by simp) (by simp) (by decide) (by decide) rfl rfl) (by simpa using hI8) (by simp only [List.length_append, List.flatten_cons, List.flatten_nil, List.length_nil, hIl]; omega) hln
    simp only [nm, seval]
    exact VE.nil _
  · kernel_rfl
  change VOk _ _ _ _ _
  refine vseq ?_
  apply vrp
  · apply VE.cons
    · exact ev_move rfl (gn rfl)
    simp only [nm, seval]
    apply VE.cons
    · exact ev_callp (v := .agg ((sha ([I].flatten ++ ls.flatten)).map b8).toArray) [15, 702] rfl (gn rfl) rfl (en_of Tryd.func9 (by kernel_rfl) rfl) (fun ρ S w' hb hR => c_sum (id := 15) (a := [I].flatten ++ ls.flatten) hR (by simp) (by simp) rfl rfl rfl rfl (hL.bw hb) (fun x hx => by rcases List.mem_append.1 hx with hx | hx; exact hI8 x (by simpa using hx); exact flat_lt hp x hx) (by simp only [List.length_append, List.flatten_cons, List.flatten_nil, List.length_nil, hIl]; omega))
    simp only [nm, seval]
    apply VE.cons
    · exact ev_allocr (l := OL []) rfl rfl (gn rfl) Tryd.zeroValue28 rfl
    simp only [nm, seval]
    apply VE.cons
    · first | exact ev_storer (l' := (sha ([I].flatten ++ ls.flatten)).map b8) rfl (gn rfl) rfl rfl rfl Tryd.sizeOf28 (by simp [Value.cells, sha_len]) (by rw [OL_len (by simp)]; decide) (by show ((sha ([I].flatten ++ ls.flatten)).map b8).toArray.toList.all _ = true; exact b8_all _) (by rw [List.take_zero, List.nil_append, List.drop_of_length_le (by rw [OL_len (by simp)]; decide), List.append_nil]; simp [Value.cells]) | exact ev_storer (l' := (sha [O, sha ([I].flatten ++ ls.flatten)].flatten).map b8) rfl (gn rfl) rfl rfl rfl Tryd.sizeOf28 (by simp [Value.cells, sha_len]) (by rw [OL_len (by simp)]; decide) (by show ((sha [O, sha ([I].flatten ++ ls.flatten)].flatten).map b8).toArray.toList.all _ = true; exact b8_all _) (by rw [List.take_zero, List.nil_append, List.drop_of_length_le (by rw [OL_len (by simp)]; decide), List.append_nil]; simp [Value.cells])
    simp only [nm, seval]
    exact VE.nil _
  · kernel_rfl
  change VOk _ _ _ _ _
  refine vseq ?_
  apply vrd (by kernel_rfl)
  · apply VE.cons
    · exact ev_move rfl (gn rfl)
    simp only [nm, seval]
    apply VE.cons
    · exact ev_callrow [] rfl rfl (gn rfl) rfl (en_of Tryd.func22 (by kernel_rfl) rfl) (n := 64) (size := 1) (l := O.map b8) (by simp [hOl]) (fun ρ S w' hb hR => by rw [← hO]; exact pad_ok w' (sl_bw hv hb) hkl hk8 (by decide))
    simp only [nm, seval]
    apply VE.cons
    · exact ev_slicea rfl (gn rfl) rfl Tryd.underlying28 Tryd.sizeOf5
    simp only [nm, seval]
    apply VE.cons
    · exact ev_buildsl2 (n := 1) (l := [.d 27]) (l2 := [.s 7 0 32 32]) [27] rfl rfl (gn rfl) rfl rfl (fun ρ S w' hR => by have hh := row_cells (id := 27) hR (by simp) rfl; exact ⟨hh.1, rfl⟩) rfl rfl rfl bsl2
    simp only [nm, seval]
    apply VE.cons
    · exact ev_callp (v := .agg ((sha [O, sha ([I].flatten ++ ls.flatten)].flatten).map b8).toArray) [7, 27, 29] rfl (gn rfl) rfl (en_of Tryd.func20 (by kernel_rfl) rfl) (fun ρ S w' hb hR => Of_ok w' (hL.bw hb) (hH.bw hb) (Nat.lt_of_lt_of_le hb1 hb.size) (partsf_own (id := 29) (n := 2) (ls := [O, sha ([I].flatten ++ ls.flatten)]) (by simp) (by rfl) rfl (by exact ⟨⟨by rw [hOl]; exact rdgf_row (by simp) rfl, hO8⟩, ⟨by rw [sha_len]; exact rdgf_arr (by simp) rfl (by simp [sha_len]) (by decide), sha_lt _⟩, trivial⟩) ρ S w' hb hR) (hangs_lt hb hR) (by simp [hOl, sha_len]) (by simp))
    simp only [nm, seval]
    apply VE.cons
    · first | exact ev_storer (l' := (sha ([I].flatten ++ ls.flatten)).map b8) rfl (gn rfl) rfl rfl rfl Tryd.sizeOf28 (by simp [Value.cells, sha_len]) (by rw [OL_len (by simp)]; decide) (by show ((sha ([I].flatten ++ ls.flatten)).map b8).toArray.toList.all _ = true; exact b8_all _) (by rw [List.take_zero, List.nil_append, List.drop_of_length_le (by rw [OL_len (by simp)]; decide), List.append_nil]; simp [Value.cells]) | exact ev_storer (l' := (sha [O, sha ([I].flatten ++ ls.flatten)].flatten).map b8) rfl (gn rfl) rfl rfl rfl Tryd.sizeOf28 (by simp [Value.cells, sha_len]) (by rw [OL_len (by simp)]; decide) (by show ((sha [O, sha ([I].flatten ++ ls.flatten)].flatten).map b8).toArray.toList.all _ = true; exact b8_all _) (by rw [List.take_zero, List.nil_append, List.drop_of_length_le (by rw [OL_len (by simp)]; decide), List.append_nil]; simp [Value.cells])
    simp only [nm, seval]
    exact VE.nil _
  · kernel_rfl
  change VOk _ _ _ _ _
  refine vret ?_
  refine post_ret (res1 Tryd.results15 (rv_cellr (vs := (sha [O, sha ([I].flatten ++ ls.flatten)].flatten).map b8) rfl rfl Tryd.underlying28 rfl Tryd.sizeOf28 (List.take_of_length_le (by simp [sha_len])) (by simp [sha_len]))) ?_
  intro ρ w' hr
  exact ⟨rfl, hr.1⟩
theorem Extract_ok {v u : Value} {key l : List Nat} {F G : Nat → Prop} (w : World) (hL : LaidK w) (hH : LaidH w) (hb1 : 1 < w.heap.size) (hv : SlAt w v key.length 1 (key.map b8) G) (hkl : key.length ≤ 64) (hk8 : ∀ y ∈ key, y < 256) (hp : SlAt w u l.length 1 (l.map b8) F) (hl8 : ∀ y ∈ l, y < 256) (hlt : l.length < 1040000) : Calls Tryd.prog 7 #[v, u] w fun e w' => e = .returned (.agg ((hmac key l).map b8).toArray) ∧ Bw w w' := by
  obtain ⟨F', hp', hF'⟩ := rdgf_argb hp
  have hres : hmac key [l].flatten = hmac key l := by simp
  rw [← hres]
  go_enter Tryd.func7, Tryd.ntmps7
  refine ve_go ?_
  simp only [List.map_cons, List.map_nil]
  refine vseq ?_
  apply vrp
  · apply VE.cons
    · exact ev_allocr (l := OL []) rfl rfl (gn rfl) Tryd.zeroValue28 rfl
    simp only [nm, seval]
    exact VE.nil _
  · kernel_rfl
  change VOk _ _ _ _ _
  refine vseq ?_
  apply vrp
  · apply VE.cons
    · exact ev_move rfl (gn rfl)
    simp only [nm, seval]
    apply VE.cons
    · exact ev_move rfl (gn rfl)
    simp only [nm, seval]
    apply VE.cons
    · exact ev_buildsl1 (n := 1) (l := [.v u]) [] rfl rfl (gn rfl) rfl (fun ρ S w' hR => by obtain ⟨_, _, rfl, _⟩ := hp; rfl) rfl rfl bsl1
    simp only [nm, seval]
    apply VE.cons
    · exact ev_callp (v := .agg ((hmac key [l].flatten).map b8).toArray) [7] rfl (gn rfl) rfl (en_of Tryd.func15 (by kernel_rfl) rfl) (fun ρ S w' hb hR => macOf_ok w' (hL.bw hb) (hH.bw hb) (Nat.lt_of_lt_of_le hb1 hb.size) (sl_bw hv hb) hkl hk8 (partsf_own (id := 7) (n := 1) (ls := [l]) (by simp) (by rfl) rfl (by exact ⟨⟨rdgf_arg hp' hF', hl8⟩, trivial⟩) ρ S w' hb hR) (hangs_lt hb hR) (by simpa using hlt) (by simp))
    simp only [nm, seval]
    apply VE.cons
    · exact ev_storer (l' := (hmac key [l].flatten).map b8) rfl (gn rfl) rfl rfl rfl Tryd.sizeOf28 (by simp [Value.cells, hmac_len]) (by rw [OL_len (by simp)]; decide) (by show ((hmac key [l].flatten).map b8).toArray.toList.all _ = true; exact b8_all _) (by rw [List.take_zero, List.nil_append, List.drop_of_length_le (by rw [OL_len (by simp)]; decide), List.append_nil]; simp [Value.cells])
    simp only [nm, seval]
    exact VE.nil _
  · kernel_rfl
  change VOk _ _ _ _ _
  refine vret ?_
  refine post_ret (res1 Tryd.results7 (rv_cellr (vs := (hmac key [l].flatten).map b8) rfl rfl Tryd.underlying28 rfl Tryd.sizeOf28 (List.take_of_length_le (by simp [hmac_len])) (by simp [hmac_len]))) ?_
  intro ρ w' hr
  exact ⟨rfl, hr.1⟩
end Go.Proofs.YtdhklekkpkbfeaaDoor
