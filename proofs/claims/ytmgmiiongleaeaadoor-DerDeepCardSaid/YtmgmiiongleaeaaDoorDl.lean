import Derived.Test.YtmgmiiongleaeaaDoorDk
namespace Go.Proofs.YtmgmiiongleaeaaDoor
open Go.RowKit Go.Vx
open Go.Toll (Gw)
set_option maxHeartbeats 4000000
set_option maxRecDepth 100000
/-! ### nodes as data -/
mutual
theorem DN_keep {w w' : World} {S : Nat → Prop} (hb : ∀ k, S k → w'.heap[k]? = w.heap[k]?) : ∀ {t : Tr} {xs : List Value}, DN w S t xs → DN w' S t xs
  | .mk t b ks, xs, h => by
    simp only [DN] at h ⊢
    obtain ⟨bv, kv, cs, h1, h2, h3, h4⟩ := h
    exact ⟨bv, kv, cs, h1, h2.keep hb, h3.keep hb, DNs_keep hb h4⟩
theorem DNs_keep {w w' : World} {S : Nat → Prop} (hb : ∀ k, S k → w'.heap[k]? = w.heap[k]?) : ∀ {ks : List Tr} {xs : List Value}, DNs w S ks xs → DNs w' S ks xs
  | [], xs, h => by simp only [DNs] at h ⊢; exact h
  | k :: ks, xs, h => by
    simp only [DNs] at h ⊢
    obtain ⟨x, y, h1, h2, h3⟩ := h
    exact ⟨x, y, h1, DN_keep hb h2, DNs_keep hb h3⟩
end
mutual
theorem RN_keep {w w' : World} {S : Nat → Prop} (hb : ∀ k, S k → w'.heap[k]? = w.heap[k]?) : ∀ {t : Tr} {xs : List Value}, RN w S t xs → RN w' S t xs
  | .mk t b ks, xs, h => by
    simp only [RN] at h ⊢
    obtain ⟨kv, cs, h1, h3, h4⟩ := h
    exact ⟨kv, cs, h1, h3.keep hb, RNs_keep hb h4⟩
theorem RNs_keep {w w' : World} {S : Nat → Prop} (hb : ∀ k, S k → w'.heap[k]? = w.heap[k]?) : ∀ {ks : List Tr} {xs : List Value}, RNs w S ks xs → RNs w' S ks xs
  | [], xs, h => by simp only [RNs] at h ⊢; exact h
  | k :: ks, xs, h => by
    simp only [RNs] at h ⊢
    obtain ⟨x, y, h1, h2, h3⟩ := h
    exact ⟨x, y, h1, RN_keep hb h2, RNs_keep hb h3⟩
end
theorem sl_sub {w : World} {v : Value} {n size : Nat} {l : List Value} {S S' : Nat → Prop} (h : SlAt w v n size l S) (hs : ∀ k, S k → S' k) : SlAt w v n size l S' := by
  obtain ⟨ao, cap, h1, h2, h3, h4⟩ := h
  exact ⟨ao, cap, h1, h2, h3, h4.imp id fun ⟨g, a, b, c⟩ => ⟨g, a, hs _ b, c⟩⟩
mutual
theorem DN_sub {w : World} {S S' : Nat → Prop} (hs : ∀ k, S k → S' k) : ∀ {t : Tr} {xs : List Value}, DN w S t xs → DN w S' t xs
  | .mk t b ks, xs, h => by
    simp only [DN] at h ⊢
    obtain ⟨bv, kv, cs, h1, h2, h3, h4⟩ := h
    exact ⟨bv, kv, cs, h1, sl_sub h2 hs, sl_sub h3 hs, DNs_sub hs h4⟩
theorem DNs_sub {w : World} {S S' : Nat → Prop} (hs : ∀ k, S k → S' k) : ∀ {ks : List Tr} {xs : List Value}, DNs w S ks xs → DNs w S' ks xs
  | [], xs, h => by simp only [DNs] at h ⊢; exact h
  | k :: ks, xs, h => by
    simp only [DNs] at h ⊢
    obtain ⟨x, y, h1, h2, h3⟩ := h
    exact ⟨x, y, h1, DN_sub hs h2, DNs_sub hs h3⟩
end
mutual
theorem RN_sub {w : World} {S S' : Nat → Prop} (hs : ∀ k, S k → S' k) : ∀ {t : Tr} {xs : List Value}, RN w S t xs → RN w S' t xs
  | .mk t b ks, xs, h => by
    simp only [RN] at h ⊢
    obtain ⟨kv, cs, h1, h3, h4⟩ := h
    exact ⟨kv, cs, h1, sl_sub h3 hs, RNs_sub hs h4⟩
theorem RNs_sub {w : World} {S S' : Nat → Prop} (hs : ∀ k, S k → S' k) : ∀ {ks : List Tr} {xs : List Value}, RNs w S ks xs → RNs w S' ks xs
  | [], xs, h => by simp only [RNs] at h ⊢; exact h
  | k :: ks, xs, h => by
    simp only [RNs] at h ⊢
    obtain ⟨x, y, h1, h2, h3⟩ := h
    exact ⟨x, y, h1, RN_sub hs h2, RNs_sub hs h3⟩
end
theorem DNs_snoc {w : World} {S : Nat → Prop} {k : Tr} {y : List Value} (h : DN w S k y) : ∀ {ks : List Tr} {xs : List Value}, DNs w S ks xs → DNs w S (ks ++ [k]) (xs ++ y)
  | [], xs, h1 => by
    simp only [DNs] at h1; subst h1
    simp only [List.nil_append, DNs]
    exact ⟨y, [], by simp, h, rfl⟩
  | k0 :: ks, xs, h1 => by
    simp only [DNs] at h1
    obtain ⟨x, z, rfl, h2, h3⟩ := h1
    simp only [List.cons_append, DNs]
    exact ⟨x, z ++ y, by simp, h2, DNs_snoc h h3⟩
theorem RNs_snoc {w : World} {S : Nat → Prop} {k : Tr} {y : List Value} (h : RN w S k y) : ∀ {ks : List Tr} {xs : List Value}, RNs w S ks xs → RNs w S (ks ++ [k]) (xs ++ y)
  | [], xs, h1 => by
    simp only [RNs] at h1; subst h1
    simp only [List.nil_append, RNs]
    exact ⟨y, [], by simp, h, rfl⟩
  | k0 :: ks, xs, h1 => by
    simp only [RNs] at h1
    obtain ⟨x, z, rfl, h2, h3⟩ := h1
    simp only [List.cons_append, RNs]
    exact ⟨x, z ++ y, by simp, h2, RNs_snoc h h3⟩
theorem DN_one {w : World} {S : Nat → Prop} {t : Tr} {xs : List Value} (h : DN w S t xs) : xs.all (·.oneCell') = true := by
  cases t with
  | mk t b ks =>
    simp only [DN] at h
    obtain ⟨bv, kv, cs, rfl, ⟨_, _, rfl, _⟩, ⟨_, _, rfl, _⟩, _⟩ := h
    rfl
theorem RN_one {w : World} {S : Nat → Prop} {t : Tr} {xs : List Value} (h : RN w S t xs) : xs.all (·.oneCell') = true := by
  cases t with
  | mk t b ks =>
    simp only [RN] at h
    obtain ⟨kv, cs, rfl, ⟨_, _, rfl, _⟩, _⟩ := h
    rfl
def datN (t : Tr) : Dat := ⟨fun xs w S => ∃ c, xs = [.agg c.toArray] ∧ DN w S t c, fun h hk => by obtain ⟨c, h1, h2⟩ := h; exact ⟨c, h1, DN_keep hk h2⟩⟩
def datNs (ks : List Tr) : Dat := ⟨fun xs w S => DNs w S ks xs, fun h hk => DNs_keep hk h⟩
def datR (t : Tr) : Dat := ⟨fun xs w S => ∃ c, xs = [.agg c.toArray] ∧ RN w S t c, fun h hk => by obtain ⟨c, h1, h2⟩ := h; exact ⟨c, h1, RN_keep hk h2⟩⟩
def datRs (ks : List Tr) : Dat := ⟨fun xs w S => RNs w S ks xs, fun h hk => RNs_keep hk h⟩
theorem datN_get {w : World} {base : Nat} {ρ : Nat → Nm} {S : Nat → Nat → Prop} {m : Mem} {rd : List Nat} {id : Nat} {t : Tr} (hR : RelOn base ρ S w (restr rd m)) (hid : id ∈ rd) (hm : m id = some (.dat (datN t))) :
    ∃ c, (ρ id).val = .agg c.toArray ∧ DN w (S id) t c := by
  obtain ⟨c, h1, h2⟩ := relon_dat hR hid hm
  simp only [List.cons.injEq, and_true] at h1
  exact ⟨c, h1, h2⟩
theorem datR_get {w : World} {base : Nat} {ρ : Nat → Nm} {S : Nat → Nat → Prop} {m : Mem} {rd : List Nat} {id : Nat} {t : Tr} (hR : RelOn base ρ S w (restr rd m)) (hid : id ∈ rd) (hm : m id = some (.dat (datR t))) :
    ∃ c, (ρ id).val = .agg c.toArray ∧ RN w (S id) t c := by
  obtain ⟨c, h1, h2⟩ := relon_dat hR hid hm
  simp only [List.cons.injEq, and_true] at h1
  exact ⟨c, h1, h2⟩
theorem fn3 {ρ : Nat → Nm} {id : Nat} {c : List Value} (h : (ρ id).val = .agg c.toArray) (hl : c.length = 3) : ((SV.d id).c ρ).cells.toList = SV.cs ρ [.fn (cellV 0) (.d id), .fn (cellV 1) (.d id), .fn (cellV 2) (.d id)] ∧ SV.cs ρ [.fn (cellV 0) (.d id), .fn (cellV 1) (.d id), .fn (cellV 2) (.d id)] = c := by
  have h1 : ((ρ id).val).cells.size = 3 := by rw [h]; simpa [Value.cells] using hl
  have h2 := cells_d h1
  have h3 : ((SV.d id).c ρ).cells.toList = SV.cs ρ [.fn (cellV 0) (.d id), .fn (cellV 1) (.d id), .fn (cellV 2) (.d id)] := h2
  refine ⟨h3, h3.symm.trans ?_⟩
  show ((ρ id).val).cells.toList = c
  rw [h]
  simp [Value.cells]
theorem bs29 (v : Value) (w : World) (h : v.cells.size = 3) : (Instr.buildSlice 27 1 #[(0, v)]).run Tryd.prog w = .ok (.slice (some ⟨w.heap.size, 0, none⟩) 1 1) (w.alloc (.cells v.cells 29)) := by
  obtain ⟨a, b, c, hl⟩ := list3 (l := v.cells.toList) (by simpa using h)
  have hl' : v.cells = #[a, b, c] := by apply Array.ext'; rw [hl]
  have hz : ∀ w, (zeroValue 29).run Tryd.prog w = .ok (.agg #[.int .i64 0, .slice none 0 0, .slice none 0 0]) w := Tryd.zeroValue29
  have hs : ∀ w, (Go.sizeOf 29).run Tryd.prog w = .ok 3 w := Tryd.sizeOf29
  unfold Instr.buildSlice
  have hzc : Value.cells (.agg #[.int .i64 0, .slice none 0 0, .slice none 0 0]) = #[.int .i64 0, .slice none 0 0, .slice none 0 0] := rfl
  have hr : Array.range 3 = #[0, 1, 2] := by decide
  simp [run_underlying Tryd.underlying27, hs, hz, Instr.fill, hl', hzc, newRow, newObj, hr]
  rfl
theorem bs24 (v : Value) (w : World) (h : v.cells.size = 3) : (Instr.buildSlice 22 1 #[(0, v)]).run Tryd.prog w = .ok (.slice (some ⟨w.heap.size, 0, none⟩) 1 1) (w.alloc (.cells v.cells 24)) := by
  obtain ⟨a, b, c, hl⟩ := list3 (l := v.cells.toList) (by simpa using h)
  have hl' : v.cells = #[a, b, c] := by apply Array.ext'; rw [hl]
  have hz : ∀ w, (zeroValue 24).run Tryd.prog w = .ok (.agg #[.int .i64 0, .string (ByteArray.mk #[]), .slice none 0 0]) w := Tryd.zeroValue24
  have hs : ∀ w, (Go.sizeOf 24).run Tryd.prog w = .ok 3 w := Tryd.sizeOf24
  unfold Instr.buildSlice
  have hzc : Value.cells (.agg #[.int .i64 0, .string (ByteArray.mk #[]), .slice none 0 0]) = #[.int .i64 0, .string (ByteArray.mk #[]), .slice none 0 0] := rfl
  have hr : Array.range 3 = #[0, 1, 2] := by decide
  simp [run_underlying Tryd.underlying22, hs, hz, Instr.fill, hl', hzc, newRow, newObj, hr]
  rfl
theorem built29 (t : Int) (p : Option Addr) (m q : Nat) : Tryd.prog.built 29 [(0, .int .i64 t), (1, .slice p m q)] = some #[.int .i64 t, .slice p m q, .slice none 0 0] := by kernel_rfl
theorem built24 (t : Int) (b : ByteArray) : Tryd.prog.built 24 [(0, .int .i64 t), (1, .string b)] = some #[.int .i64 t, .string b, .slice none 0 0] := by kernel_rfl
def ToOK (t : Tr) : Prop := ∀ (xs : List Value) (w : World) (S : Nat → Prop), RN w S t xs → Calls Tryd.prog 11 #[.agg xs.toArray] w fun e w' => ∃ v, e = .returned v ∧ RetD w w' v (datN t) ∧ Bw w w'
def FromOK (t : Tr) : Prop := ∀ (xs : List Value) (w : World) (S : Nat → Prop), DN w S t xs → Calls Tryd.prog 16 #[.agg xs.toArray] w fun e w' => ∃ v, e = .returned v ∧ RetD w w' v (datR t) ∧ Bw w w'
theorem take_get {α : Type} {l : List α} {i : Nat} {x : α} (h : l[i]? = some x) : l.take (i + 1) = l.take i ++ [x] := by
  obtain ⟨hi, e⟩ := List.getElem?_eq_some_iff.1 h
  rw [List.take_succ_eq_append_getElem hi, e]
theorem agg_cells {ρ : Nat → Nm} (l : List SV) : ((SV.agg l).c ρ).cells.toList = SV.cs ρ l := by simp [SV.c, Value.cells]
/-- a node made of a row of bytes and a row of nodes. -/
theorem node_of {w0 w : World} {s : VS} {ρ : Nat → Nm} (i j : Nat) {t : Int} {b : List Nat} {ks : List Tr} (hr : Rel w0 ρ s w) (h1 : s.mem i = some (.row b.length 1 5 (.exact (b.map b8)))) (h2 : s.mem j = some (.row ks.length 3 29 (datNs ks))) :
    RetD w0 w (.agg #[.int .i64 t, (ρ i).val, (ρ j).val]) (datN (.mk t b ks)) := by
  obtain ⟨hb, S, hR⟩ := hr
  obtain ⟨xs, e1, e2, e3⟩ := hR.good i _ h1
  obtain ⟨ys, f1, f2, f3⟩ := hR.good j _ h2
  have e2' : xs = b.map b8 := e2
  subst e2'
  refine ⟨fun k => w0.heap.size ≤ k ∧ k < w.heap.size, ⟨[.int .i64 t, (ρ i).val, (ρ j).val], rfl, ?_⟩, fun k hk => hk⟩
  simp only [DN]
  have key : ∀ {m : Nm} {n size : Nat} {ty : TypeId} {l : List Value}, RowAt w w0.heap.size m n size ty l → l.length = n * size → SlAt w m.val n size l (fun k => w0.heap.size ≤ k ∧ k < w.heap.size) := by
    intro m n size ty l h hl
    have hs := row_sl h hl
    rcases h with ⟨g1, g2⟩ | ⟨off, cap, cur, fz, g1, g2, g3, _⟩
    · obtain ⟨ao, cap, a1, a2, a3, a4⟩ := hs
      refine ⟨ao, cap, a1, a2, a3, .inl ?_⟩
      subst g2
      exact List.eq_nil_of_length_eq_zero (by simpa using hl)
    · exact sl_sub hs fun k hk => by subst hk; exact ⟨g2, (Array.getElem?_eq_some_iff.1 g3).1⟩
  refine ⟨_, _, ys, rfl, key e3 e1, key f3 f1, DNs_sub (fun k hk => ⟨hR.fr j k (by rw [h2]; rfl) hk, hR.lt j k (by rw [h2]; rfl) hk⟩) f2⟩
theorem rnode_of {w0 w : World} {s : VS} {ρ : Nat → Nm} (j : Nat) {t : Int} {b : List Nat} {ks : List Tr} (hr : Rel w0 ρ s w) (h2 : s.mem j = some (.row ks.length 3 24 (datRs ks))) :
    RetD w0 w (.agg #[.int .i64 t, .string (bstr b), (ρ j).val]) (datR (.mk t b ks)) := by
  obtain ⟨hb, S, hR⟩ := hr
  obtain ⟨ys, f1, f2, f3⟩ := hR.good j _ h2
  refine ⟨fun k => w0.heap.size ≤ k ∧ k < w.heap.size, ⟨[.int .i64 t, .string (bstr b), (ρ j).val], rfl, ?_⟩, fun k hk => hk⟩
  simp only [RN]
  have key : ∀ {m : Nm} {n size : Nat} {ty : TypeId} {l : List Value}, RowAt w w0.heap.size m n size ty l → l.length = n * size → SlAt w m.val n size l (fun k => w0.heap.size ≤ k ∧ k < w.heap.size) := by
    intro m n size ty l h hl
    have hs := row_sl h hl
    rcases h with ⟨g1, g2⟩ | ⟨off, cap, cur, fz, g1, g2, g3, _⟩
    · obtain ⟨ao, cap, a1, a2, a3, a4⟩ := hs
      refine ⟨ao, cap, a1, a2, a3, .inl ?_⟩
      subst g2
      exact List.eq_nil_of_length_eq_zero (by simpa using hl)
    · exact sl_sub hs fun k hk => by subst hk; exact ⟨g2, (Array.getElem?_eq_some_iff.1 g3).1⟩
  exact ⟨_, ys, rfl, key f3 f1, RNs_sub (fun k hk => ⟨hR.fr j k (by rw [h2]; rfl) hk, hR.lt j k (by rw [h2]; rfl) hk⟩) f2⟩
theorem to_step {t : Int} {b : List Nat} {ks : List Tr} {kv : Value} {cs : List Value} {S : Nat → Prop} (w : World) (hih : ∀ k ∈ ks, ToOK k) (h8 : ∀ x ∈ b, x < 256) (hbl : b.length ≤ 1048576) (hv : SlAt w kv ks.length 3 cs S) (hn : RNs w S ks cs) (hks : ks.length ≤ 1048576) : Calls Tryd.prog 11 #[.agg #[.int .i64 t, .string (bstr b), kv]] w fun e w' => ∃ v, e = .returned v ∧ RetD w w' v (datN (.mk t b ks)) ∧ Bw w w' := by
  go_enter Tryd.func11, Tryd.ntmps11
  refine ve_go ?_
  simp only [List.map_cons, List.map_nil]
  refine vseq ?_
  apply vrp
  · apply VE.cons
    · exact ev_box rfl rfl (gn rfl) rfl
    simp only [nm, seval]
    apply VE.cons
    · exact ev_alloc rfl rfl (gn rfl) Tryd.zeroValue29
    simp only [nm, seval]
    exact VE.nil _
  · kernel_rfl
  change VOk _ _ _ _ _
  refine vseq ?_
  apply vrp
  · apply VE.cons
    · first | exact ev_field rfl (gn rfl) rfl Tryd.underlying24 rfl Tryd.sizeOf3 | exact ev_fieldx rfl (gn rfl) rfl Tryd.underlying24 rfl Tryd.sizeOf3
    simp only [nm, seval]
    apply VE.cons
    · first | exact ev_load1 rfl (gn rfl) rfl rfl Tryd.underlying3 rfl rfl | exact ev_loadx1 rfl (gn rfl) rfl Tryd.underlying3 rfl (by assumption)
    simp only [nm, seval]
    apply VE.cons
    · first | exact ev_field rfl (gn rfl) rfl Tryd.underlying24 rfl Tryd.sizeOf9 | exact ev_fieldx rfl (gn rfl) rfl Tryd.underlying24 rfl Tryd.sizeOf9
    simp only [nm, seval]
    apply VE.cons
    · first | exact ev_load1 rfl (gn rfl) rfl rfl Tryd.underlying9 rfl rfl | exact ev_loadx1 rfl (gn rfl) rfl Tryd.underlying9 rfl (by assumption)
    simp only [nm, seval]
    apply VE.cons
    · exact ev_convsb8 rfl rfl (gn rfl) rfl Tryd.underlying9 Tryd.underlying26 Tryd.underlying5 (by simp only [maxLen]; omega) h8
    simp only [nm, seval]
    apply VE.cons
    · exact ev_build2 (n := b.length) (size := 1) (l := b.map b8) rfl (gn rfl) rfl rfl (rdg_row rfl) (fun p m q => built29 t p m q)
    simp only [nm, seval]
    apply VE.cons
    · exact ev_alloc rfl rfl (gn rfl) Tryd.zeroValue29
    simp only [nm, seval]
    apply VE.cons
    · first | exact ev_storeR (vl := [.v (.int .i64 t), .d 9, .v (.slice none 0 0)]) [3, 9] rfl (gn rfl) rfl rfl rfl Tryd.sizeOf29 rfl (fun ρ S w' _ hR => ⟨agg_cells _, by have hh := row_cells (id := 9) hR (by simp) rfl; simp only [SV.cs, SV.c, List.all_cons, List.all_nil, hh.2]; rfl⟩) rfl (by simp) | exact ev_storeR (vl := [.v (.int .i64 t), .d 9, .d 900]) [2, 9, 900] rfl (gn rfl) rfl rfl rfl Tryd.sizeOf29 rfl (fun ρ S w' _ hR => ⟨agg_cells _, by have hh := row_cells (id := 9) hR (by simp) rfl; have hh2 := row_cells (id := 900) hR (by simp) rfl; simp only [SV.cs, SV.c, List.all_cons, List.all_nil, hh.2, hh2.2]; rfl⟩) rfl (by simp)
    simp only [nm, seval]
    exact VE.nil _
  · kernel_rfl
  change VOk _ _ _ _ _
  refine vseq ?_
  refine vseq ?_
  apply vrp
  · apply VE.cons
    · exact ev_assign rfl (gn rfl)
    simp only [nm, seval]
    exact VE.nil _
  · kernel_rfl
  change VOk _ _ _ _ _
  refine vblock ?_
  refine vloop_w (α := {i : Nat // i ≤ ks.length}) (fun (x : {i : Nat // i ≤ ks.length}) f => ⟨[.v (f 0), .p 1 0, .p 2 0, .p 3 0, .v (.int .i64 (x.1 : Nat)), .v (f 5), .v (f 6), .v (f 7), .v (f 8), .v (f 9), .v (f 10), .v (f 11), .v (f 12), .v (f 13), .v (f 14), .v (f 15), .v (f 16), .v (f 17), .v (f 18), .v (f 19), .v (f 20), .v (f 21), .v (f 22), .v (f 23), .v (f 24), .v (f 25), .v (f 26), .v (f 27), .v (f 28), .v (f 29)], memOf [(900, .row x.1 3 29 (datNs (ks.take x.1))), (3, .cells [.v (.int .i64 t), .d 9, .d 900] 29), (9, .row b.length 1 5 (.exact (b.map b8))), (2, .cells [.v (.int .i64 0), .v (.slice none 0 0), .v (.slice none 0 0)] 29), (1, .cells [.v (.int .i64 t), .v (.string (bstr b)), .v kv] 24)]⟩) (fun x => ks.length - x.1) ?_ (⟨0, Nat.zero_le _⟩) ?_
  · rintro ⟨i, hi⟩ f
    obtain ⟨q, h_q⟩ : ∃ q, decide ((i : Int) < (ks.length : Int)) = q := ⟨_, rfl⟩
    change VOk _ _ _ _ _
    refine vseq ?_
    refine vseq ?_
    apply vrp
    · apply VE.cons
      · exact ev_move rfl (gn rfl)
      simp only [nm, seval]
      apply VE.cons
      · first | exact ev_field rfl (gn rfl) rfl Tryd.underlying24 rfl Tryd.sizeOf22 | exact ev_fieldx rfl (gn rfl) rfl Tryd.underlying24 rfl Tryd.sizeOf22
      simp only [nm, seval]
      apply VE.cons
      · first | exact ev_load1 rfl (gn rfl) rfl rfl Tryd.underlying22 rfl rfl | exact ev_loadx1 rfl (gn rfl) rfl Tryd.underlying22 rfl (by assumption)
      simp only [nm, seval]
      apply VE.cons
      · exact ev_len rfl (gn rfl) rfl Tryd.underlying22 (rdg_arg hv)
      simp only [nm, seval]
      apply VE.cons
      · exact ev_lss rfl (gn rfl) rfl rfl h_q
      simp only [nm, seval]
      exact VE.nil _
    · kernel_rfl
    change VOk _ _ _ _ _
    cases q
    · refine vcond_f rfl ?_
      have hge : ks.length ≤ i := by have := of_decide_eq_false h_q; omega
      have hie : i = ks.length := by omega
      subst hie
      refine vexit ?_
      change VOk _ _ _ _ _
      refine vseq ?_
      apply vrp
      · apply VE.cons
        · exact ev_loada rfl (gn rfl) rfl rfl Tryd.underlying29 rfl Tryd.sizeOf29 rfl
        simp only [nm, seval]
        apply VE.cons
        · first | exact ev_storeR (vl := [.v (.int .i64 t), .d 9, .v (.slice none 0 0)]) [3, 9] rfl (gn rfl) rfl rfl rfl Tryd.sizeOf29 rfl (fun ρ S w' _ hR => ⟨agg_cells _, by have hh := row_cells (id := 9) hR (by simp) rfl; simp only [SV.cs, SV.c, List.all_cons, List.all_nil, hh.2]; rfl⟩) rfl (by simp) | exact ev_storeR (vl := [.v (.int .i64 t), .d 9, .d 900]) [2, 9, 900] rfl (gn rfl) rfl rfl rfl Tryd.sizeOf29 rfl (fun ρ S w' _ hR => ⟨agg_cells _, by have hh := row_cells (id := 9) hR (by simp) rfl; have hh2 := row_cells (id := 900) hR (by simp) rfl; simp only [SV.cs, SV.c, List.all_cons, List.all_nil, hh.2, hh2.2]; rfl⟩) rfl (by simp)
        simp only [nm, seval]
        exact VE.nil _
      · kernel_rfl
      change VOk _ _ _ _ _
      refine vret ?_
      refine post_ret (res1 Tryd.results11 (rv_cella rfl rfl Tryd.underlying29 rfl Tryd.sizeOf29 rfl)) ?_
      intro ρ w' hr
      exact ⟨_, rfl, by have := node_of (t := t) (b := b) (ks := ks) 9 900 hr rfl (by simp [memOf]); simpa [SV.c, SV.cs] using this, hr.1⟩
    · refine vcond_t rfl ?_
      have hlt : i < ks.length := by have := of_decide_eq_true h_q; omega
      obtain ⟨kk, hk⟩ := get_some hlt
      obtain ⟨x, hx, hdn⟩ := RNs_get hn hk
      obtain ⟨x0, x1, x2, rfl⟩ := list3 (RN_len hdn)
      refine vskip ?_
      change VOk _ _ _ _ _
      refine vseq ?_
      refine vblock ?_
      apply vrd (by kernel_rfl)
      · apply VE.cons
        · first | exact ev_field rfl (gn rfl) rfl Tryd.underlying29 rfl Tryd.sizeOf27 | exact ev_fieldx rfl (gn rfl) rfl Tryd.underlying29 rfl Tryd.sizeOf27
        simp only [nm, seval]
        apply VE.cons
        · first | exact ev_load1 rfl (gn rfl) rfl rfl Tryd.underlying27 rfl rfl | exact ev_loadx1 rfl (gn rfl) rfl Tryd.underlying27 rfl (by assumption)
        simp only [nm, seval]
        apply VE.cons
        · first | exact ev_field rfl (gn rfl) rfl Tryd.underlying24 rfl Tryd.sizeOf22 | exact ev_fieldx rfl (gn rfl) rfl Tryd.underlying24 rfl Tryd.sizeOf22
        simp only [nm, seval]
        apply VE.cons
        · first | exact ev_load1 rfl (gn rfl) rfl rfl Tryd.underlying22 rfl rfl | exact ev_loadx1 rfl (gn rfl) rfl Tryd.underlying22 rfl (by assumption)
        simp only [nm, seval]
        apply VE.cons
        · exact ev_move rfl (gn rfl)
        simp only [nm, seval]
        apply VE.cons
        · exact ev_idx (k := i) rfl (gn rfl) rfl rfl Tryd.underlying22 Tryd.sizeOf24 (rdg_arg hv) (hlt) (by decide)
        simp only [nm, seval]
        apply VE.cons
        · exact ev_loadp rfl (gn rfl) rfl Tryd.underlying24 rfl Tryd.sizeOf24 (rdg_arg hv) (hx) rfl (by decide)
        simp only [nm, seval]
        apply VE.cons
        · exact ev_calld (D := datN kk) [] rfl rfl (gn rfl) rfl (en_of Tryd.func11 (by kernel_rfl) rfl) (fun ρ S w' hb _ => hih kk (List.mem_of_getElem? hk) _ w' _ (RN_bw hb hdn))
        simp only [nm, seval]
        apply VE.cons
        · exact ev_buildsl1 (n := 3) (l := [.fn (cellV 0) (.d 25), .fn (cellV 1) (.d 25), .fn (cellV 2) (.d 25)]) [25] rfl rfl (gn rfl) rfl (fun ρ S w' hR => by obtain ⟨c, h1, h2⟩ := datN_get (id := 25) hR (by simp) rfl; exact (fn3 h1 (DN_len h2)).1) rfl rfl bs29
        simp only [nm, seval]
        apply VE.cons
        · exact ev_appendD (id := 900) (ys := 26) (n := i) (k := 1) (k' := 1) (size := 3) (datNs (ks.take (i + 1))) [900, 26, 25] rfl rfl (gn rfl) rfl rfl rfl rfl rfl (Nat.le_refl _) Tryd.underlying27 el29 (by decide) (by simp only [maxLen]; omega) (by omega) (by simp) (by simp) (fun ρ S w' hR => by obtain ⟨c, h1, h2⟩ := datN_get (id := 25) hR (by simp) rfl; exact (fn3 h1 (DN_len h2)).2 ▸ DN_one h2) (fun ρ S w' xs hb hR hxs => by obtain ⟨c, h1, h2⟩ := datN_get (id := 25) hR (by simp) rfl; rw [(fn3 h1 (DN_len h2)).2, take_get hk]; exact DNs_snoc (DN_sub (fun k hk => ⟨25, by simp, rfl, hk⟩) h2) (DNs_sub (fun k hk => ⟨900, by simp, rfl, hk⟩) hxs))
        simp only [nm, seval]
        apply VE.cons
        · first | exact ev_field rfl (gn rfl) rfl Tryd.underlying29 rfl Tryd.sizeOf27 | exact ev_fieldx rfl (gn rfl) rfl Tryd.underlying29 rfl Tryd.sizeOf27
        simp only [nm, seval]
        apply VE.cons
        · exact ev_storeR (vl := [.d 27]) [3, 27] rfl (gn rfl) rfl rfl rfl Tryd.sizeOf27 rfl (fun ρ S w' _ hR => by have hh := row_cells (id := 27) hR (by simp) rfl; exact ⟨hh.1, by simp [SV.cs, SV.c, hh.2]⟩) rfl (by simp)
        simp only [nm, seval]
        exact VE.nil _
      · kernel_rfl
      change VOk _ _ _ _ _
      apply vrp
      · apply VE.cons
        · exact ev_move rfl (gn rfl)
        simp only [nm, seval]
        apply VE.cons
        · exact ev_add (c := ((i + 1 : Nat) : Int)) rfl (gn rfl) rfl rfl (by rw [i64w (by omega) (by omega)]; omega)
        simp only [nm, seval]
        apply VE.cons
        · exact ev_assign rfl (gn rfl)
        simp only [nm, seval]
        exact VE.nil _
      · kernel_rfl
      refine ⟨⟨i + 1, by omega⟩, by show ks.length - (i + 1) < ks.length - i; omega, ?_⟩
      exact (weaker_forget (fun i => i == 1 || i == 2 || i == 3 || i == 4) [26, 25]).trans2 (fun f => weaker_ren 27 900 (by decide) rfl)
  · refine (weaker_forget (fun i => i == 1 || i == 2 || i == 3 || i == 4) []).trans2 (fun f => ?_)
    refine (weaker_name 900 3 29 (datNs []) (fun w => by trivial) (m' := [(3, .cells [.v (.int .i64 t), .d 9, .d 900] 29), (9, .row b.length 1 5 (.exact (b.map b8))), (2, .cells [.v (.int .i64 0), .v (.slice none 0 0), .v (.slice none 0 0)] 29), (1, .cells [.v (.int .i64 t), .v (.string (bstr b)), .v kv] 24)]) rfl rfl (fun ρ _ => rfl) (fun ρ hv => ?_))
    simp [memSim, memDel, Blk.sim, SV.cs, SV.c, hv, nilV]
theorem from_step {t : Int} {b : List Nat} {ks : List Tr} {bv kv : Value} {cs : List Value} {S : Nat → Prop} (w : World) (hih : ∀ k ∈ ks, FromOK k) (_hbl : b.length ≤ 1048576) (hbv : SlAt w bv b.length 1 (b.map b8) S) (hv : SlAt w kv ks.length 3 cs S) (hn : DNs w S ks cs) (hks : ks.length ≤ 1048576) : Calls Tryd.prog 16 #[.agg #[.int .i64 t, bv, kv]] w fun e w' => ∃ v, e = .returned v ∧ RetD w w' v (datR (.mk t b ks)) ∧ Bw w w' := by
  go_enter Tryd.func16, Tryd.ntmps16
  refine ve_go ?_
  simp only [List.map_cons, List.map_nil]
  refine vseq ?_
  apply vrp
  · apply VE.cons
    · exact ev_box rfl rfl (gn rfl) rfl
    simp only [nm, seval]
    apply VE.cons
    · exact ev_alloc rfl rfl (gn rfl) Tryd.zeroValue24
    simp only [nm, seval]
    exact VE.nil _
  · kernel_rfl
  change VOk _ _ _ _ _
  refine vseq ?_
  apply vrp
  · apply VE.cons
    · first | exact ev_field rfl (gn rfl) rfl Tryd.underlying29 rfl Tryd.sizeOf3 | exact ev_fieldx rfl (gn rfl) rfl Tryd.underlying29 rfl Tryd.sizeOf3
    simp only [nm, seval]
    apply VE.cons
    · first | exact ev_load1 rfl (gn rfl) rfl rfl Tryd.underlying3 rfl rfl | exact ev_loadx1 rfl (gn rfl) rfl Tryd.underlying3 rfl (by assumption)
    simp only [nm, seval]
    apply VE.cons
    · first | exact ev_field rfl (gn rfl) rfl Tryd.underlying29 rfl Tryd.sizeOf26 | exact ev_fieldx rfl (gn rfl) rfl Tryd.underlying29 rfl Tryd.sizeOf26
    simp only [nm, seval]
    apply VE.cons
    · first | exact ev_load1 rfl (gn rfl) rfl rfl Tryd.underlying26 rfl rfl | exact ev_loadx1 rfl (gn rfl) rfl Tryd.underlying26 rfl (by assumption)
    simp only [nm, seval]
    apply VE.cons
    · exact ev_convb (bs := b) rfl (gn rfl) rfl Tryd.underlying26 Tryd.underlying5 Tryd.underlying9 (rdg_arg hbv)
    simp only [nm, seval]
    apply VE.cons
    · exact ev_build rfl (gn rfl) rfl (built24 t (bstr b))
    simp only [nm, seval]
    apply VE.cons
    · exact ev_alloc rfl rfl (gn rfl) Tryd.zeroValue24
    simp only [nm, seval]
    apply VE.cons
    · first | exact ev_store rfl (gn rfl) rfl rfl rfl Tryd.sizeOf24 rfl (by simp) rfl | exact ev_storeR (vl := [.v (.int .i64 t), .v (.string (bstr b)), .d 900]) [2, 900] rfl (gn rfl) rfl rfl rfl Tryd.sizeOf24 rfl (fun ρ S w' _ hR => ⟨agg_cells _, by have hh2 := row_cells (id := 900) hR (by simp) rfl; simp only [SV.cs, SV.c, List.all_cons, List.all_nil, hh2.2]; rfl⟩) rfl (by simp)
    simp only [nm, seval]
    exact VE.nil _
  · kernel_rfl
  change VOk _ _ _ _ _
  refine vseq ?_
  refine vseq ?_
  apply vrp
  · apply VE.cons
    · exact ev_assign rfl (gn rfl)
    simp only [nm, seval]
    exact VE.nil _
  · kernel_rfl
  change VOk _ _ _ _ _
  refine vblock ?_
  refine vloop_w (α := {i : Nat // i ≤ ks.length}) (fun (x : {i : Nat // i ≤ ks.length}) f => ⟨[.v (f 0), .p 1 0, .p 2 0, .p 3 0, .v (.int .i64 (x.1 : Nat)), .v (f 5), .v (f 6), .v (f 7), .v (f 8), .v (f 9), .v (f 10), .v (f 11), .v (f 12), .v (f 13), .v (f 14), .v (f 15), .v (f 16), .v (f 17), .v (f 18), .v (f 19), .v (f 20), .v (f 21), .v (f 22), .v (f 23), .v (f 24), .v (f 25), .v (f 26), .v (f 27), .v (f 28), .v (f 29)], memOf [(900, .row x.1 3 24 (datRs (ks.take x.1))), (3, .cells [.v (.int .i64 t), .v (.string (bstr b)), .d 900] 24), (2, .cells [.v (.int .i64 0), .v (.string (ByteArray.mk #[])), .v (.slice none 0 0)] 24), (1, .cells [.v (.int .i64 t), .v bv, .v kv] 29)]⟩) (fun x => ks.length - x.1) ?_ (⟨0, Nat.zero_le _⟩) ?_
  · rintro ⟨i, hi⟩ f
    obtain ⟨q, h_q⟩ : ∃ q, decide ((i : Int) < (ks.length : Int)) = q := ⟨_, rfl⟩
    change VOk _ _ _ _ _
    refine vseq ?_
    refine vseq ?_
    apply vrp
    · apply VE.cons
      · exact ev_move rfl (gn rfl)
      simp only [nm, seval]
      apply VE.cons
      · first | exact ev_field rfl (gn rfl) rfl Tryd.underlying29 rfl Tryd.sizeOf27 | exact ev_fieldx rfl (gn rfl) rfl Tryd.underlying29 rfl Tryd.sizeOf27
      simp only [nm, seval]
      apply VE.cons
      · first | exact ev_load1 rfl (gn rfl) rfl rfl Tryd.underlying27 rfl rfl | exact ev_loadx1 rfl (gn rfl) rfl Tryd.underlying27 rfl (by assumption)
      simp only [nm, seval]
      apply VE.cons
      · exact ev_len rfl (gn rfl) rfl Tryd.underlying27 (rdg_arg hv)
      simp only [nm, seval]
      apply VE.cons
      · exact ev_lss rfl (gn rfl) rfl rfl h_q
      simp only [nm, seval]
      exact VE.nil _
    · kernel_rfl
    change VOk _ _ _ _ _
    cases q
    · refine vcond_f rfl ?_
      have hge : ks.length ≤ i := by have := of_decide_eq_false h_q; omega
      have hie : i = ks.length := by omega
      subst hie
      refine vexit ?_
      change VOk _ _ _ _ _
      refine vseq ?_
      apply vrp
      · apply VE.cons
        · exact ev_loada rfl (gn rfl) rfl rfl Tryd.underlying24 rfl Tryd.sizeOf24 rfl
        simp only [nm, seval]
        apply VE.cons
        · first | exact ev_store rfl (gn rfl) rfl rfl rfl Tryd.sizeOf24 rfl (by simp) rfl | exact ev_storeR (vl := [.v (.int .i64 t), .v (.string (bstr b)), .d 900]) [2, 900] rfl (gn rfl) rfl rfl rfl Tryd.sizeOf24 rfl (fun ρ S w' _ hR => ⟨agg_cells _, by have hh2 := row_cells (id := 900) hR (by simp) rfl; simp only [SV.cs, SV.c, List.all_cons, List.all_nil, hh2.2]; rfl⟩) rfl (by simp)
        simp only [nm, seval]
        exact VE.nil _
      · kernel_rfl
      change VOk _ _ _ _ _
      refine vret ?_
      refine post_ret (res1 Tryd.results16 (rv_cella rfl rfl Tryd.underlying24 rfl Tryd.sizeOf24 rfl)) ?_
      intro ρ w' hr
      exact ⟨_, rfl, by have := rnode_of (t := t) (b := b) (ks := ks) 900 hr (by simp [memOf]); simpa [SV.c, SV.cs] using this, hr.1⟩
    · refine vcond_t rfl ?_
      have hlt : i < ks.length := by have := of_decide_eq_true h_q; omega
      obtain ⟨kk, hk⟩ := get_some hlt
      obtain ⟨x, hx, hdn⟩ := DNs_get hn hk
      obtain ⟨x0, x1, x2, rfl⟩ := list3 (DN_len hdn)
      refine vskip ?_
      change VOk _ _ _ _ _
      refine vseq ?_
      refine vblock ?_
      apply vrd (by kernel_rfl)
      · apply VE.cons
        · first | exact ev_field rfl (gn rfl) rfl Tryd.underlying24 rfl Tryd.sizeOf22 | exact ev_fieldx rfl (gn rfl) rfl Tryd.underlying24 rfl Tryd.sizeOf22
        simp only [nm, seval]
        apply VE.cons
        · first | exact ev_load1 rfl (gn rfl) rfl rfl Tryd.underlying22 rfl rfl | exact ev_loadx1 rfl (gn rfl) rfl Tryd.underlying22 rfl (by assumption)
        simp only [nm, seval]
        apply VE.cons
        · first | exact ev_field rfl (gn rfl) rfl Tryd.underlying29 rfl Tryd.sizeOf27 | exact ev_fieldx rfl (gn rfl) rfl Tryd.underlying29 rfl Tryd.sizeOf27
        simp only [nm, seval]
        apply VE.cons
        · first | exact ev_load1 rfl (gn rfl) rfl rfl Tryd.underlying27 rfl rfl | exact ev_loadx1 rfl (gn rfl) rfl Tryd.underlying27 rfl (by assumption)
        simp only [nm, seval]
        apply VE.cons
        · exact ev_move rfl (gn rfl)
        simp only [nm, seval]
        apply VE.cons
        · exact ev_idx (k := i) rfl (gn rfl) rfl rfl Tryd.underlying27 Tryd.sizeOf29 (rdg_arg hv) (hlt) (by decide)
        simp only [nm, seval]
        apply VE.cons
        · exact ev_loadp rfl (gn rfl) rfl Tryd.underlying29 rfl Tryd.sizeOf29 (rdg_arg hv) (hx) rfl (by decide)
        simp only [nm, seval]
        apply VE.cons
        · exact ev_calld (D := datR kk) [] rfl rfl (gn rfl) rfl (en_of Tryd.func16 (by kernel_rfl) rfl) (fun ρ S w' hb _ => hih kk (List.mem_of_getElem? hk) _ w' _ (DN_bw hb hdn))
        simp only [nm, seval]
        apply VE.cons
        · exact ev_buildsl1 (n := 3) (l := [.fn (cellV 0) (.d 25), .fn (cellV 1) (.d 25), .fn (cellV 2) (.d 25)]) [25] rfl rfl (gn rfl) rfl (fun ρ S w' hR => by obtain ⟨c, h1, h2⟩ := datR_get (id := 25) hR (by simp) rfl; exact (fn3 h1 (RN_len h2)).1) rfl rfl bs24
        simp only [nm, seval]
        apply VE.cons
        · exact ev_appendD (id := 900) (ys := 26) (n := i) (k := 1) (k' := 1) (size := 3) (datRs (ks.take (i + 1))) [900, 26, 25] rfl rfl (gn rfl) rfl rfl rfl rfl rfl (Nat.le_refl _) Tryd.underlying22 el24 (by decide) (by simp only [maxLen]; omega) (by omega) (by simp) (by simp) (fun ρ S w' hR => by obtain ⟨c, h1, h2⟩ := datR_get (id := 25) hR (by simp) rfl; exact (fn3 h1 (RN_len h2)).2 ▸ RN_one h2) (fun ρ S w' xs hb hR hxs => by obtain ⟨c, h1, h2⟩ := datR_get (id := 25) hR (by simp) rfl; rw [(fn3 h1 (RN_len h2)).2, take_get hk]; exact RNs_snoc (RN_sub (fun k hk => ⟨25, by simp, rfl, hk⟩) h2) (RNs_sub (fun k hk => ⟨900, by simp, rfl, hk⟩) hxs))
        simp only [nm, seval]
        apply VE.cons
        · first | exact ev_field rfl (gn rfl) rfl Tryd.underlying24 rfl Tryd.sizeOf22 | exact ev_fieldx rfl (gn rfl) rfl Tryd.underlying24 rfl Tryd.sizeOf22
        simp only [nm, seval]
        apply VE.cons
        · exact ev_storeR (vl := [.d 27]) [3, 27] rfl (gn rfl) rfl rfl rfl Tryd.sizeOf22 rfl (fun ρ S w' _ hR => by have hh := row_cells (id := 27) hR (by simp) rfl; exact ⟨hh.1, by simp [SV.cs, SV.c, hh.2]⟩) rfl (by simp)
        simp only [nm, seval]
        exact VE.nil _
      · kernel_rfl
      change VOk _ _ _ _ _
      apply vrp
      · apply VE.cons
        · exact ev_move rfl (gn rfl)
        simp only [nm, seval]
        apply VE.cons
        · exact ev_add (c := ((i + 1 : Nat) : Int)) rfl (gn rfl) rfl rfl (by rw [i64w (by omega) (by omega)]; omega)
        simp only [nm, seval]
        apply VE.cons
        · exact ev_assign rfl (gn rfl)
        simp only [nm, seval]
        exact VE.nil _
      · kernel_rfl
      refine ⟨⟨i + 1, by omega⟩, by show ks.length - (i + 1) < ks.length - i; omega, ?_⟩
      exact (weaker_forget (fun i => i == 1 || i == 2 || i == 3 || i == 4) [26, 25]).trans2 (fun f => weaker_ren 27 900 (by decide) rfl)
  · refine (weaker_forget (fun i => i == 1 || i == 2 || i == 3 || i == 4) []).trans2 (fun f => ?_)
    refine (weaker_name 900 3 24 (datRs []) (fun w => by trivial) (m' := [(3, .cells [.v (.int .i64 t), .v (.string (bstr b)), .d 900] 24), (2, .cells [.v (.int .i64 0), .v (.string (ByteArray.mk #[])), .v (.slice none 0 0)] 24), (1, .cells [.v (.int .i64 t), .v bv, .v kv] 29)]) rfl rfl (fun ρ _ => rfl) (fun ρ hv => ?_))
    simp [memSim, memDel, Blk.sim, SV.cs, SV.c, hv, nilV]
mutual
theorem to_all : ∀ t : Tr, t.ok → ToOK t
  | .mk t b ks, h => fun xs w S hx => by
    simp only [Tr.ok] at h
    simp only [RN] at hx
    obtain ⟨kv, cs, rfl, h3, h4⟩ := hx
    exact to_step w (tos_all ks h.2.2.2) h.1 h.2.1 h3 h4 h.2.2.1
theorem tos_all : ∀ ks : List Tr, oks ks → ∀ k ∈ ks, ToOK k
  | [], _ => fun k hk => by cases hk
  | k0 :: ks, h => fun k hk => by
    simp only [oks] at h
    rcases List.mem_cons.1 hk with e | hk
    · exact e ▸ to_all k0 h.1
    · exact tos_all ks h.2 k hk
end
mutual
theorem from_all : ∀ t : Tr, t.ok → FromOK t
  | .mk t b ks, h => fun xs w S hx => by
    simp only [Tr.ok] at h
    simp only [DN] at hx
    obtain ⟨bv, kv, cs, rfl, h2, h3, h4⟩ := hx
    exact from_step w (froms_all ks h.2.2.2) h.2.1 h2 h3 h4 h.2.2.1
theorem froms_all : ∀ ks : List Tr, oks ks → ∀ k ∈ ks, FromOK k
  | [], _ => fun k hk => by cases hk
  | k0 :: ks, h => fun k hk => by
    simp only [oks] at h
    rcases List.mem_cons.1 hk with e | hk
    · exact e ▸ from_all k0 h.1
    · exact froms_all ks h.2 k hk
end
end Go.Proofs.YtmgmiiongleaeaaDoor
