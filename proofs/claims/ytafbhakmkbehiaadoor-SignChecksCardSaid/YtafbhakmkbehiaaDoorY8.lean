import Derived.Test.YtafbhakmkbehiaaDoorY7
section
namespace Go.Proofs.YtafbhakmkbehiaaDoor
open Go.RowKit Go.Vx TollMont
open Go.Toll (Gw)
open TollEc (F pp cb Jp Pt smul add base nn neg)
open TollSha (sha hmac)
set_option maxHeartbeats 4000000
set_option maxRecDepth 100000
def bl (n : Nat) : List Nat := [byt n 0, byt n 1, byt n 2, byt n 3, byt n 4, byt n 5, byt n 6, byt n 7, byt n 8, byt n 9, byt n 10, byt n 11, byt n 12, byt n 13, byt n 14, byt n 15, byt n 16, byt n 17, byt n 18, byt n 19, byt n 20, byt n 21, byt n 22, byt n 23, byt n 24, byt n 25, byt n 26, byt n 27, byt n 28, byt n 29, byt n 30, byt n 31]
theorem B32_bl (n : Nat) : B32 n = .agg ((bl n).map b8).toArray := rfl
theorem bl_len (n : Nat) : (bl n).length = 32 := rfl
theorem bl_lt (n : Nat) : ∀ x ∈ bl n, x < 256 := fun x hx => by
  simp only [bl, List.mem_cons, List.not_mem_nil, or_false] at hx
  rcases hx with rfl | rfl | rfl | rfl | rfl | rfl | rfl | rfl | rfl | rfl | rfl | rfl | rfl | rfl | rfl | rfl | rfl | rfl | rfl | rfl | rfl | rfl | rfl | rfl | rfl | rfl | rfl | rfl | rfl | rfl | rfl | rfl <;> exact Nat.mod_lt _ (by decide)
theorem byt_div {n i : Nat} (hi : i < 32) : byt n i = n / 256 ^ (31 - i) % 256 := by
  unfold byt lim
  obtain ⟨q, r, hr, rfl⟩ : ∃ q r, r < 8 ∧ i = 8 * q + r := ⟨i / 8, i % 8, Nat.mod_lt _ (by decide), by omega⟩
  have hq : q < 4 := by omega
  rw [show (8 * q + r) / 8 = q by omega, show (8 * q + r) % 8 = r by omega]
  have e0 : (W : Nat) = 256 ^ 8 := by decide
  rw [e0, ← Nat.pow_mul, show (2 : Nat) ^ (56 - 8 * r) = 256 ^ (7 - r) by rw [show (256 : Nat) = 2 ^ 8 by decide, ← Nat.pow_mul]; congr 1; omega]
  have e1 : (256 : Nat) ^ 8 = 256 ^ (7 - r) * (256 * 256 ^ r) := by rw [← Nat.pow_succ', ← Nat.pow_add]; congr 1; omega
  rw [e1, Nat.mod_mul_right_div_self, Nat.mod_mul_right_mod, Nat.div_div_eq_div_mul, ← Nat.pow_add, show 8 * (3 - q) + (7 - r) = 31 - (8 * q + r) by omega]
theorem bl_beV {l : List Nat} (hl : l.length = 32) (h8 : ∀ x ∈ l, x < 256) : bl (TollBy.beV l 0) = l := by
  apply List.ext_getElem?
  intro i
  by_cases hi : i < 32
  · have h1 := TollBy.beV_get l h8 i (by omega)
    rw [hl] at h1
    have h2 : (bl (TollBy.beV l 0))[i]? = some (byt (TollBy.beV l 0) i) := by
      have h3 : bl (TollBy.beV l 0) = (List.range 32).map (byt (TollBy.beV l 0)) := rfl
      rw [h3, List.getElem?_map, List.getElem?_range hi]; rfl
    rw [h2, byt_div hi, h1, List.getD_eq_getElem?_getD, List.getElem?_eq_getElem (by omega)]; rfl
  · rw [List.getElem?_eq_none (by rw [bl_len]; omega), List.getElem?_eq_none (by omega)]
theorem beV_R {l : List Nat} (hl : l.length = 32) (h8 : ∀ x ∈ l, x < 256) : TollBy.beV l 0 < R := by
  have := TollBy.beV_lt l h8
  rw [hl] at this
  exact Nat.lt_of_lt_of_le this (by decide)
theorem ev_bxL {P : Program} {w0 : World} {ops : Array Oper} {o : Oper} {s : VS} {ty : TypeId} {x : Operand} {v : Value} {l : List Nat} {id : Nat} (hd : o.dst = some id) (ho : o.op = .box ty x) (hgd : Want ops o s) (hx : svEval s x = .v v) (hv : v = .agg (l.map b8).toArray) : Ev P ops w0 o s ⟨.p id 0, [(id, .arr (l.map b8) ty)], [], [id], []⟩ :=
  ev_boxr hd ho hgd hx (by rw [hv]; rfl)
theorem ev_stL {P : Program} {w0 : World} {ops : Array Oper} {o : Oper} {s : VS} {ty : TypeId} {x y : Operand} {id n : Nat} {l0 : List Value} {bt : TypeId} {l : List Nat} (ho : o.op = .store ty x y) (hgd : Want ops o s) (hx : svEval s x = .p id 0) (hm : s.mem id = some (.arr l0 bt)) (hy : svEval s y = .v (.agg (l.map b8).toArray))
    (hs : ∀ w, (Go.sizeOf ty).run P w = .ok n w) (h0 : l0.length = n) (hl : l.length = n) : Ev P ops w0 o s ⟨.v undef, [(id, .arr (l.map b8) bt)], [id], [], [id]⟩ :=
  ev_storer ho hgd hx hm hy hs (by simp [Value.cells, hl]) (by omega) (by show (l.map b8).all _ = true; exact b8_all _) (by rw [List.take_zero, List.nil_append, List.drop_of_length_le (by omega), List.append_nil]; simp [Value.cells])
theorem ev_ldL {P : Program} {w0 : World} {ops : Array Oper} {o : Oper} {s : VS} {ty : TypeId} {x : Operand} {id n : Nat} {bt : TypeId} {d : TypeDesc} {l : List Nat} (ho : o.op = .load ty x) (hgd : Want ops o s) (hx : svEval s x = .p id 0) (hm : s.mem id = some (.arr (l.map b8) bt))
    (hu : P.underlying ty = some d) (hd : isAggD d = true) (hs : ∀ w, (Go.sizeOf ty).run P w = .ok n w) (hl : l.length = n) : Ev P ops w0 o s ⟨.v (.agg (l.map b8).toArray), [], [], [], [id]⟩ :=
  ev_loadr ho hgd hx hm hu hd hs (List.take_of_length_le (by simp [hl])) (by simp [hl])
theorem ev_zb {P : Program} {w0 : World} {ops : Array Oper} {o : Oper} {s : VS} {ty : TypeId} {l : List Nat} (ho : o.op = .build ty #[]) (hgd : Want ops o s) (h : P.built ty [] = some (l.map b8).toArray) : Ev P ops w0 o s ⟨.v (.agg (l.map b8).toArray), [], [], [], []⟩ :=
  ev_build ho hgd rfl h
theorem row_get {base : Nat} {ρ : Nat → Nm} {S : Nat → Nat → Prop} {w : World} {m : Mem} {rd : List Nat} {id n size : Nat} {ty : TypeId} {l : List Value} (hR : RelOn base ρ S w (restr rd m)) (hid : id ∈ rd) (hm : m id = some (.row n size ty (.exact l))) : SlAt w (SV.c ρ (.d id)) n size l (fun k => k = (ρ id).g) := by
  obtain ⟨xs, x1, x2, x3⟩ := relon_get hR hm hid
  have x2' : xs = l := x2
  subst x2'
  exact row_sl x3 x1
theorem rdgf_rowL {w0 : World} {m : Mem} {rd : List Nat} {id n : Nat} {e : TypeId} {l : List Nat} (hid : id ∈ rd) (hm : m id = some (.row n 1 e (.exact (l.map b8)))) (hn : l.length = n) : RdgF w0 m rd (.d id) l.length (l.map b8) := by rw [hn]; exact rdgf_row hid hm
theorem rdgf_arrL {w0 : World} {m : Mem} {rd : List Nat} {id len cap : Nat} {l : List Nat} {ty : TypeId} (hid : id ∈ rd) (hm : m id = some (.arr (l.map b8) ty)) (hn : l.length = len) (hc : len ≤ cap) : RdgF w0 m rd (.s id 0 len cap) l.length (l.map b8) := by
  rw [hn]; exact rdgf_arr hid hm (by rw [List.length_map]; exact hn) hc
theorem one_s {ρ : Nat → Nm} {id off len cap : Nat} : (SV.c ρ (.s id off len cap)).cells.toList = SV.cs ρ [.s id off len cap] := rfl
theorem cvi0 (w : World) : (convert 3 5 (.int .i64 0)).run Tryd.prog w = .ok (.int .u8 0) w := by go_simp; rfl
theorem cvi1 (w : World) : (convert 3 5 (.int .i64 1)).run Tryd.prog w = .ok (.int .u8 1) w := by go_simp; rfl
theorem zero32 : Tryd.prog.built 23 [] = some #[.int .u8 0, .int .u8 0, .int .u8 0, .int .u8 0, .int .u8 0, .int .u8 0, .int .u8 0, .int .u8 0, .int .u8 0, .int .u8 0, .int .u8 0, .int .u8 0, .int .u8 0, .int .u8 0, .int .u8 0, .int .u8 0, .int .u8 0, .int .u8 0, .int .u8 0, .int .u8 0, .int .u8 0, .int .u8 0, .int .u8 0, .int .u8 0, .int .u8 0, .int .u8 0, .int .u8 0, .int .u8 0, .int .u8 0, .int .u8 0, .int .u8 0, .int .u8 0] := by kernel_rfl
def nK1 (d h : Nat) : List Nat := hmac (List.replicate 32 0) [List.replicate 32 1, [0], bl d, bl h].flatten
def nV1 (d h : Nat) : List Nat := hmac (nK1 d h) [List.replicate 32 1].flatten
def nK2 (d h : Nat) : List Nat := hmac (nK1 d h) [nV1 d h, [1], bl d, bl h].flatten
def nV2 (d h : Nat) : List Nat := hmac (nK2 d h) [nV1 d h].flatten
def nV3 (d h : Nat) : List Nat := hmac (nK2 d h) [nV2 d h].flatten
theorem Nonce_ok {d h k : Nat} (_hd : d < R) (hh : h < R) (hk : k < R) (w : World) (hL : Laid w) (hK : LaidK w) (hH : LaidH w) (hb1 : 6 < w.heap.size) (hn : nV3 d (h % nn) = bl k) (hs : sec k = true) : Calls Tryd.prog 50 #[B32 d, B32 h] w fun e w' => e = .returned (B32 k) ∧ Bw w w' := by
  obtain ⟨D, hD⟩ : ∃ x, bl d = x := ⟨_, rfl⟩
  have hDl : D.length = 32 := by rw [← hD]; rfl
  have hD8 : ∀ x ∈ D, x < 256 := by rw [← hD]; exact bl_lt d
  obtain ⟨M, hM⟩ : ∃ x, bl (h % nn) = x := ⟨_, rfl⟩
  have hMl : M.length = 32 := by rw [← hM]; rfl
  have hM8 : ∀ x ∈ M, x < 256 := by rw [← hM]; exact bl_lt _
  obtain ⟨Z, hZ⟩ : ∃ x, (List.replicate 32 0 : List Nat) = x := ⟨_, rfl⟩
  have hZl : Z.length = 32 := by rw [← hZ]; simp
  have hZ8 : ∀ x ∈ Z, x < 256 := by rw [← hZ]; decide
  obtain ⟨O, hO⟩ : ∃ x, (List.replicate 32 1 : List Nat) = x := ⟨_, rfl⟩
  have hOl : O.length = 32 := by rw [← hO]; simp
  have hO8 : ∀ x ∈ O, x < 256 := by rw [← hO]; decide
  obtain ⟨K1, hK1⟩ : ∃ x, hmac Z [O, [0], D, M].flatten = x := ⟨_, rfl⟩
  have hK1l : K1.length = 32 := by rw [← hK1]; exact hmac_len _ _
  have hK18 : ∀ x ∈ K1, x < 256 := by rw [← hK1]; exact hmac_lt _ _
  obtain ⟨V1, hV1⟩ : ∃ x, hmac K1 [O].flatten = x := ⟨_, rfl⟩
  have hV1l : V1.length = 32 := by rw [← hV1]; exact hmac_len _ _
  have hV18 : ∀ x ∈ V1, x < 256 := by rw [← hV1]; exact hmac_lt _ _
  obtain ⟨K2, hK2⟩ : ∃ x, hmac K1 [V1, [1], D, M].flatten = x := ⟨_, rfl⟩
  have hK2l : K2.length = 32 := by rw [← hK2]; exact hmac_len _ _
  have hK28 : ∀ x ∈ K2, x < 256 := by rw [← hK2]; exact hmac_lt _ _
  obtain ⟨V2, hV2⟩ : ∃ x, hmac K2 [V1].flatten = x := ⟨_, rfl⟩
  have hV2l : V2.length = 32 := by rw [← hV2]; exact hmac_len _ _
  have hV28 : ∀ x ∈ V2, x < 256 := by rw [← hV2]; exact hmac_lt _ _
  obtain ⟨V3, hV3⟩ : ∃ x, hmac K2 [V2].flatten = x := ⟨_, rfl⟩
  have hV3l : V3.length = 32 := by rw [← hV3]; exact hmac_len _ _
  have hV38 : ∀ x ∈ V3, x < 256 := by rw [← hV3]; exact hmac_lt _ _
  have hVk : V3 = bl k := by rw [← hn, ← hV3, ← hV2, ← hK2, ← hV1, ← hK1, ← hZ, ← hO, ← hD, ← hM]; rfl
  go_enter Tryd.func50, Tryd.ntmps50
  refine ve_go ?_
  simp only [List.map_cons, List.map_nil]
  refine vseq ?_
  apply vrp
  · apply VE.cons
    · exact ev_bxL (l := D) rfl rfl (gn rfl) rfl (by rw [← hD]; rfl)
    simp only [nmx, seval]
    apply VE.cons
    · exact ev_box rfl rfl (gn rfl) rfl
    simp only [nmx, seval]
    apply VE.cons
    · exact ev_allocr rfl rfl (gn rfl) Tryd.zeroValue23 rfl
    simp only [nmx, seval]
    exact VE.nil _
  · kernel_rfl
  change VOk _ _ _ _ _
  refine vseq ?_
  apply vrp
  · apply VE.cons
    · exact ev_calldt (D := datM nn) (ys := [N nn]) [] rfl rfl (gn rfl) rfl (en_of Tryd.func18 (by kernel_rfl) rfl) (fun ρ S w' hb hR => order_d w' (hL.bw hb))
    simp only [nmx, seval]
    apply VE.cons
    · exact ev_move rfl (gn rfl)
    simp only [nmx, seval]
    apply VE.cons
    · first | exact ev_extract rfl (gn rfl) rfl rfl | exact ev_extractt rfl (gn rfl) rfl rfl
    simp only [nmx, seval]
    apply VE.cons
    · first | exact ev_extract rfl (gn rfl) rfl rfl | exact ev_extractt rfl (gn rfl) rfl rfl
    simp only [nmx, seval]
    apply VE.cons
    · exact ev_alloc rfl rfl (gn rfl) Tryd.zeroValue50
    simp only [nmx, seval]
    apply VE.cons
    · exact ev_assign rfl (gn rfl)
    simp only [nmx, seval]
    apply VE.cons
    · exact ev_store rfl (gn rfl) rfl rfl rfl Tryd.sizeOf50 rfl (by simp) rfl
    simp only [nmx, seval]
    exact VE.nil _
  · kernel_rfl
  change VOk _ _ _ _ _
  refine vseq ?_
  apply vrp
  · apply VE.cons
    · exact ev_move rfl (gn rfl)
    simp only [nmx, seval]
    apply VE.cons
    · first | exact ev_load rfl (gn rfl) rfl rfl Tryd.underlying23 rfl Tryd.sizeOf23 rfl rfl | exact ev_loadx rfl (gn rfl) rfl Tryd.underlying23 rfl Tryd.sizeOf23 (by assumption) rfl | exact ev_loada rfl (gn rfl) rfl rfl Tryd.underlying23 rfl Tryd.sizeOf23 rfl
    simp only [nmx, seval]
    apply VE.cons
    · exact ev_call rfl (gn rfl) rfl (en_of Tryd.func20 (by kernel_rfl) rfl) (fun w' hw' => ofN h hh w')
    simp only [nmx, seval]
    apply VE.cons
    · exact ev_callp (v := N (h % nn)) [12] rfl (gn rfl) rfl (en_of Tryd.func23 (by kernel_rfl) rfl) (fun ρ S w' hb hR => by obtain ⟨g, e1, _, e3⟩ := relon_dat (id := 12) hR (by simp) rfl; have e1' : (ρ 12).val = ptr g := (by simpa using e1); have a := rest_ok mdn hh w' (datM_at e3); show Calls Tryd.prog 23 #[(ρ 12).val, N h] w' _; rw [e1']; exact a.mono fun _ _ q => ⟨q.1, q.2.b⟩)
    simp only [nmx, seval]
    apply VE.cons
    · exact ev_call (v := .agg (M.map b8).toArray) rfl (gn rfl) rfl (en_of Tryd.func22 (by kernel_rfl) rfl) (fun w' hw' => by have a := bytesN (h % nn) w'; rw [B32_bl, hM] at a; exact a)
    simp only [nmx, seval]
    apply VE.cons
    · exact ev_allocr rfl rfl (gn rfl) Tryd.zeroValue23 rfl
    simp only [nmx, seval]
    apply VE.cons
    · exact ev_stL (l := M) rfl (gn rfl) rfl rfl rfl Tryd.sizeOf23 (by simp) hMl
    simp only [nmx, seval]
    exact VE.nil _
  · kernel_rfl
  change VOk _ _ _ _ _
  refine vseq ?_
  apply vrp
  · apply VE.cons
    · exact ev_zb (l := Z) rfl (gn rfl) (by rw [← hZ]; exact zero32)
    simp only [nmx, seval]
    apply VE.cons
    · exact ev_buildslice rfl rfl (gn rfl) rfl (e := 5) (l := [.int .u8 1]) rfl (by decide) (fun _ => by kernel_rfl)
    simp only [nmx, seval]
    apply VE.cons
    · exact ev_callrow [21] rfl rfl (gn rfl) rfl (en_of Tryd.func64 (by kernel_rfl) rfl) (n := 32) (size := 1) (l := List.replicate 32 (.int .u8 1)) (by simp) (fun ρ S w' hb hR => rep_ok w' (row_get (id := 21) hR (by simp) rfl))
    simp only [nmx, seval]
    apply VE.cons
    · exact ev_arrs rfl (gn rfl) rfl Tryd.underlying23 (rdg_row rfl) (by decide)
    simp only [nmx, seval]
    apply VE.cons
    · exact ev_loadarr (vs := O.map b8) rfl (gn rfl) rfl Tryd.underlying23 rfl Tryd.sizeOf23 (rdg_row rfl) (by rw [← hO]; rfl) (by simp [hOl]) (by decide)
    simp only [nmx, seval]
    apply VE.cons
    · exact ev_allocr rfl rfl (gn rfl) Tryd.zeroValue23 rfl
    simp only [nmx, seval]
    apply VE.cons
    · exact ev_allocr rfl rfl (gn rfl) Tryd.zeroValue23 rfl
    simp only [nmx, seval]
    apply VE.cons
    · exact ev_stL (l := Z) rfl (gn rfl) rfl rfl rfl Tryd.sizeOf23 (by simp) hZl
    simp only [nmx, seval]
    apply VE.cons
    · exact ev_stL (l := O) rfl (gn rfl) rfl rfl rfl Tryd.sizeOf23 (by simp) hOl
    simp only [nmx, seval]
    exact VE.nil _
  · kernel_rfl
  change VOk _ _ _ _ _
  refine vseq ?_
  refine vseq ?_
  apply vrp
  · apply VE.cons
    · exact ev_move rfl (gn rfl)
    simp only [nmx, seval]
    exact VE.nil _
  · kernel_rfl
  change VOk _ _ _ _ _
  refine vblock ?_
  refine vloop 3 ?_
  change VOk _ _ _ _ _
  refine vseq ?_
  apply vrp
  · apply VE.cons
    · first | exact ev_lss (p := true) rfl (gn rfl) rfl rfl (by decide) | exact ev_lss (p := false) rfl (gn rfl) rfl rfl (by decide)
    simp only [nmx, seval]
    exact VE.nil _
  · kernel_rfl
  change VOk _ _ _ _ _
  refine vseq ?_
  refine vcond_t rfl ?_
  refine vskip ?_
  change VOk _ _ _ _ _
  refine vseq ?_
  refine vblock ?_
  refine vseq ?_
  apply vrp
  · apply VE.cons
    · exact ev_move rfl (gn rfl)
    simp only [nmx, seval]
    apply VE.cons
    · exact ev_assign rfl (gn rfl)
    simp only [nmx, seval]
    exact VE.nil _
  · kernel_rfl
  change VOk _ _ _ _ _
  refine vseq ?_
  apply vrd (by kernel_rfl)
  · apply VE.cons
    · exact ev_slicea rfl (gn rfl) rfl Tryd.underlying23 Tryd.sizeOf5
    simp only [nmx, seval]
    apply VE.cons
    · exact ev_slicea rfl (gn rfl) rfl Tryd.underlying23 Tryd.sizeOf5
    simp only [nmx, seval]
    apply VE.cons
    · exact ev_move rfl (gn rfl)
    simp only [nmx, seval]
    apply VE.cons
    · first | exact ev_conv rfl (gn rfl) rfl cvi0 | exact ev_conv rfl (gn rfl) rfl cvi1
    simp only [nmx, seval]
    apply VE.cons
    · exact ev_buildslice rfl rfl (gn rfl) rfl (e := 5) (l := [0].map b8) rfl (by decide) (fun _ => by kernel_rfl)
    simp only [nmx, seval]
    apply VE.cons
    · exact ev_slicea rfl (gn rfl) rfl Tryd.underlying23 Tryd.sizeOf5
    simp only [nmx, seval]
    apply VE.cons
    · exact ev_slicea rfl (gn rfl) rfl Tryd.underlying23 Tryd.sizeOf5
    simp only [nmx, seval]
    apply VE.cons
    · exact ev_bsl (ys := [.s 9 0 32 32, .d 32, .s 2 0 32 32, .s 7 0 32 32]) (size := 1) (l := [.s 9 0 32 32, .d 32, .s 2 0 32 32, .s 7 0 32 32]) (ls := [[.s 9 0 32 32], [.d 32], [.s 2 0 32 32], [.s 7 0 32 32]]) [32] rfl rfl (gn rfl) rfl rfl rfl (fun ρ S w' hb hR j y lj hy hl => by have h32 := row_cells (id := 32) hR (by simp) rfl; rcases j with _ | _ | _ | _ | j <;> simp only [List.getElem?_cons_zero, List.getElem?_cons_succ, List.getElem?_nil, Option.some.injEq, reduceCtorEq] at hy hl <;> (subst hy hl; first | exact one_s | exact h32.1)) (by simp) rfl rfl Tryd.underlying85 (by kernel_rfl) (by kernel_rfl) (by decide) (by decide)
    simp only [nmx, seval]
    apply VE.cons
    · exact ev_callp (v := .agg (K1.map b8).toArray) [8, 9, 32, 2, 7, 35] rfl (gn rfl) rfl (en_of Tryd.func65 (by kernel_rfl) rfl) (fun ρ S w' hb hR => by have a := macOf_ok (key := Z) (ls := [O, [0], D, M]) w' (hK.bw hb) (hH.bw hb) (Nat.lt_of_lt_of_le hb1 hb.size) (rdgf_arrL (rd := [8, 9, 32, 2, 7, 35]) (id := 8) (len := 32) (cap := 32) (by simp) rfl hZl (by decide) ρ S w' hb hR) (by rw [hZl]; decide) hZ8 (partsf_own (id := 35) (n := 4) (by simp) (by rfl) rfl (by exact ⟨⟨rdgf_arrL (id := 9) (len := 32) (cap := 32) (by simp) rfl hOl (by decide), hO8⟩, ⟨rdgf_rowL (id := 32) (by simp) rfl rfl, (by decide)⟩, ⟨rdgf_arrL (id := 2) (len := 32) (cap := 32) (by simp) rfl hDl (by decide), hD8⟩, ⟨rdgf_arrL (id := 7) (len := 32) (cap := 32) (by simp) rfl hMl (by decide), hM8⟩, trivial⟩) ρ S w' hb hR) (hangs_lt hb hR) (by simp [hOl, hDl, hMl]) (by simp); rw [hK1] at a; exact a)
    simp only [nmx, seval]
    apply VE.cons
    · exact ev_stL (l := K1) rfl (gn rfl) rfl rfl rfl Tryd.sizeOf23 (by simp [hZl]) hK1l
    simp only [nmx, seval]
    exact VE.nil _
  · kernel_rfl
  change VOk _ _ _ _ _
  apply vrd (by kernel_rfl)
  · apply VE.cons
    · exact ev_slicea rfl (gn rfl) rfl Tryd.underlying23 Tryd.sizeOf5
    simp only [nmx, seval]
    apply VE.cons
    · exact ev_slicea rfl (gn rfl) rfl Tryd.underlying23 Tryd.sizeOf5
    simp only [nmx, seval]
    apply VE.cons
    · exact ev_bsl (ys := [.s 9 0 32 32]) (size := 1) (l := [.s 9 0 32 32]) (ls := [[.s 9 0 32 32]]) [] rfl rfl (gn rfl) rfl rfl rfl (fun ρ S w' hb hR j y lj hy hl => by rcases j with _ | j <;> simp only [List.getElem?_cons_zero, List.getElem?_cons_succ, List.getElem?_nil, Option.some.injEq, reduceCtorEq] at hy hl <;> (subst hy hl; first | exact one_s)) (by simp) rfl rfl Tryd.underlying85 (by kernel_rfl) (by kernel_rfl) (by decide) (by decide)
    simp only [nmx, seval]
    apply VE.cons
    · exact ev_callp (v := .agg (V1.map b8).toArray) [8, 9, 39] rfl (gn rfl) rfl (en_of Tryd.func65 (by kernel_rfl) rfl) (fun ρ S w' hb hR => by have a := macOf_ok (key := K1) (ls := [O]) w' (hK.bw hb) (hH.bw hb) (Nat.lt_of_lt_of_le hb1 hb.size) (rdgf_arrL (rd := [8, 9, 39]) (id := 8) (len := 32) (cap := 32) (by simp) rfl hK1l (by decide) ρ S w' hb hR) (by rw [hK1l]; decide) hK18 (partsf_own (id := 39) (n := 1) (by simp) (by rfl) rfl (by exact ⟨⟨rdgf_arrL (id := 9) (len := 32) (cap := 32) (by simp) rfl hOl (by decide), hO8⟩, trivial⟩) ρ S w' hb hR) (hangs_lt hb hR) (by simp [hOl]) (by simp); rw [hV1] at a; exact a)
    simp only [nmx, seval]
    apply VE.cons
    · exact ev_stL (l := V1) rfl (gn rfl) rfl rfl rfl Tryd.sizeOf23 (by simp [hOl]) hV1l
    simp only [nmx, seval]
    exact VE.nil _
  · kernel_rfl
  change VOk _ _ _ _ _
  apply vrp
  · apply VE.cons
    · first | exact ev_add (a := 0) (b := 1) (c := 1) rfl (gn rfl) rfl rfl (by decide) | exact ev_add (a := 1) (b := 1) (c := 2) rfl (gn rfl) rfl rfl (by decide)
    simp only [nmx, seval]
    apply VE.cons
    · exact ev_move rfl (gn rfl)
    simp only [nmx, seval]
    exact VE.nil _
  · kernel_rfl
  change VOk _ _ _ _ _
  refine vforgetE (fun i => decide (i < 12) || i == 25) [32, 35, 39] (fun f => by simp [forgetFr]; exact rfl) (by simp [memDel]; exact rfl) fun f => ?_
  refine vseq ?_
  apply vrp
  · apply VE.cons
    · first | exact ev_lss (p := true) rfl (gn rfl) rfl rfl (by decide) | exact ev_lss (p := false) rfl (gn rfl) rfl rfl (by decide)
    simp only [nmx, seval]
    exact VE.nil _
  · kernel_rfl
  change VOk _ _ _ _ _
  refine vseq ?_
  refine vcond_t rfl ?_
  refine vskip ?_
  change VOk _ _ _ _ _
  refine vseq ?_
  refine vblock ?_
  refine vseq ?_
  apply vrp
  · apply VE.cons
    · exact ev_move rfl (gn rfl)
    simp only [nmx, seval]
    apply VE.cons
    · exact ev_assign rfl (gn rfl)
    simp only [nmx, seval]
    exact VE.nil _
  · kernel_rfl
  change VOk _ _ _ _ _
  refine vseq ?_
  apply vrd (by kernel_rfl)
  · apply VE.cons
    · exact ev_slicea rfl (gn rfl) rfl Tryd.underlying23 Tryd.sizeOf5
    simp only [nmx, seval]
    apply VE.cons
    · exact ev_slicea rfl (gn rfl) rfl Tryd.underlying23 Tryd.sizeOf5
    simp only [nmx, seval]
    apply VE.cons
    · exact ev_move rfl (gn rfl)
    simp only [nmx, seval]
    apply VE.cons
    · first | exact ev_conv rfl (gn rfl) rfl cvi0 | exact ev_conv rfl (gn rfl) rfl cvi1
    simp only [nmx, seval]
    apply VE.cons
    · exact ev_buildslice rfl rfl (gn rfl) rfl (e := 5) (l := [1].map b8) rfl (by decide) (fun _ => by kernel_rfl)
    simp only [nmx, seval]
    apply VE.cons
    · exact ev_slicea rfl (gn rfl) rfl Tryd.underlying23 Tryd.sizeOf5
    simp only [nmx, seval]
    apply VE.cons
    · exact ev_slicea rfl (gn rfl) rfl Tryd.underlying23 Tryd.sizeOf5
    simp only [nmx, seval]
    apply VE.cons
    · exact ev_bsl (ys := [.s 9 0 32 32, .d 32, .s 2 0 32 32, .s 7 0 32 32]) (size := 1) (l := [.s 9 0 32 32, .d 32, .s 2 0 32 32, .s 7 0 32 32]) (ls := [[.s 9 0 32 32], [.d 32], [.s 2 0 32 32], [.s 7 0 32 32]]) [32] rfl rfl (gn rfl) rfl rfl rfl (fun ρ S w' hb hR j y lj hy hl => by have h32 := row_cells (id := 32) hR (by simp) rfl; rcases j with _ | _ | _ | _ | j <;> simp only [List.getElem?_cons_zero, List.getElem?_cons_succ, List.getElem?_nil, Option.some.injEq, reduceCtorEq] at hy hl <;> (subst hy hl; first | exact one_s | exact h32.1)) (by simp) rfl rfl Tryd.underlying85 (by kernel_rfl) (by kernel_rfl) (by decide) (by decide)
    simp only [nmx, seval]
    apply VE.cons
    · exact ev_callp (v := .agg (K2.map b8).toArray) [8, 9, 32, 2, 7, 35] rfl (gn rfl) rfl (en_of Tryd.func65 (by kernel_rfl) rfl) (fun ρ S w' hb hR => by have a := macOf_ok (key := K1) (ls := [V1, [1], D, M]) w' (hK.bw hb) (hH.bw hb) (Nat.lt_of_lt_of_le hb1 hb.size) (rdgf_arrL (rd := [8, 9, 32, 2, 7, 35]) (id := 8) (len := 32) (cap := 32) (by simp) rfl hK1l (by decide) ρ S w' hb hR) (by rw [hK1l]; decide) hK18 (partsf_own (id := 35) (n := 4) (by simp) (by rfl) rfl (by exact ⟨⟨rdgf_arrL (id := 9) (len := 32) (cap := 32) (by simp) rfl hV1l (by decide), hV18⟩, ⟨rdgf_rowL (id := 32) (by simp) rfl rfl, (by decide)⟩, ⟨rdgf_arrL (id := 2) (len := 32) (cap := 32) (by simp) rfl hDl (by decide), hD8⟩, ⟨rdgf_arrL (id := 7) (len := 32) (cap := 32) (by simp) rfl hMl (by decide), hM8⟩, trivial⟩) ρ S w' hb hR) (hangs_lt hb hR) (by simp [hV1l, hDl, hMl]) (by simp); rw [hK2] at a; exact a)
    simp only [nmx, seval]
    apply VE.cons
    · exact ev_stL (l := K2) rfl (gn rfl) rfl rfl rfl Tryd.sizeOf23 (by simp [hK1l]) hK2l
    simp only [nmx, seval]
    exact VE.nil _
  · kernel_rfl
  change VOk _ _ _ _ _
  apply vrd (by kernel_rfl)
  · apply VE.cons
    · exact ev_slicea rfl (gn rfl) rfl Tryd.underlying23 Tryd.sizeOf5
    simp only [nmx, seval]
    apply VE.cons
    · exact ev_slicea rfl (gn rfl) rfl Tryd.underlying23 Tryd.sizeOf5
    simp only [nmx, seval]
    apply VE.cons
    · exact ev_bsl (ys := [.s 9 0 32 32]) (size := 1) (l := [.s 9 0 32 32]) (ls := [[.s 9 0 32 32]]) [] rfl rfl (gn rfl) rfl rfl rfl (fun ρ S w' hb hR j y lj hy hl => by rcases j with _ | j <;> simp only [List.getElem?_cons_zero, List.getElem?_cons_succ, List.getElem?_nil, Option.some.injEq, reduceCtorEq] at hy hl <;> (subst hy hl; first | exact one_s)) (by simp) rfl rfl Tryd.underlying85 (by kernel_rfl) (by kernel_rfl) (by decide) (by decide)
    simp only [nmx, seval]
    apply VE.cons
    · exact ev_callp (v := .agg (V2.map b8).toArray) [8, 9, 39] rfl (gn rfl) rfl (en_of Tryd.func65 (by kernel_rfl) rfl) (fun ρ S w' hb hR => by have a := macOf_ok (key := K2) (ls := [V1]) w' (hK.bw hb) (hH.bw hb) (Nat.lt_of_lt_of_le hb1 hb.size) (rdgf_arrL (rd := [8, 9, 39]) (id := 8) (len := 32) (cap := 32) (by simp) rfl hK2l (by decide) ρ S w' hb hR) (by rw [hK2l]; decide) hK28 (partsf_own (id := 39) (n := 1) (by simp) (by rfl) rfl (by exact ⟨⟨rdgf_arrL (id := 9) (len := 32) (cap := 32) (by simp) rfl hV1l (by decide), hV18⟩, trivial⟩) ρ S w' hb hR) (hangs_lt hb hR) (by simp [hV1l]) (by simp); rw [hV2] at a; exact a)
    simp only [nmx, seval]
    apply VE.cons
    · exact ev_stL (l := V2) rfl (gn rfl) rfl rfl rfl Tryd.sizeOf23 (by simp [hV1l]) hV2l
    simp only [nmx, seval]
    exact VE.nil _
  · kernel_rfl
  change VOk _ _ _ _ _
  apply vrp
  · apply VE.cons
    · first | exact ev_add (a := 0) (b := 1) (c := 1) rfl (gn rfl) rfl rfl (by decide) | exact ev_add (a := 1) (b := 1) (c := 2) rfl (gn rfl) rfl rfl (by decide)
    simp only [nmx, seval]
    apply VE.cons
    · exact ev_move rfl (gn rfl)
    simp only [nmx, seval]
    exact VE.nil _
  · kernel_rfl
  change VOk _ _ _ _ _
  refine vforgetE (fun i => decide (i < 12) || i == 25) [32, 35, 39] (fun f => by simp [forgetFr]; exact rfl) (by simp [memDel]; exact rfl) fun f => ?_
  refine vseq ?_
  apply vrp
  · apply VE.cons
    · first | exact ev_lss (p := true) rfl (gn rfl) rfl rfl (by decide) | exact ev_lss (p := false) rfl (gn rfl) rfl rfl (by decide)
    simp only [nmx, seval]
    exact VE.nil _
  · kernel_rfl
  change VOk _ _ _ _ _
  refine vseq ?_
  refine vcond_f rfl ?_
  refine vexit ?_
  change VOk _ _ _ _ _
  refine vblock ?_
  refine vloop 1 ?_
  change VOk _ _ _ _ _
  refine vblock ?_
  refine vseq ?_
  apply vrd (by kernel_rfl)
  · apply VE.cons
    · exact ev_slicea rfl (gn rfl) rfl Tryd.underlying23 Tryd.sizeOf5
    simp only [nmx, seval]
    apply VE.cons
    · exact ev_slicea rfl (gn rfl) rfl Tryd.underlying23 Tryd.sizeOf5
    simp only [nmx, seval]
    apply VE.cons
    · exact ev_bsl (ys := [.s 9 0 32 32]) (size := 1) (l := [.s 9 0 32 32]) (ls := [[.s 9 0 32 32]]) [] rfl rfl (gn rfl) rfl rfl rfl (fun ρ S w' hb hR j y lj hy hl => by rcases j with _ | j <;> simp only [List.getElem?_cons_zero, List.getElem?_cons_succ, List.getElem?_nil, Option.some.injEq, reduceCtorEq] at hy hl <;> (subst hy hl; first | exact one_s)) (by simp) rfl rfl Tryd.underlying85 (by kernel_rfl) (by kernel_rfl) (by decide) (by decide)
    simp only [nmx, seval]
    apply VE.cons
    · exact ev_callp (v := .agg (V3.map b8).toArray) [8, 9, 44] rfl (gn rfl) rfl (en_of Tryd.func65 (by kernel_rfl) rfl) (fun ρ S w' hb hR => by have a := macOf_ok (key := K2) (ls := [V2]) w' (hK.bw hb) (hH.bw hb) (Nat.lt_of_lt_of_le hb1 hb.size) (rdgf_arrL (rd := [8, 9, 44]) (id := 8) (len := 32) (cap := 32) (by simp) rfl hK2l (by decide) ρ S w' hb hR) (by rw [hK2l]; decide) hK28 (partsf_own (id := 44) (n := 1) (by simp) (by rfl) rfl (by exact ⟨⟨rdgf_arrL (id := 9) (len := 32) (cap := 32) (by simp) rfl hV2l (by decide), hV28⟩, trivial⟩) ρ S w' hb hR) (hangs_lt hb hR) (by simp [hV2l]) (by simp); rw [hV3] at a; exact a)
    simp only [nmx, seval]
    apply VE.cons
    · exact ev_stL (l := V3) rfl (gn rfl) rfl rfl rfl Tryd.sizeOf23 (by simp [hV2l]) hV3l
    simp only [nmx, seval]
    exact VE.nil _
  · kernel_rfl
  change VOk _ _ _ _ _
  refine vseq ?_
  refine vseq ?_
  apply vrp
  · apply VE.cons
    · exact ev_ldL (l := V3) rfl (gn rfl) rfl rfl Tryd.underlying23 rfl Tryd.sizeOf23 hV3l
    simp only [nmx, seval]
    apply VE.cons
    · exact ev_callb (v := .bool true) rfl (gn rfl) rfl (en_of Tryd.func17 (by kernel_rfl) rfl) (fun w' hw' => by have a := fine_ok hk w' (hL.bw hw'); rw [hs, B32_bl, ← hVk] at a; exact a)
    simp only [nmx, seval]
    exact VE.nil _
  · kernel_rfl
  change VOk _ _ _ _ _
  refine vcond_t rfl ?_
  refine vseq ?_
  apply vrp
  · apply VE.cons
    · exact ev_ldL (l := V3) rfl (gn rfl) rfl rfl Tryd.underlying23 rfl Tryd.sizeOf23 hV3l
    simp only [nmx, seval]
    apply VE.cons
    · exact ev_stL (l := V3) rfl (gn rfl) rfl rfl rfl Tryd.sizeOf23 (by simp) hV3l
    simp only [nmx, seval]
    exact VE.nil _
  · kernel_rfl
  change VOk _ _ _ _ _
  refine vret ?_
  refine post_ret (res1 Tryd.results50 (rv_cellr (vs := V3.map b8) rfl rfl Tryd.underlying23 rfl Tryd.sizeOf23 (List.take_of_length_le (by simp [hV3l])) (by simp [hV3l]))) ?_
  intro ρ w' hr
  exact ⟨by rw [hVk]; rfl, hr.1⟩
end Go.Proofs.YtafbhakmkbehiaaDoor
end
section
namespace Go.Proofs.YtafbhakmkbehiaaDoor
open Go.RowKit Go.Vx TollMont
open Go.Toll (Gw)
open TollEc (F pp cb Jp Pt smul add base nn neg)
open TollSha (sha hmac)
set_option maxHeartbeats 4000000
set_option maxRecDepth 100000
theorem eqP_t {p : Pt} (_hp : p.on) (h : p = .inf) (a b : Operand) (w : World) : (do eqGuard .eql 26 a b (PV p) (.agg #[.int .u8 0, .int .u8 0, .int .u8 0, .int .u8 0, .int .u8 0, .int .u8 0, .int .u8 0, .int .u8 0, .int .u8 0, .int .u8 0, .int .u8 0, .int .u8 0, .int .u8 0, .int .u8 0, .int .u8 0, .int .u8 0, .int .u8 0, .int .u8 0, .int .u8 0, .int .u8 0, .int .u8 0, .int .u8 0, .int .u8 0, .int .u8 0, .int .u8 0, .int .u8 0, .int .u8 0, .int .u8 0, .int .u8 0, .int .u8 0, .int .u8 0, .int .u8 0, .int .u8 0, .int .u8 0, .int .u8 0, .int .u8 0, .int .u8 0, .int .u8 0, .int .u8 0, .int .u8 0, .int .u8 0, .int .u8 0, .int .u8 0, .int .u8 0, .int .u8 0, .int .u8 0, .int .u8 0, .int .u8 0, .int .u8 0, .int .u8 0, .int .u8 0, .int .u8 0, .int .u8 0, .int .u8 0, .int .u8 0, .int .u8 0, .int .u8 0, .int .u8 0, .int .u8 0, .int .u8 0, .int .u8 0, .int .u8 0, .int .u8 0, .int .u8 0]); binOp .eql 26 (PV p) (.agg #[.int .u8 0, .int .u8 0, .int .u8 0, .int .u8 0, .int .u8 0, .int .u8 0, .int .u8 0, .int .u8 0, .int .u8 0, .int .u8 0, .int .u8 0, .int .u8 0, .int .u8 0, .int .u8 0, .int .u8 0, .int .u8 0, .int .u8 0, .int .u8 0, .int .u8 0, .int .u8 0, .int .u8 0, .int .u8 0, .int .u8 0, .int .u8 0, .int .u8 0, .int .u8 0, .int .u8 0, .int .u8 0, .int .u8 0, .int .u8 0, .int .u8 0, .int .u8 0, .int .u8 0, .int .u8 0, .int .u8 0, .int .u8 0, .int .u8 0, .int .u8 0, .int .u8 0, .int .u8 0, .int .u8 0, .int .u8 0, .int .u8 0, .int .u8 0, .int .u8 0, .int .u8 0, .int .u8 0, .int .u8 0, .int .u8 0, .int .u8 0, .int .u8 0, .int .u8 0, .int .u8 0, .int .u8 0, .int .u8 0, .int .u8 0, .int .u8 0, .int .u8 0, .int .u8 0, .int .u8 0, .int .u8 0, .int .u8 0, .int .u8 0, .int .u8 0]) : Sem Value).run Tryd.prog w = .ok (.bool true) w := by
  subst h; exact eqP_inf a b w
theorem ev_slicelh {P : Program} {w0 : World} {ops : Array Oper} {o : Oper} {s : VS} {ty : TypeId} {x : Operand} {lo hi : Option Operand} {id off n a b : Nat} {el : TypeId} (ho : o.op = .slice ty x lo hi none) (hgd : Want ops o s) (hx : svEval s x = .p id off)
    (hu : P.underlying ty = some (.array n el)) (hs : ∀ w, (Go.sizeOf el).run P w = .ok 1 w) (hlo : (match lo with | none => SV.v (.int .i64 (0 : Nat)) | some z => svEval s z) = .v (.int .i64 (a : Nat))) (hhi : (match hi with | none => SV.v (.int .i64 (n : Nat)) | some z => svEval s z) = .v (.int .i64 (b : Nat))) (h1 : a ≤ b) (h2 : b ≤ n) (h3 : a < n) :
    Ev P ops w0 o s ⟨.s id (off + a) (b - a) (n - a), [], [], [], []⟩ :=
  Ev.run _ _ hgd fun ρ S w hb hR => by
    have e1 := svEval_c s ρ x
    rw [hx] at e1
    have hbd : ∀ (k m : Nat) (c : BoundsCode), k ≤ m → (Instr.sliceBound (.int .i64 (k : Nat)) m c).run P w = .ok k w := by
      intro k m c hk
      unfold Instr.sliceBound
      rw [Sem.run_bind]
      simp only [asIntOf, Sem.run_pure, Result.andThen_ok]
      rw [if_pos ⟨by omega, by omega⟩]
      rfl
    have e2 : ∀ z, lo = some z → (s.act ρ).eval z = .int .i64 (a : Nat) := fun z hz => by rw [svEval_c]; rw [hz] at hlo; simp only at hlo; rw [hlo]; simp [SV.c]
    have e3 : ∀ z, hi = some z → (s.act ρ).eval z = .int .i64 (b : Nat) := fun z hz => by rw [svEval_c]; rw [hz] at hhi; simp only at hhi; rw [hhi]; simp [SV.c]
    have ea : lo = none → a = 0 := fun hz => by
      rw [hz] at hlo; simp only [SV.v.injEq, Value.int.injEq, true_and] at hlo; omega
    have eb : hi = none → b = n := fun hz => by
      rw [hz] at hhi; simp only [SV.v.injEq, Value.int.injEq, true_and] at hhi; omega
    have key : ∀ t : Bool, (Instr.sliceBounds t n n (lo.map (s.act ρ).eval) (hi.map (s.act ρ).eval) none).run P w = .ok (a, b, n) w := by
      intro t
      unfold Instr.sliceBounds
      cases hi with
      | none =>
        have := eb rfl; subst this
        cases lo with
        | none => have := ea rfl; subst this; simp
        | some z => simp [e2 z rfl, hbd a b _ h1]
      | some y' =>
        cases lo with
        | none => have := ea rfl; subst this; simp [e3 y' rfl, hbd b n _ (by omega)]
        | some z => simp [e2 z rfl, e3 y' rfl, hbd a b _ h1, hbd b n _ (by omega)]
    simp [execOp, ho, e1, SV.c, Instr.sliceAt, run_underlying hu, Instr.sureAddr, key, hs, add_at]
    omega
theorem ptr_d {n : Nat} {ρ : Nat → Nm} {S : Nat → Nat → Prop} {w : World} {base : Nat} {m : Mem} {rd : List Nat} {id : Nat} (hR : RelOn base ρ S w (restr rd m)) (hid : id ∈ rd) (hm : m id = some (.dat (datM n))) : ∃ g, (ρ id).val = ptr g ∧ At w g n := by
  obtain ⟨g, e1, _, e3⟩ := relon_dat hR hid hm
  exact ⟨g, by simpa using e1, datM_at e3⟩
section
variable {ρ : Nat → Nm} {S : Nat → Nat → Prop} {w : World} {base : Nat} {m : Mem} {rd : List Nat} {id : Nat} {x y : Nat}
theorem c_mul (hR : RelOn base ρ S w (restr rd m)) (hid : id ∈ rd) (hm : m id = some (.dat (datM nn))) (hx : x < R) (hy : y < R) : Calls Tryd.prog 21 #[(ρ id).val, N x, N y] w fun e w' => e = .returned (N (x * y % nn)) ∧ Bw w w' := by
  obtain ⟨g, e, h⟩ := ptr_d hR hid hm
  rw [e]; exact (mul_ok mdn hx hy w h).mono fun _ _ q => ⟨q.1, q.2.b⟩
theorem c_add (hR : RelOn base ρ S w (restr rd m)) (hid : id ∈ rd) (hm : m id = some (.dat (datM nn))) (hx : x < R) (hy : y < R) : Calls Tryd.prog 43 #[(ρ id).val, N x, N y] w fun e w' => e = .returned (N ((x + y) % nn)) ∧ Bw w w' := by
  obtain ⟨g, e, h⟩ := ptr_d hR hid hm
  rw [e]; exact (madd_ok mdn hx hy w h).mono fun _ _ q => ⟨q.1, q.2.b⟩
theorem c_rest (hR : RelOn base ρ S w (restr rd m)) (hid : id ∈ rd) (hm : m id = some (.dat (datM nn))) (hx : x < R) : Calls Tryd.prog 23 #[(ρ id).val, N x] w fun e w' => e = .returned (N (x % nn)) ∧ Bw w w' := by
  obtain ⟨g, e, h⟩ := ptr_d hR hid hm
  rw [e]; exact (rest_ok mdn hx w h).mono fun _ _ q => ⟨q.1, q.2.b⟩
theorem c_inv {i : Nat} (hR : RelOn base ρ S w (restr rd m)) (hid : id ∈ rd) (hm : m id = some (.dat (datM nn))) (hx : x < R) (hi : i < nn) (hv : i * x % nn = 1) : Calls Tryd.prog 19 #[(ρ id).val, N x] w fun e w' => e = .returned (.tuple #[N i, .int .i64 0]) ∧ Bw w w' := by
  obtain ⟨g, e, h⟩ := ptr_d hR hid hm
  have a := inv_ok mdn hx w h
  rw [if_pos (by
    have h1 : Nat.gcd x nn ∣ i * x % nn := (Nat.dvd_mod_iff (Nat.gcd_dvd_right _ _)).2 (Nat.dvd_trans (Nat.gcd_dvd_left _ _) ⟨i, Nat.mul_comm _ _⟩)
    rw [hv] at h1; exact Nat.dvd_one.1 h1), minv_eq hi hv] at a
  rw [e]; exact a.mono fun _ _ q => ⟨q.1, q.2.b⟩
end
theorem lt_R {x : Nat} (h : x < nn) : x < R := Nat.lt_trans h (by decide)
theorem mod_R (x : Nat) : x % nn < R := lt_R (Nat.mod_lt _ (by decide))
theorem eqN {x y : Nat} (hx : x < R) (hy : y < R) (p q : Operand) (w : World) : (do eqGuard .eql 50 p q (N x) (N y); binOp .eql 50 (N x) (N y) : Sem Value).run Tryd.prog w = .ok (.bool (decide (x = y))) w := by
  have := eql_num 50 (.inl rfl) (lim x 0) (lim x 1) (lim x 2) (lim x 3) (lim y 0) (lim y 1) (lim y 2) (lim y 3) p q w
  have e : decide (lim x 0 = lim y 0 ∧ lim x 1 = lim y 1 ∧ lim x 2 = lim y 2 ∧ lim x 3 = lim y 3) = decide (x = y) := decide_eq_decide.2 ⟨fun ⟨a, b, c, d⟩ => lim_inj hx hy a b c d, fun h => by rw [h]; exact ⟨rfl, rfl, rfl, rfl⟩⟩
  rw [e] at this
  exact this
theorem neN {x y : Nat} (hx : x < R) (hy : y < R) (p q : Operand) (w : World) : (do eqGuard .neq 50 p q (N x) (N y); binOp .neq 50 (N x) (N y) : Sem Value).run Tryd.prog w = .ok (.bool (!decide (x = y))) w := by
  have := neq_num (lim x 0) (lim x 1) (lim x 2) (lim x 3) (lim y 0) (lim y 1) (lim y 2) (lim y 3) p q w
  have e : decide (lim x 0 = lim y 0 ∧ lim x 1 = lim y 1 ∧ lim x 2 = lim y 2 ∧ lim x 3 = lim y 3) = decide (x = y) := decide_eq_decide.2 ⟨fun ⟨a, b, c, d⟩ => lim_inj hx hy a b c d, fun h => by rw [h]; exact ⟨rfl, rfl, rfl, rfl⟩⟩
  rw [e] at this
  exact this
theorem neN_p {x y : Nat} {b : Bool} (hx : x < R) (hy : y < R) (h : decide (x = y) = !b) (p q : Operand) (w : World) : (do eqGuard .neq 50 p q (N x) (N y); binOp .neq 50 (N x) (N y) : Sem Value).run Tryd.prog w = .ok (.bool b) w := by
  rw [neN hx hy, h, Bool.not_not]
theorem eqN_f {x : Nat} (hx : x < R) (h : x ≠ 0) (p q : Operand) (w : World) : (do eqGuard .eql 50 p q (N x) (.agg #[.int .u64 0, .int .u64 0, .int .u64 0, .int .u64 0]); binOp .eql 50 (N x) (.agg #[.int .u64 0, .int .u64 0, .int .u64 0, .int .u64 0]) : Sem Value).run Tryd.prog w = .ok (.bool false) w := by
  have := eqN hx (by decide : 0 < R) p q w
  rw [decide_eq_false h, N_zero] at this
  exact this
theorem built50_0 : Tryd.prog.built 50 [] = some #[.int .u64 0, .int .u64 0, .int .u64 0, .int .u64 0] := by kernel_rfl
theorem Make_ok {d h k r t i : Nat} {Q : Pt} (hd : d < R) (hh : h < R) (hk : k < R) (w : World) (hL : Laid w) (hK : LaidK w) (hH : LaidH w) (hb1 : 6 < w.heap.size) (sd : sec d = true) (hn : nV3 d (h % nn) = bl k) (hs : sec k = true) (hQ : smul k base = Q) (hr : xv Q % nn = r) (hi : i < nn) (hv : i * k % nn = 1) (ht : i * ((h + r * d % nn) % nn) % nn = t) (hr0 : r ≠ 0) (ht0 : t ≠ 0) : Calls Tryd.prog 24 #[B32 d, B32 h] w fun e w' => e = .returned (.tuple #[PT r t, .int .i64 0]) ∧ Bw w w' := by
  have hrR : r < R := by rw [← hr]; exact mod_R _
  have htR : t < R := by rw [← ht]; exact mod_R _
  go_enter Tryd.func24, Tryd.ntmps24
  refine ve_go ?_
  simp only [List.map_cons, List.map_nil]
  refine vseq ?_
  apply vrp
  · apply VE.cons
    · exact ev_box rfl rfl (gn rfl) rfl
    simp only [nmx, seval]
    apply VE.cons
    · exact ev_box rfl rfl (gn rfl) rfl
    simp only [nmx, seval]
    apply VE.cons
    · exact ev_alloc rfl rfl (gn rfl) Tryd.zeroValue24
    simp only [nmx, seval]
    apply VE.cons
    · exact ev_assign rfl (gn rfl)
    simp only [nmx, seval]
    exact VE.nil _
  · kernel_rfl
  change VOk _ _ _ _ _
  refine vseq ?_
  apply vrp
  · apply VE.cons
    · exact ev_alloc rfl rfl (gn rfl) Tryd.zeroValue24
    simp only [nmx, seval]
    exact VE.nil _
  · kernel_rfl
  change VOk _ _ _ _ _
  refine vseq ?_
  refine vseq ?_
  apply vrp
  · apply VE.cons
    · first | exact ev_load rfl (gn rfl) rfl rfl Tryd.underlying23 rfl Tryd.sizeOf23 rfl rfl | exact ev_loadx rfl (gn rfl) rfl Tryd.underlying23 rfl Tryd.sizeOf23 (by assumption) rfl | exact ev_loada rfl (gn rfl) rfl rfl Tryd.underlying23 rfl Tryd.sizeOf23 rfl
    simp only [nmx, seval]
    apply VE.cons
    · exact ev_callb (v := .bool true) rfl (gn rfl) rfl (en_of Tryd.func17 (by kernel_rfl) rfl) (fun w' hw' => by have a := fine_ok hd w' (hL.bw hw'); rw [sd] at a; exact a)
    simp only [nmx, seval]
    apply VE.cons
    · refine ev_pure' (gn rfl) (fun ρ w => by simp only [VS.act, SV.c, List.map_cons, List.map_nil]; go_simp; exact rfl) (fun _ _ => rfl)
    simp only [nmx, seval]
    exact VE.nil _
  · kernel_rfl
  change VOk _ _ _ _ _
  refine vcond_f rfl ?_
  refine vskip ?_
  change VOk _ _ _ _ _
  refine vseq ?_
  apply vrp
  · apply VE.cons
    · exact ev_calldt (D := datM nn) (ys := [N nn]) [] rfl rfl (gn rfl) rfl (en_of Tryd.func18 (by kernel_rfl) rfl) (fun ρ S w' hb hR => order_d w' (hL.bw hb))
    simp only [nmx, seval]
    apply VE.cons
    · exact ev_move rfl (gn rfl)
    simp only [nmx, seval]
    apply VE.cons
    · first | exact ev_extract rfl (gn rfl) rfl rfl | exact ev_extractt rfl (gn rfl) rfl rfl
    simp only [nmx, seval]
    apply VE.cons
    · first | exact ev_extract rfl (gn rfl) rfl rfl | exact ev_extractt rfl (gn rfl) rfl rfl
    simp only [nmx, seval]
    apply VE.cons
    · exact ev_alloc rfl rfl (gn rfl) Tryd.zeroValue50
    simp only [nmx, seval]
    apply VE.cons
    · exact ev_assign rfl (gn rfl)
    simp only [nmx, seval]
    apply VE.cons
    · exact ev_store rfl (gn rfl) rfl rfl rfl Tryd.sizeOf50 rfl (by simp) rfl
    simp only [nmx, seval]
    exact VE.nil _
  · kernel_rfl
  change VOk _ _ _ _ _
  refine vseq ?_
  apply vrp
  · apply VE.cons
    · first | exact ev_load rfl (gn rfl) rfl rfl Tryd.underlying23 rfl Tryd.sizeOf23 rfl rfl | exact ev_loadx rfl (gn rfl) rfl Tryd.underlying23 rfl Tryd.sizeOf23 (by assumption) rfl | exact ev_loada rfl (gn rfl) rfl rfl Tryd.underlying23 rfl Tryd.sizeOf23 rfl
    simp only [nmx, seval]
    apply VE.cons
    · first | exact ev_load rfl (gn rfl) rfl rfl Tryd.underlying23 rfl Tryd.sizeOf23 rfl rfl | exact ev_loadx rfl (gn rfl) rfl Tryd.underlying23 rfl Tryd.sizeOf23 (by assumption) rfl | exact ev_loada rfl (gn rfl) rfl rfl Tryd.underlying23 rfl Tryd.sizeOf23 rfl
    simp only [nmx, seval]
    apply VE.cons
    · exact ev_callb rfl (gn rfl) rfl (en_of Tryd.func50 (by kernel_rfl) rfl) (fun w' hw' => Nonce_ok hd hh hk w' (hL.bw hw') (hK.bw hw') (hH.bw hw') (Nat.lt_of_lt_of_le hb1 hw'.size) hn hs)
    simp only [nmx, seval]
    apply VE.cons
    · exact ev_alloc rfl rfl (gn rfl) Tryd.zeroValue23
    simp only [nmx, seval]
    apply VE.cons
    · exact ev_store rfl (gn rfl) rfl rfl rfl Tryd.sizeOf23 rfl (by simp) rfl
    simp only [nmx, seval]
    exact VE.nil _
  · kernel_rfl
  change VOk _ _ _ _ _
  refine vseq ?_
  apply vrd (by kernel_rfl)
  · apply VE.cons
    · exact ev_move rfl (gn rfl)
    simp only [nmx, seval]
    apply VE.cons
    · first | exact ev_load rfl (gn rfl) rfl rfl Tryd.underlying23 rfl Tryd.sizeOf23 rfl rfl | exact ev_loadx rfl (gn rfl) rfl Tryd.underlying23 rfl Tryd.sizeOf23 (by assumption) rfl | exact ev_loada rfl (gn rfl) rfl rfl Tryd.underlying23 rfl Tryd.sizeOf23 rfl
    simp only [nmx, seval]
    apply VE.cons
    · exact ev_call rfl (gn rfl) rfl (en_of Tryd.func13 (by kernel_rfl) rfl) (fun w' hw' => baseP w' (hL.bw hw'))
    simp only [nmx, seval]
    apply VE.cons
    · exact ev_call rfl (gn rfl) rfl (en_of Tryd.func12 (by kernel_rfl) rfl) (fun w' hw' => TimesE hk hQ TollEc.base_on w' (hL.bw hw'))
    simp only [nmx, seval]
    apply VE.cons
    · exact ev_fieldv rfl (gn rfl) rfl Tryd.underlying26 rfl Tryd.underlying23 rfl Tryd.sizeOf23 (vs := l32 (xv Q)) rfl
    simp only [nmx, seval]
    apply VE.cons
    · exact ev_call rfl (gn rfl) rfl (en_of Tryd.func20 (by kernel_rfl) rfl) (fun w' hw' => ofN (xv Q) (xv_lt Q) w')
    simp only [nmx, seval]
    apply VE.cons
    · exact ev_callp (v := N r) [21] rfl (gn rfl) rfl (en_of Tryd.func23 (by kernel_rfl) rfl) (fun ρ S w' hb hR => hr ▸ c_rest (id := 21) hR (by simp) rfl (xv_lt Q))
    simp only [nmx, seval]
    apply VE.cons
    · exact ev_alloc rfl rfl (gn rfl) Tryd.zeroValue50
    simp only [nmx, seval]
    apply VE.cons
    · exact ev_store rfl (gn rfl) rfl rfl rfl Tryd.sizeOf50 rfl (by simp) rfl
    simp only [nmx, seval]
    exact VE.nil _
  · kernel_rfl
  change VOk _ _ _ _ _
  refine vseq ?_
  apply vrp
  · apply VE.cons
    · exact ev_move rfl (gn rfl)
    simp only [nmx, seval]
    apply VE.cons
    · first | exact ev_load rfl (gn rfl) rfl rfl Tryd.underlying23 rfl Tryd.sizeOf23 rfl rfl | exact ev_loadx rfl (gn rfl) rfl Tryd.underlying23 rfl Tryd.sizeOf23 (by assumption) rfl | exact ev_loada rfl (gn rfl) rfl rfl Tryd.underlying23 rfl Tryd.sizeOf23 rfl
    simp only [nmx, seval]
    apply VE.cons
    · exact ev_call rfl (gn rfl) rfl (en_of Tryd.func20 (by kernel_rfl) rfl) (fun w' hw' => ofN k hk w')
    simp only [nmx, seval]
    apply VE.cons
    · exact ev_callp (v := .tuple #[N i, .int .i64 0]) [21] rfl (gn rfl) rfl (en_of Tryd.func19 (by kernel_rfl) rfl) (fun ρ S w' hb hR => c_inv (id := 21) hR (by simp) rfl hk hi hv)
    simp only [nmx, seval]
    apply VE.cons
    · exact ev_move rfl (gn rfl)
    simp only [nmx, seval]
    apply VE.cons
    · first | exact ev_extract rfl (gn rfl) rfl rfl | exact ev_extractt rfl (gn rfl) rfl rfl
    simp only [nmx, seval]
    apply VE.cons
    · first | exact ev_extract rfl (gn rfl) rfl rfl | exact ev_extractt rfl (gn rfl) rfl rfl
    simp only [nmx, seval]
    apply VE.cons
    · exact ev_alloc rfl rfl (gn rfl) Tryd.zeroValue50
    simp only [nmx, seval]
    apply VE.cons
    · exact ev_store rfl (gn rfl) rfl rfl rfl Tryd.sizeOf50 rfl (by simp) rfl
    simp only [nmx, seval]
    apply VE.cons
    · exact ev_assign rfl (gn rfl)
    simp only [nmx, seval]
    exact VE.nil _
  · kernel_rfl
  change VOk _ _ _ _ _
  refine vseq ?_
  apply vrd (by kernel_rfl)
  · apply VE.cons
    · exact ev_move rfl (gn rfl)
    simp only [nmx, seval]
    apply VE.cons
    · first | exact ev_load rfl (gn rfl) rfl rfl Tryd.underlying50 rfl Tryd.sizeOf50 rfl rfl | exact ev_loadx rfl (gn rfl) rfl Tryd.underlying50 rfl Tryd.sizeOf50 (by assumption) rfl | exact ev_loada rfl (gn rfl) rfl rfl Tryd.underlying50 rfl Tryd.sizeOf50 rfl
    simp only [nmx, seval]
    apply VE.cons
    · exact ev_move rfl (gn rfl)
    simp only [nmx, seval]
    apply VE.cons
    · first | exact ev_load rfl (gn rfl) rfl rfl Tryd.underlying23 rfl Tryd.sizeOf23 rfl rfl | exact ev_loadx rfl (gn rfl) rfl Tryd.underlying23 rfl Tryd.sizeOf23 (by assumption) rfl | exact ev_loada rfl (gn rfl) rfl rfl Tryd.underlying23 rfl Tryd.sizeOf23 rfl
    simp only [nmx, seval]
    apply VE.cons
    · exact ev_call rfl (gn rfl) rfl (en_of Tryd.func20 (by kernel_rfl) rfl) (fun w' hw' => ofN h hh w')
    simp only [nmx, seval]
    apply VE.cons
    · exact ev_move rfl (gn rfl)
    simp only [nmx, seval]
    apply VE.cons
    · first | exact ev_load rfl (gn rfl) rfl rfl Tryd.underlying50 rfl Tryd.sizeOf50 rfl rfl | exact ev_loadx rfl (gn rfl) rfl Tryd.underlying50 rfl Tryd.sizeOf50 (by assumption) rfl | exact ev_loada rfl (gn rfl) rfl rfl Tryd.underlying50 rfl Tryd.sizeOf50 rfl
    simp only [nmx, seval]
    apply VE.cons
    · first | exact ev_load rfl (gn rfl) rfl rfl Tryd.underlying23 rfl Tryd.sizeOf23 rfl rfl | exact ev_loadx rfl (gn rfl) rfl Tryd.underlying23 rfl Tryd.sizeOf23 (by assumption) rfl | exact ev_loada rfl (gn rfl) rfl rfl Tryd.underlying23 rfl Tryd.sizeOf23 rfl
    simp only [nmx, seval]
    apply VE.cons
    · exact ev_call rfl (gn rfl) rfl (en_of Tryd.func20 (by kernel_rfl) rfl) (fun w' hw' => ofN d hd w')
    simp only [nmx, seval]
    apply VE.cons
    · exact ev_callp (v := N (r * d % nn)) [21] rfl (gn rfl) rfl (en_of Tryd.func21 (by kernel_rfl) rfl) (fun ρ S w' hb hR => c_mul (id := 21) hR (by simp) rfl hrR hd)
    simp only [nmx, seval]
    apply VE.cons
    · exact ev_callp (v := N ((h + r * d % nn) % nn)) [21] rfl (gn rfl) rfl (en_of Tryd.func43 (by kernel_rfl) rfl) (fun ρ S w' hb hR => c_add (id := 21) hR (by simp) rfl hh (mod_R _))
    simp only [nmx, seval]
    apply VE.cons
    · exact ev_callp (v := N t) [21] rfl (gn rfl) rfl (en_of Tryd.func21 (by kernel_rfl) rfl) (fun ρ S w' hb hR => ht ▸ c_mul (id := 21) hR (by simp) rfl (lt_R hi) (mod_R _))
    simp only [nmx, seval]
    apply VE.cons
    · exact ev_alloc rfl rfl (gn rfl) Tryd.zeroValue50
    simp only [nmx, seval]
    apply VE.cons
    · exact ev_store rfl (gn rfl) rfl rfl rfl Tryd.sizeOf50 rfl (by simp) rfl
    simp only [nmx, seval]
    exact VE.nil _
  · kernel_rfl
  change VOk _ _ _ _ _
  refine vseq ?_
  refine vseq ?_
  apply vrp
  · apply VE.cons
    · exact ev_move rfl (gn rfl)
    simp only [nmx, seval]
    apply VE.cons
    · exact ev_neq (p := false) rfl (gn rfl) rfl rfl (by decide)
    simp only [nmx, seval]
    apply VE.cons
    · exact ev_move rfl (gn rfl)
    simp only [nmx, seval]
    apply VE.cons
    · first | exact Ev.skip (fun _ => rfl) | exact ev_load rfl (fun _ => rfl) rfl rfl Tryd.underlying50 rfl Tryd.sizeOf50 rfl rfl | exact ev_loadx rfl (fun _ => rfl) rfl Tryd.underlying50 rfl Tryd.sizeOf50 (by assumption) rfl | exact ev_loada rfl (fun _ => rfl) rfl rfl Tryd.underlying50 rfl Tryd.sizeOf50 rfl
    simp only [nmx, seval]
    apply VE.cons
    · first | exact Ev.skip (fun _ => rfl) | exact ev_build rfl (fun _ => rfl) rfl built50_0
    simp only [nmx, seval]
    apply VE.cons
    · first | exact Ev.skip (fun _ => rfl) | exact ev_bin (c := .bool false) rfl (fun _ => rfl) rfl rfl (fun w => eqN_f hrR hr0 _ _ w)
    simp only [nmx, seval]
    apply VE.cons
    · refine ev_pure' (gn rfl) (fun ρ w => by simp only [VS.act, SV.c, List.map_cons, List.map_nil]; go_simp; exact rfl) (fun _ _ => rfl)
    simp only [nmx, seval]
    apply VE.cons
    · exact ev_move rfl (gn rfl)
    simp only [nmx, seval]
    apply VE.cons
    · first | exact Ev.skip (fun _ => rfl) | exact ev_load rfl (fun _ => rfl) rfl rfl Tryd.underlying50 rfl Tryd.sizeOf50 rfl rfl | exact ev_loadx rfl (fun _ => rfl) rfl Tryd.underlying50 rfl Tryd.sizeOf50 (by assumption) rfl | exact ev_loada rfl (fun _ => rfl) rfl rfl Tryd.underlying50 rfl Tryd.sizeOf50 rfl
    simp only [nmx, seval]
    apply VE.cons
    · first | exact Ev.skip (fun _ => rfl) | exact ev_build rfl (fun _ => rfl) rfl built50_0
    simp only [nmx, seval]
    apply VE.cons
    · first | exact Ev.skip (fun _ => rfl) | exact ev_bin (c := .bool false) rfl (fun _ => rfl) rfl rfl (fun w => eqN_f htR ht0 _ _ w)
    simp only [nmx, seval]
    apply VE.cons
    · refine ev_pure' (gn rfl) (fun ρ w => by simp only [VS.act, SV.c, List.map_cons, List.map_nil]; go_simp; exact rfl) (fun _ _ => rfl)
    simp only [nmx, seval]
    exact VE.nil _
  · kernel_rfl
  change VOk _ _ _ _ _
  refine vcond_f rfl ?_
  refine vskip ?_
  change VOk _ _ _ _ _
  refine vseq ?_
  apply vrd (by kernel_rfl)
  · apply VE.cons
    · first | exact ev_load rfl (gn rfl) rfl rfl Tryd.underlying50 rfl Tryd.sizeOf50 rfl rfl | exact ev_loadx rfl (gn rfl) rfl Tryd.underlying50 rfl Tryd.sizeOf50 (by assumption) rfl | exact ev_loada rfl (gn rfl) rfl rfl Tryd.underlying50 rfl Tryd.sizeOf50 rfl
    simp only [nmx, seval]
    apply VE.cons
    · exact ev_call rfl (gn rfl) rfl (en_of Tryd.func22 (by kernel_rfl) rfl) (fun w' hw' => bytesN r w')
    simp only [nmx, seval]
    apply VE.cons
    · first | exact ev_load rfl (gn rfl) rfl rfl Tryd.underlying50 rfl Tryd.sizeOf50 rfl rfl | exact ev_loadx rfl (gn rfl) rfl Tryd.underlying50 rfl Tryd.sizeOf50 (by assumption) rfl | exact ev_loada rfl (gn rfl) rfl rfl Tryd.underlying50 rfl Tryd.sizeOf50 rfl
    simp only [nmx, seval]
    apply VE.cons
    · exact ev_call rfl (gn rfl) rfl (en_of Tryd.func22 (by kernel_rfl) rfl) (fun w' hw' => bytesN t w')
    simp only [nmx, seval]
    apply VE.cons
    · exact ev_alloc rfl rfl (gn rfl) Tryd.zeroValue23
    simp only [nmx, seval]
    apply VE.cons
    · exact ev_alloc rfl rfl (gn rfl) Tryd.zeroValue23
    simp only [nmx, seval]
    apply VE.cons
    · exact ev_store rfl (gn rfl) rfl rfl rfl Tryd.sizeOf23 rfl (by simp) rfl
    simp only [nmx, seval]
    apply VE.cons
    · exact ev_store rfl (gn rfl) rfl rfl rfl Tryd.sizeOf23 rfl (by simp) rfl
    simp only [nmx, seval]
    exact VE.nil _
  · kernel_rfl
  change VOk _ _ _ _ _
  refine vseq ?_
  apply vrd (by kernel_rfl)
  · apply VE.cons
    · exact ev_slicelh (a := 0) (b := 32) rfl (gn rfl) rfl Tryd.underlying24 Tryd.sizeOf5 rfl rfl (by decide) (by decide) (by decide)
    simp only [nmx, seval]
    apply VE.cons
    · exact ev_slicea rfl (gn rfl) rfl Tryd.underlying23 Tryd.sizeOf5
    simp only [nmx, seval]
    apply VE.cons
    · exact ev_copy (news := l32 r) (len := 32) (k := 32) rfl (gn rfl) rfl rfl rfl (rdg_cells rfl rfl rfl (by decide)) Tryd.underlying22 info5 rfl rfl (by first | decide | simp [l32]) rfl (by decide)
    simp only [nmx, seval]
    exact VE.nil _
  · kernel_rfl
  change VOk _ _ _ _ _
  refine vseq ?_
  apply vrd (by kernel_rfl)
  · apply VE.cons
    · exact ev_slicelh (a := 32) (b := 64) rfl (gn rfl) rfl Tryd.underlying24 Tryd.sizeOf5 rfl rfl (by decide) (by decide) (by decide)
    simp only [nmx, seval]
    apply VE.cons
    · exact ev_slicea rfl (gn rfl) rfl Tryd.underlying23 Tryd.sizeOf5
    simp only [nmx, seval]
    apply VE.cons
    · exact ev_copy (news := l32 t) (len := 32) (k := 32) rfl (gn rfl) rfl rfl rfl (rdg_cells rfl rfl rfl (by decide)) Tryd.underlying22 info5 rfl rfl (by first | decide | simp [l32]) rfl (by decide)
    simp only [nmx, seval]
    exact VE.nil _
  · kernel_rfl
  change VOk _ _ _ _ _
  refine vseq ?_
  apply vrp
  · apply VE.cons
    · first | exact ev_load rfl (gn rfl) rfl rfl Tryd.underlying24 rfl Tryd.sizeOf24 rfl rfl | exact ev_loadx rfl (gn rfl) rfl Tryd.underlying24 rfl Tryd.sizeOf24 (by assumption) rfl | exact ev_loada rfl (gn rfl) rfl rfl Tryd.underlying24 rfl Tryd.sizeOf24 rfl
    simp only [nmx, seval]
    apply VE.cons
    · exact ev_store rfl (gn rfl) rfl rfl rfl Tryd.sizeOf24 rfl (by simp) rfl
    simp only [nmx, seval]
    apply VE.cons
    · exact ev_assign rfl (gn rfl)
    simp only [nmx, seval]
    exact VE.nil _
  · kernel_rfl
  change VOk _ _ _ _ _
  refine vret ?_
  refine post_ret (res2 Tryd.results24 (rv_cell rfl rfl Tryd.underlying24 rfl Tryd.sizeOf24 rfl rfl) (rv_tmp rfl)) ?_
  intro ρ w' hr
  exact ⟨rfl, hr.1⟩
theorem Check_f1 {v : Value} {h r t : Nat} (_hh : h < R) (hr : r < R) (_ht : t < R) (w : World) (hL : Laid w) {x y : Nat} (hrd : ∀ w', Bw w w' → Calls Tryd.prog 5 #[v] w' fun e w'' => e = .returned (.tuple #[PT x y, .int .i64 0]) ∧ Bw w' w'') (sr : sec r = false) : Calls Tryd.prog 6 #[v, B32 h, PT r t] w fun e w' => e = .returned (.int .i64 6) ∧ Bw w w' := by
  go_enter Tryd.func6, Tryd.ntmps6
  refine ve_go ?_
  simp only [List.map_cons, List.map_nil]
  refine vseq ?_
  apply vrp
  · apply VE.cons
    · exact ev_box rfl rfl (gn rfl) rfl
    simp only [nmx, seval]
    apply VE.cons
    · exact ev_box rfl rfl (gn rfl) rfl
    simp only [nmx, seval]
    apply VE.cons
    · exact ev_assign rfl (gn rfl)
    simp only [nmx, seval]
    exact VE.nil _
  · kernel_rfl
  change VOk _ _ _ _ _
  refine vseq ?_
  apply vrp
  · apply VE.cons
    · exact ev_move rfl (gn rfl)
    simp only [nmx, seval]
    apply VE.cons
    · exact ev_callb (v := .tuple #[PT x y, .int .i64 0]) rfl (gn rfl) rfl (en_of Tryd.func5 (by kernel_rfl) rfl) (fun w' hw' => hrd w' hw')
    simp only [nmx, seval]
    apply VE.cons
    · exact ev_move rfl (gn rfl)
    simp only [nmx, seval]
    apply VE.cons
    · first | exact ev_extract rfl (gn rfl) rfl rfl | exact ev_extractt rfl (gn rfl) rfl rfl
    simp only [nmx, seval]
    apply VE.cons
    · first | exact ev_extract rfl (gn rfl) rfl rfl | exact ev_extractt rfl (gn rfl) rfl rfl
    simp only [nmx, seval]
    apply VE.cons
    · exact ev_alloc rfl rfl (gn rfl) Tryd.zeroValue26
    simp only [nmx, seval]
    apply VE.cons
    · exact ev_store rfl (gn rfl) rfl rfl rfl Tryd.sizeOf26 rfl (by simp) rfl
    simp only [nmx, seval]
    apply VE.cons
    · exact ev_assign rfl (gn rfl)
    simp only [nmx, seval]
    exact VE.nil _
  · kernel_rfl
  change VOk _ _ _ _ _
  refine vseq ?_
  refine vseq ?_
  apply vrp
  · apply VE.cons
    · exact ev_move rfl (gn rfl)
    simp only [nmx, seval]
    apply VE.cons
    · exact ev_neq (p := false) rfl (gn rfl) rfl rfl (by decide)
    simp only [nmx, seval]
    exact VE.nil _
  · kernel_rfl
  change VOk _ _ _ _ _
  refine vcond_f rfl ?_
  refine vskip ?_
  change VOk _ _ _ _ _
  refine vseq ?_
  apply vrd (by kernel_rfl)
  · apply VE.cons
    · exact ev_slicelh (a := 0) (b := 32) rfl (gn rfl) rfl Tryd.underlying24 Tryd.sizeOf5 rfl rfl (by decide) (by decide) (by decide)
    simp only [nmx, seval]
    apply VE.cons
    · exact ev_arr rfl (gn rfl) rfl Tryd.underlying23 (by decide)
    simp only [nmx, seval]
    apply VE.cons
    · first | exact ev_load rfl (gn rfl) rfl rfl Tryd.underlying23 rfl Tryd.sizeOf23 rfl rfl | exact ev_loadx rfl (gn rfl) rfl Tryd.underlying23 rfl Tryd.sizeOf23 (by assumption) rfl | exact ev_loada rfl (gn rfl) rfl rfl Tryd.underlying23 rfl Tryd.sizeOf23 rfl
    simp only [nmx, seval]
    apply VE.cons
    · exact ev_slicelh (a := 32) (b := 64) rfl (gn rfl) rfl Tryd.underlying24 Tryd.sizeOf5 rfl rfl (by decide) (by decide) (by decide)
    simp only [nmx, seval]
    apply VE.cons
    · exact ev_arr rfl (gn rfl) rfl Tryd.underlying23 (by decide)
    simp only [nmx, seval]
    apply VE.cons
    · first | exact ev_load rfl (gn rfl) rfl rfl Tryd.underlying23 rfl Tryd.sizeOf23 rfl rfl | exact ev_loadx rfl (gn rfl) rfl Tryd.underlying23 rfl Tryd.sizeOf23 (by assumption) rfl | exact ev_loada rfl (gn rfl) rfl rfl Tryd.underlying23 rfl Tryd.sizeOf23 rfl
    simp only [nmx, seval]
    apply VE.cons
    · exact ev_alloc rfl rfl (gn rfl) Tryd.zeroValue23
    simp only [nmx, seval]
    apply VE.cons
    · exact ev_alloc rfl rfl (gn rfl) Tryd.zeroValue23
    simp only [nmx, seval]
    apply VE.cons
    · exact ev_store rfl (gn rfl) rfl rfl rfl Tryd.sizeOf23 rfl (by simp) rfl
    simp only [nmx, seval]
    apply VE.cons
    · exact ev_store rfl (gn rfl) rfl rfl rfl Tryd.sizeOf23 rfl (by simp) rfl
    simp only [nmx, seval]
    exact VE.nil _
  · kernel_rfl
  change VOk _ _ _ _ _
  refine vseq ?_
  refine vseq ?_
  apply vrp
  · apply VE.cons
    · first | exact ev_load rfl (gn rfl) rfl rfl Tryd.underlying23 rfl Tryd.sizeOf23 rfl rfl | exact ev_loadx rfl (gn rfl) rfl Tryd.underlying23 rfl Tryd.sizeOf23 (by assumption) rfl | exact ev_loada rfl (gn rfl) rfl rfl Tryd.underlying23 rfl Tryd.sizeOf23 rfl
    simp only [nmx, seval]
    apply VE.cons
    · exact ev_callb (v := .bool false) rfl (gn rfl) rfl (en_of Tryd.func17 (by kernel_rfl) rfl) (fun w' hw' => by have a := fine_ok hr w' (hL.bw hw'); rw [sr] at a; exact a)
    simp only [nmx, seval]
    apply VE.cons
    · refine ev_pure' (gn rfl) (fun ρ w => by simp only [VS.act, SV.c, List.map_cons, List.map_nil]; go_simp; exact rfl) (fun _ _ => rfl)
    simp only [nmx, seval]
    apply VE.cons
    · exact ev_move rfl (gn rfl)
    simp only [nmx, seval]
    apply VE.cons
    · first | exact Ev.skip (fun _ => rfl) | exact ev_load rfl (fun _ => rfl) rfl rfl Tryd.underlying23 rfl Tryd.sizeOf23 rfl rfl | exact ev_loadx rfl (fun _ => rfl) rfl Tryd.underlying23 rfl Tryd.sizeOf23 (by assumption) rfl | exact ev_loada rfl (fun _ => rfl) rfl rfl Tryd.underlying23 rfl Tryd.sizeOf23 rfl
    simp only [nmx, seval]
    apply VE.cons
    · first | exact Ev.skip (fun _ => rfl) | refine ev_pure' (fun _ => rfl) (fun ρ w => by simp only [VS.act, SV.c, List.map_cons, List.map_nil]; go_simp; exact rfl) (fun _ _ => rfl)
    simp only [nmx, seval]
    apply VE.cons
    · first | exact Ev.skip (fun _ => rfl) | refine ev_pure' (fun _ => rfl) (fun ρ w => by simp only [VS.act, SV.c, List.map_cons, List.map_nil]; go_simp; exact rfl) (fun _ _ => rfl)
    simp only [nmx, seval]
    apply VE.cons
    · refine ev_pure' (gn rfl) (fun ρ w => by simp only [VS.act, SV.c, List.map_cons, List.map_nil]; go_simp; exact rfl) (fun _ _ => rfl)
    simp only [nmx, seval]
    exact VE.nil _
  · kernel_rfl
  change VOk _ _ _ _ _
  refine vcond_t rfl ?_
  refine vseq ?_
  apply vrp
  · apply VE.cons
    · exact ev_assign rfl (gn rfl)
    simp only [nmx, seval]
    exact VE.nil _
  · kernel_rfl
  change VOk _ _ _ _ _
  refine vret ?_
  refine post_ret (res1 Tryd.results6 (rv_tmp rfl)) ?_
  intro ρ w' hr
  exact ⟨rfl, hr.1⟩
theorem Check_f2 {v : Value} {h r t : Nat} (_hh : h < R) (hr : r < R) (ht : t < R) (w : World) (hL : Laid w) {x y : Nat} (hrd : ∀ w', Bw w w' → Calls Tryd.prog 5 #[v] w' fun e w'' => e = .returned (.tuple #[PT x y, .int .i64 0]) ∧ Bw w' w'') (sr : sec r = true) (st : sec t = false) : Calls Tryd.prog 6 #[v, B32 h, PT r t] w fun e w' => e = .returned (.int .i64 6) ∧ Bw w w' := by
  go_enter Tryd.func6, Tryd.ntmps6
  refine ve_go ?_
  simp only [List.map_cons, List.map_nil]
  refine vseq ?_
  apply vrp
  · apply VE.cons
    · exact ev_box rfl rfl (gn rfl) rfl
    simp only [nmx, seval]
    apply VE.cons
    · exact ev_box rfl rfl (gn rfl) rfl
    simp only [nmx, seval]
    apply VE.cons
    · exact ev_assign rfl (gn rfl)
    simp only [nmx, seval]
    exact VE.nil _
  · kernel_rfl
  change VOk _ _ _ _ _
  refine vseq ?_
  apply vrp
  · apply VE.cons
    · exact ev_move rfl (gn rfl)
    simp only [nmx, seval]
    apply VE.cons
    · exact ev_callb (v := .tuple #[PT x y, .int .i64 0]) rfl (gn rfl) rfl (en_of Tryd.func5 (by kernel_rfl) rfl) (fun w' hw' => hrd w' hw')
    simp only [nmx, seval]
    apply VE.cons
    · exact ev_move rfl (gn rfl)
    simp only [nmx, seval]
    apply VE.cons
    · first | exact ev_extract rfl (gn rfl) rfl rfl | exact ev_extractt rfl (gn rfl) rfl rfl
    simp only [nmx, seval]
    apply VE.cons
    · first | exact ev_extract rfl (gn rfl) rfl rfl | exact ev_extractt rfl (gn rfl) rfl rfl
    simp only [nmx, seval]
    apply VE.cons
    · exact ev_alloc rfl rfl (gn rfl) Tryd.zeroValue26
    simp only [nmx, seval]
    apply VE.cons
    · exact ev_store rfl (gn rfl) rfl rfl rfl Tryd.sizeOf26 rfl (by simp) rfl
    simp only [nmx, seval]
    apply VE.cons
    · exact ev_assign rfl (gn rfl)
    simp only [nmx, seval]
    exact VE.nil _
  · kernel_rfl
  change VOk _ _ _ _ _
  refine vseq ?_
  refine vseq ?_
  apply vrp
  · apply VE.cons
    · exact ev_move rfl (gn rfl)
    simp only [nmx, seval]
    apply VE.cons
    · exact ev_neq (p := false) rfl (gn rfl) rfl rfl (by decide)
    simp only [nmx, seval]
    exact VE.nil _
  · kernel_rfl
  change VOk _ _ _ _ _
  refine vcond_f rfl ?_
  refine vskip ?_
  change VOk _ _ _ _ _
  refine vseq ?_
  apply vrd (by kernel_rfl)
  · apply VE.cons
    · exact ev_slicelh (a := 0) (b := 32) rfl (gn rfl) rfl Tryd.underlying24 Tryd.sizeOf5 rfl rfl (by decide) (by decide) (by decide)
    simp only [nmx, seval]
    apply VE.cons
    · exact ev_arr rfl (gn rfl) rfl Tryd.underlying23 (by decide)
    simp only [nmx, seval]
    apply VE.cons
    · first | exact ev_load rfl (gn rfl) rfl rfl Tryd.underlying23 rfl Tryd.sizeOf23 rfl rfl | exact ev_loadx rfl (gn rfl) rfl Tryd.underlying23 rfl Tryd.sizeOf23 (by assumption) rfl | exact ev_loada rfl (gn rfl) rfl rfl Tryd.underlying23 rfl Tryd.sizeOf23 rfl
    simp only [nmx, seval]
    apply VE.cons
    · exact ev_slicelh (a := 32) (b := 64) rfl (gn rfl) rfl Tryd.underlying24 Tryd.sizeOf5 rfl rfl (by decide) (by decide) (by decide)
    simp only [nmx, seval]
    apply VE.cons
    · exact ev_arr rfl (gn rfl) rfl Tryd.underlying23 (by decide)
    simp only [nmx, seval]
    apply VE.cons
    · first | exact ev_load rfl (gn rfl) rfl rfl Tryd.underlying23 rfl Tryd.sizeOf23 rfl rfl | exact ev_loadx rfl (gn rfl) rfl Tryd.underlying23 rfl Tryd.sizeOf23 (by assumption) rfl | exact ev_loada rfl (gn rfl) rfl rfl Tryd.underlying23 rfl Tryd.sizeOf23 rfl
    simp only [nmx, seval]
    apply VE.cons
    · exact ev_alloc rfl rfl (gn rfl) Tryd.zeroValue23
    simp only [nmx, seval]
    apply VE.cons
    · exact ev_alloc rfl rfl (gn rfl) Tryd.zeroValue23
    simp only [nmx, seval]
    apply VE.cons
    · exact ev_store rfl (gn rfl) rfl rfl rfl Tryd.sizeOf23 rfl (by simp) rfl
    simp only [nmx, seval]
    apply VE.cons
    · exact ev_store rfl (gn rfl) rfl rfl rfl Tryd.sizeOf23 rfl (by simp) rfl
    simp only [nmx, seval]
    exact VE.nil _
  · kernel_rfl
  change VOk _ _ _ _ _
  refine vseq ?_
  refine vseq ?_
  apply vrp
  · apply VE.cons
    · first | exact ev_load rfl (gn rfl) rfl rfl Tryd.underlying23 rfl Tryd.sizeOf23 rfl rfl | exact ev_loadx rfl (gn rfl) rfl Tryd.underlying23 rfl Tryd.sizeOf23 (by assumption) rfl | exact ev_loada rfl (gn rfl) rfl rfl Tryd.underlying23 rfl Tryd.sizeOf23 rfl
    simp only [nmx, seval]
    apply VE.cons
    · exact ev_callb (v := .bool true) rfl (gn rfl) rfl (en_of Tryd.func17 (by kernel_rfl) rfl) (fun w' hw' => by have a := fine_ok hr w' (hL.bw hw'); rw [sr] at a; exact a)
    simp only [nmx, seval]
    apply VE.cons
    · refine ev_pure' (gn rfl) (fun ρ w => by simp only [VS.act, SV.c, List.map_cons, List.map_nil]; go_simp; exact rfl) (fun _ _ => rfl)
    simp only [nmx, seval]
    apply VE.cons
    · exact ev_move rfl (gn rfl)
    simp only [nmx, seval]
    apply VE.cons
    · first | exact Ev.skip (fun _ => rfl) | exact ev_load rfl (fun _ => rfl) rfl rfl Tryd.underlying23 rfl Tryd.sizeOf23 rfl rfl | exact ev_loadx rfl (fun _ => rfl) rfl Tryd.underlying23 rfl Tryd.sizeOf23 (by assumption) rfl | exact ev_loada rfl (fun _ => rfl) rfl rfl Tryd.underlying23 rfl Tryd.sizeOf23 rfl
    simp only [nmx, seval]
    apply VE.cons
    · first | exact Ev.skip (fun _ => rfl) | exact ev_callb (v := .bool false) rfl (fun _ => rfl) rfl (en_of Tryd.func17 (by kernel_rfl) rfl) (fun w' hw' => by have a := fine_ok ht w' (hL.bw hw'); rw [st] at a; exact a)
    simp only [nmx, seval]
    apply VE.cons
    · first | exact Ev.skip (fun _ => rfl) | refine ev_pure' (fun _ => rfl) (fun ρ w => by simp only [VS.act, SV.c, List.map_cons, List.map_nil]; go_simp; exact rfl) (fun _ _ => rfl)
    simp only [nmx, seval]
    apply VE.cons
    · refine ev_pure' (gn rfl) (fun ρ w => by simp only [VS.act, SV.c, List.map_cons, List.map_nil]; go_simp; exact rfl) (fun _ _ => rfl)
    simp only [nmx, seval]
    exact VE.nil _
  · kernel_rfl
  change VOk _ _ _ _ _
  refine vcond_t rfl ?_
  refine vseq ?_
  apply vrp
  · apply VE.cons
    · exact ev_assign rfl (gn rfl)
    simp only [nmx, seval]
    exact VE.nil _
  · kernel_rfl
  change VOk _ _ _ _ _
  refine vret ?_
  refine post_ret (res1 Tryd.results6 (rv_tmp rfl)) ?_
  intro ρ w' hr
  exact ⟨rfl, hr.1⟩
theorem Check_i {v : Value} {h r t : Nat} (hh : h < R) (hr : r < R) (ht : t < R) (w : World) (hL : Laid w) {x y i : Nat} {A B X : Pt} (hx : x < R) (hy : y < R) (hrd : ∀ w', Bw w w' → Calls Tryd.prog 5 #[v] w' fun e w'' => e = .returned (.tuple #[PT x y, .int .i64 0]) ∧ Bw w' w'') (sr : sec r = true) (st : sec t = true) (hi : i < nn) (hv : i * t % nn = 1) (hA : smul (i * h % nn) base = A) (hB : smul (i * r % nn) (toP x y) = B) (oA : A.on) (oB : B.on) (hX : add A B = X) (oX : X.on) (hi0 : X = .inf) : Calls Tryd.prog 6 #[v, B32 h, PT r t] w fun e w' => e = .returned (.int .i64 6) ∧ Bw w w' := by
  go_enter Tryd.func6, Tryd.ntmps6
  refine ve_go ?_
  simp only [List.map_cons, List.map_nil]
  refine vseq ?_
  apply vrp
  · apply VE.cons
    · exact ev_box rfl rfl (gn rfl) rfl
    simp only [nmx, seval]
    apply VE.cons
    · exact ev_box rfl rfl (gn rfl) rfl
    simp only [nmx, seval]
    apply VE.cons
    · exact ev_assign rfl (gn rfl)
    simp only [nmx, seval]
    exact VE.nil _
  · kernel_rfl
  change VOk _ _ _ _ _
  refine vseq ?_
  apply vrp
  · apply VE.cons
    · exact ev_move rfl (gn rfl)
    simp only [nmx, seval]
    apply VE.cons
    · exact ev_callb (v := .tuple #[PT x y, .int .i64 0]) rfl (gn rfl) rfl (en_of Tryd.func5 (by kernel_rfl) rfl) (fun w' hw' => hrd w' hw')
    simp only [nmx, seval]
    apply VE.cons
    · exact ev_move rfl (gn rfl)
    simp only [nmx, seval]
    apply VE.cons
    · first | exact ev_extract rfl (gn rfl) rfl rfl | exact ev_extractt rfl (gn rfl) rfl rfl
    simp only [nmx, seval]
    apply VE.cons
    · first | exact ev_extract rfl (gn rfl) rfl rfl | exact ev_extractt rfl (gn rfl) rfl rfl
    simp only [nmx, seval]
    apply VE.cons
    · exact ev_alloc rfl rfl (gn rfl) Tryd.zeroValue26
    simp only [nmx, seval]
    apply VE.cons
    · exact ev_store rfl (gn rfl) rfl rfl rfl Tryd.sizeOf26 rfl (by simp) rfl
    simp only [nmx, seval]
    apply VE.cons
    · exact ev_assign rfl (gn rfl)
    simp only [nmx, seval]
    exact VE.nil _
  · kernel_rfl
  change VOk _ _ _ _ _
  refine vseq ?_
  refine vseq ?_
  apply vrp
  · apply VE.cons
    · exact ev_move rfl (gn rfl)
    simp only [nmx, seval]
    apply VE.cons
    · exact ev_neq (p := false) rfl (gn rfl) rfl rfl (by decide)
    simp only [nmx, seval]
    exact VE.nil _
  · kernel_rfl
  change VOk _ _ _ _ _
  refine vcond_f rfl ?_
  refine vskip ?_
  change VOk _ _ _ _ _
  refine vseq ?_
  apply vrd (by kernel_rfl)
  · apply VE.cons
    · exact ev_slicelh (a := 0) (b := 32) rfl (gn rfl) rfl Tryd.underlying24 Tryd.sizeOf5 rfl rfl (by decide) (by decide) (by decide)
    simp only [nmx, seval]
    apply VE.cons
    · exact ev_arr rfl (gn rfl) rfl Tryd.underlying23 (by decide)
    simp only [nmx, seval]
    apply VE.cons
    · first | exact ev_load rfl (gn rfl) rfl rfl Tryd.underlying23 rfl Tryd.sizeOf23 rfl rfl | exact ev_loadx rfl (gn rfl) rfl Tryd.underlying23 rfl Tryd.sizeOf23 (by assumption) rfl | exact ev_loada rfl (gn rfl) rfl rfl Tryd.underlying23 rfl Tryd.sizeOf23 rfl
    simp only [nmx, seval]
    apply VE.cons
    · exact ev_slicelh (a := 32) (b := 64) rfl (gn rfl) rfl Tryd.underlying24 Tryd.sizeOf5 rfl rfl (by decide) (by decide) (by decide)
    simp only [nmx, seval]
    apply VE.cons
    · exact ev_arr rfl (gn rfl) rfl Tryd.underlying23 (by decide)
    simp only [nmx, seval]
    apply VE.cons
    · first | exact ev_load rfl (gn rfl) rfl rfl Tryd.underlying23 rfl Tryd.sizeOf23 rfl rfl | exact ev_loadx rfl (gn rfl) rfl Tryd.underlying23 rfl Tryd.sizeOf23 (by assumption) rfl | exact ev_loada rfl (gn rfl) rfl rfl Tryd.underlying23 rfl Tryd.sizeOf23 rfl
    simp only [nmx, seval]
    apply VE.cons
    · exact ev_alloc rfl rfl (gn rfl) Tryd.zeroValue23
    simp only [nmx, seval]
    apply VE.cons
    · exact ev_alloc rfl rfl (gn rfl) Tryd.zeroValue23
    simp only [nmx, seval]
    apply VE.cons
    · exact ev_store rfl (gn rfl) rfl rfl rfl Tryd.sizeOf23 rfl (by simp) rfl
    simp only [nmx, seval]
    apply VE.cons
    · exact ev_store rfl (gn rfl) rfl rfl rfl Tryd.sizeOf23 rfl (by simp) rfl
    simp only [nmx, seval]
    exact VE.nil _
  · kernel_rfl
  change VOk _ _ _ _ _
  refine vseq ?_
  refine vseq ?_
  apply vrp
  · apply VE.cons
    · first | exact ev_load rfl (gn rfl) rfl rfl Tryd.underlying23 rfl Tryd.sizeOf23 rfl rfl | exact ev_loadx rfl (gn rfl) rfl Tryd.underlying23 rfl Tryd.sizeOf23 (by assumption) rfl | exact ev_loada rfl (gn rfl) rfl rfl Tryd.underlying23 rfl Tryd.sizeOf23 rfl
    simp only [nmx, seval]
    apply VE.cons
    · exact ev_callb (v := .bool true) rfl (gn rfl) rfl (en_of Tryd.func17 (by kernel_rfl) rfl) (fun w' hw' => by have a := fine_ok hr w' (hL.bw hw'); rw [sr] at a; exact a)
    simp only [nmx, seval]
    apply VE.cons
    · refine ev_pure' (gn rfl) (fun ρ w => by simp only [VS.act, SV.c, List.map_cons, List.map_nil]; go_simp; exact rfl) (fun _ _ => rfl)
    simp only [nmx, seval]
    apply VE.cons
    · exact ev_move rfl (gn rfl)
    simp only [nmx, seval]
    apply VE.cons
    · first | exact Ev.skip (fun _ => rfl) | exact ev_load rfl (fun _ => rfl) rfl rfl Tryd.underlying23 rfl Tryd.sizeOf23 rfl rfl | exact ev_loadx rfl (fun _ => rfl) rfl Tryd.underlying23 rfl Tryd.sizeOf23 (by assumption) rfl | exact ev_loada rfl (fun _ => rfl) rfl rfl Tryd.underlying23 rfl Tryd.sizeOf23 rfl
    simp only [nmx, seval]
    apply VE.cons
    · first | exact Ev.skip (fun _ => rfl) | exact ev_callb (v := .bool true) rfl (fun _ => rfl) rfl (en_of Tryd.func17 (by kernel_rfl) rfl) (fun w' hw' => by have a := fine_ok ht w' (hL.bw hw'); rw [st] at a; exact a)
    simp only [nmx, seval]
    apply VE.cons
    · first | exact Ev.skip (fun _ => rfl) | refine ev_pure' (fun _ => rfl) (fun ρ w => by simp only [VS.act, SV.c, List.map_cons, List.map_nil]; go_simp; exact rfl) (fun _ _ => rfl)
    simp only [nmx, seval]
    apply VE.cons
    · refine ev_pure' (gn rfl) (fun ρ w => by simp only [VS.act, SV.c, List.map_cons, List.map_nil]; go_simp; exact rfl) (fun _ _ => rfl)
    simp only [nmx, seval]
    exact VE.nil _
  · kernel_rfl
  change VOk _ _ _ _ _
  refine vcond_f rfl ?_
  refine vskip ?_
  change VOk _ _ _ _ _
  refine vseq ?_
  apply vrp
  · apply VE.cons
    · exact ev_calldt (D := datM nn) (ys := [N nn]) [] rfl rfl (gn rfl) rfl (en_of Tryd.func18 (by kernel_rfl) rfl) (fun ρ S w' hb hR => order_d w' (hL.bw hb))
    simp only [nmx, seval]
    apply VE.cons
    · exact ev_move rfl (gn rfl)
    simp only [nmx, seval]
    apply VE.cons
    · first | exact ev_extract rfl (gn rfl) rfl rfl | exact ev_extractt rfl (gn rfl) rfl rfl
    simp only [nmx, seval]
    apply VE.cons
    · first | exact ev_extract rfl (gn rfl) rfl rfl | exact ev_extractt rfl (gn rfl) rfl rfl
    simp only [nmx, seval]
    apply VE.cons
    · exact ev_alloc rfl rfl (gn rfl) Tryd.zeroValue50
    simp only [nmx, seval]
    apply VE.cons
    · exact ev_assign rfl (gn rfl)
    simp only [nmx, seval]
    apply VE.cons
    · exact ev_store rfl (gn rfl) rfl rfl rfl Tryd.sizeOf50 rfl (by simp) rfl
    simp only [nmx, seval]
    exact VE.nil _
  · kernel_rfl
  change VOk _ _ _ _ _
  refine vseq ?_
  apply vrp
  · apply VE.cons
    · exact ev_move rfl (gn rfl)
    simp only [nmx, seval]
    apply VE.cons
    · first | exact ev_load rfl (gn rfl) rfl rfl Tryd.underlying23 rfl Tryd.sizeOf23 rfl rfl | exact ev_loadx rfl (gn rfl) rfl Tryd.underlying23 rfl Tryd.sizeOf23 (by assumption) rfl | exact ev_loada rfl (gn rfl) rfl rfl Tryd.underlying23 rfl Tryd.sizeOf23 rfl
    simp only [nmx, seval]
    apply VE.cons
    · exact ev_call rfl (gn rfl) rfl (en_of Tryd.func20 (by kernel_rfl) rfl) (fun w' hw' => ofN t ht w')
    simp only [nmx, seval]
    apply VE.cons
    · exact ev_callp (v := .tuple #[N i, .int .i64 0]) [40] rfl (gn rfl) rfl (en_of Tryd.func19 (by kernel_rfl) rfl) (fun ρ S w' hb hR => c_inv (id := 40) hR (by simp) rfl ht hi hv)
    simp only [nmx, seval]
    apply VE.cons
    · exact ev_move rfl (gn rfl)
    simp only [nmx, seval]
    apply VE.cons
    · first | exact ev_extract rfl (gn rfl) rfl rfl | exact ev_extractt rfl (gn rfl) rfl rfl
    simp only [nmx, seval]
    apply VE.cons
    · first | exact ev_extract rfl (gn rfl) rfl rfl | exact ev_extractt rfl (gn rfl) rfl rfl
    simp only [nmx, seval]
    apply VE.cons
    · exact ev_alloc rfl rfl (gn rfl) Tryd.zeroValue50
    simp only [nmx, seval]
    apply VE.cons
    · exact ev_store rfl (gn rfl) rfl rfl rfl Tryd.sizeOf50 rfl (by simp) rfl
    simp only [nmx, seval]
    apply VE.cons
    · exact ev_assign rfl (gn rfl)
    simp only [nmx, seval]
    exact VE.nil _
  · kernel_rfl
  change VOk _ _ _ _ _
  refine vseq ?_
  refine vseq ?_
  apply vrp
  · apply VE.cons
    · exact ev_move rfl (gn rfl)
    simp only [nmx, seval]
    apply VE.cons
    · exact ev_neq (p := false) rfl (gn rfl) rfl rfl (by decide)
    simp only [nmx, seval]
    exact VE.nil _
  · kernel_rfl
  change VOk _ _ _ _ _
  refine vcond_f rfl ?_
  refine vskip ?_
  change VOk _ _ _ _ _
  refine vseq ?_
  apply vrd (by kernel_rfl)
  · apply VE.cons
    · exact ev_move rfl (gn rfl)
    simp only [nmx, seval]
    apply VE.cons
    · first | exact ev_load rfl (gn rfl) rfl rfl Tryd.underlying50 rfl Tryd.sizeOf50 rfl rfl | exact ev_loadx rfl (gn rfl) rfl Tryd.underlying50 rfl Tryd.sizeOf50 (by assumption) rfl | exact ev_loada rfl (gn rfl) rfl rfl Tryd.underlying50 rfl Tryd.sizeOf50 rfl
    simp only [nmx, seval]
    apply VE.cons
    · first | exact ev_load rfl (gn rfl) rfl rfl Tryd.underlying23 rfl Tryd.sizeOf23 rfl rfl | exact ev_loadx rfl (gn rfl) rfl Tryd.underlying23 rfl Tryd.sizeOf23 (by assumption) rfl | exact ev_loada rfl (gn rfl) rfl rfl Tryd.underlying23 rfl Tryd.sizeOf23 rfl
    simp only [nmx, seval]
    apply VE.cons
    · exact ev_call rfl (gn rfl) rfl (en_of Tryd.func20 (by kernel_rfl) rfl) (fun w' hw' => ofN h hh w')
    simp only [nmx, seval]
    apply VE.cons
    · exact ev_callp (v := N (i * h % nn)) [40] rfl (gn rfl) rfl (en_of Tryd.func21 (by kernel_rfl) rfl) (fun ρ S w' hb hR => c_mul (id := 40) hR (by simp) rfl (lt_R hi) hh)
    simp only [nmx, seval]
    apply VE.cons
    · exact ev_move rfl (gn rfl)
    simp only [nmx, seval]
    apply VE.cons
    · first | exact ev_load rfl (gn rfl) rfl rfl Tryd.underlying50 rfl Tryd.sizeOf50 rfl rfl | exact ev_loadx rfl (gn rfl) rfl Tryd.underlying50 rfl Tryd.sizeOf50 (by assumption) rfl | exact ev_loada rfl (gn rfl) rfl rfl Tryd.underlying50 rfl Tryd.sizeOf50 rfl
    simp only [nmx, seval]
    apply VE.cons
    · first | exact ev_load rfl (gn rfl) rfl rfl Tryd.underlying23 rfl Tryd.sizeOf23 rfl rfl | exact ev_loadx rfl (gn rfl) rfl Tryd.underlying23 rfl Tryd.sizeOf23 (by assumption) rfl | exact ev_loada rfl (gn rfl) rfl rfl Tryd.underlying23 rfl Tryd.sizeOf23 rfl
    simp only [nmx, seval]
    apply VE.cons
    · exact ev_call rfl (gn rfl) rfl (en_of Tryd.func20 (by kernel_rfl) rfl) (fun w' hw' => ofN r hr w')
    simp only [nmx, seval]
    apply VE.cons
    · exact ev_callp (v := N (i * r % nn)) [40] rfl (gn rfl) rfl (en_of Tryd.func21 (by kernel_rfl) rfl) (fun ρ S w' hb hR => c_mul (id := 40) hR (by simp) rfl (lt_R hi) hr)
    simp only [nmx, seval]
    apply VE.cons
    · exact ev_alloc rfl rfl (gn rfl) Tryd.zeroValue50
    simp only [nmx, seval]
    apply VE.cons
    · exact ev_alloc rfl rfl (gn rfl) Tryd.zeroValue50
    simp only [nmx, seval]
    apply VE.cons
    · exact ev_store rfl (gn rfl) rfl rfl rfl Tryd.sizeOf50 rfl (by simp) rfl
    simp only [nmx, seval]
    apply VE.cons
    · exact ev_store rfl (gn rfl) rfl rfl rfl Tryd.sizeOf50 rfl (by simp) rfl
    simp only [nmx, seval]
    exact VE.nil _
  · kernel_rfl
  change VOk _ _ _ _ _
  refine vseq ?_
  apply vrd (by kernel_rfl)
  · apply VE.cons
    · first | exact ev_load rfl (gn rfl) rfl rfl Tryd.underlying50 rfl Tryd.sizeOf50 rfl rfl | exact ev_loadx rfl (gn rfl) rfl Tryd.underlying50 rfl Tryd.sizeOf50 (by assumption) rfl | exact ev_loada rfl (gn rfl) rfl rfl Tryd.underlying50 rfl Tryd.sizeOf50 rfl
    simp only [nmx, seval]
    apply VE.cons
    · exact ev_call rfl (gn rfl) rfl (en_of Tryd.func22 (by kernel_rfl) rfl) (fun w' hw' => bytesN (i * h % nn) w')
    simp only [nmx, seval]
    apply VE.cons
    · exact ev_call rfl (gn rfl) rfl (en_of Tryd.func13 (by kernel_rfl) rfl) (fun w' hw' => baseP w' (hL.bw hw'))
    simp only [nmx, seval]
    apply VE.cons
    · exact ev_call rfl (gn rfl) rfl (en_of Tryd.func12 (by kernel_rfl) rfl) (fun w' hw' => TimesE (mod_R _) hA TollEc.base_on w' (hL.bw hw'))
    simp only [nmx, seval]
    apply VE.cons
    · first | exact ev_load rfl (gn rfl) rfl rfl Tryd.underlying50 rfl Tryd.sizeOf50 rfl rfl | exact ev_loadx rfl (gn rfl) rfl Tryd.underlying50 rfl Tryd.sizeOf50 (by assumption) rfl | exact ev_loada rfl (gn rfl) rfl rfl Tryd.underlying50 rfl Tryd.sizeOf50 rfl
    simp only [nmx, seval]
    apply VE.cons
    · exact ev_call rfl (gn rfl) rfl (en_of Tryd.func22 (by kernel_rfl) rfl) (fun w' hw' => bytesN (i * r % nn) w')
    simp only [nmx, seval]
    apply VE.cons
    · first | exact ev_load rfl (gn rfl) rfl rfl Tryd.underlying26 rfl Tryd.sizeOf26 rfl rfl | exact ev_loadx rfl (gn rfl) rfl Tryd.underlying26 rfl Tryd.sizeOf26 (by assumption) rfl | exact ev_loada rfl (gn rfl) rfl rfl Tryd.underlying26 rfl Tryd.sizeOf26 rfl
    simp only [nmx, seval]
    apply VE.cons
    · exact ev_call rfl (gn rfl) rfl (en_of Tryd.func12 (by kernel_rfl) rfl) (fun w' hw' => TimesX (mod_R _) hx hy hB w' (hL.bw hw'))
    simp only [nmx, seval]
    apply VE.cons
    · exact ev_call rfl (gn rfl) rfl (en_of Tryd.func11 (by kernel_rfl) rfl) (fun w' hw' => AddE hX oA oB w' (hL.bw hw'))
    simp only [nmx, seval]
    apply VE.cons
    · exact ev_alloc rfl rfl (gn rfl) Tryd.zeroValue26
    simp only [nmx, seval]
    apply VE.cons
    · exact ev_store rfl (gn rfl) rfl rfl rfl Tryd.sizeOf26 rfl (by simp) rfl
    simp only [nmx, seval]
    exact VE.nil _
  · kernel_rfl
  change VOk _ _ _ _ _
  refine vseq ?_
  refine vseq ?_
  apply vrd (by kernel_rfl)
  · apply VE.cons
    · first | exact ev_load rfl (gn rfl) rfl rfl Tryd.underlying26 rfl Tryd.sizeOf26 rfl rfl | exact ev_loadx rfl (gn rfl) rfl Tryd.underlying26 rfl Tryd.sizeOf26 (by assumption) rfl | exact ev_loada rfl (gn rfl) rfl rfl Tryd.underlying26 rfl Tryd.sizeOf26 rfl
    simp only [nmx, seval]
    apply VE.cons
    · exact ev_build rfl (gn rfl) rfl built24_0
    simp only [nmx, seval]
    apply VE.cons
    · exact ev_bin (c := .bool true) rfl (gn rfl) rfl rfl (fun w => eqP_t oX hi0 _ _ w)
    simp only [nmx, seval]
    apply VE.cons
    · exact ev_move rfl (gn rfl)
    simp only [nmx, seval]
    apply VE.cons
    · first | exact Ev.skip (fun _ => rfl) | exact ev_move rfl (fun _ => rfl)
    simp only [nmx, seval]
    apply VE.cons
    · first | exact Ev.skip (fun _ => rfl) | exact ev_field rfl (fun _ => rfl) rfl Tryd.underlying26 rfl Tryd.sizeOf23 | exact ev_fieldx rfl (fun _ => rfl) rfl Tryd.underlying26 rfl Tryd.sizeOf23
    simp only [nmx, seval]
    apply VE.cons
    · first | exact Ev.skip (fun _ => rfl) | exact ev_load rfl (fun _ => rfl) rfl rfl Tryd.underlying23 rfl Tryd.sizeOf23 rfl rfl | exact ev_loadx rfl (fun _ => rfl) rfl Tryd.underlying23 rfl Tryd.sizeOf23 (by assumption) rfl | exact ev_loada rfl (fun _ => rfl) rfl rfl Tryd.underlying23 rfl Tryd.sizeOf23 rfl
    simp only [nmx, seval]
    apply VE.cons
    · first | exact Ev.skip (fun _ => rfl) | refine ev_pure' (fun _ => rfl) (fun ρ w => by simp only [VS.act, SV.c, List.map_cons, List.map_nil]; go_simp; exact rfl) (fun _ _ => rfl)
    simp only [nmx, seval]
    apply VE.cons
    · first | exact Ev.skip (fun _ => rfl) | refine ev_pure' (fun _ => rfl) (fun ρ w => by simp only [VS.act, SV.c, List.map_cons, List.map_nil]; go_simp; exact rfl) (fun _ _ => rfl)
    simp only [nmx, seval]
    apply VE.cons
    · first | exact Ev.skip (fun _ => rfl) | exact ev_load rfl (fun _ => rfl) rfl rfl Tryd.underlying23 rfl Tryd.sizeOf23 rfl rfl | exact ev_loadx rfl (fun _ => rfl) rfl Tryd.underlying23 rfl Tryd.sizeOf23 (by assumption) rfl | exact ev_loada rfl (fun _ => rfl) rfl rfl Tryd.underlying23 rfl Tryd.sizeOf23 rfl
    simp only [nmx, seval]
    apply VE.cons
    · first | exact Ev.skip (fun _ => rfl) | refine ev_pure' (fun _ => rfl) (fun ρ w => by simp only [VS.act, SV.c, List.map_cons, List.map_nil]; go_simp; exact rfl) (fun _ _ => rfl)
    simp only [nmx, seval]
    apply VE.cons
    · first | exact Ev.skip (fun _ => rfl) | refine ev_pure' (fun _ => rfl) (fun ρ w => by simp only [VS.act, SV.c, List.map_cons, List.map_nil]; go_simp; exact rfl) (fun _ _ => rfl)
    simp only [nmx, seval]
    apply VE.cons
    · refine ev_pure' (gn rfl) (fun ρ w => by simp only [VS.act, SV.c, List.map_cons, List.map_nil]; go_simp; exact rfl) (fun _ _ => rfl)
    simp only [nmx, seval]
    exact VE.nil _
  · kernel_rfl
  change VOk _ _ _ _ _
  refine vcond_t rfl ?_
  refine vseq ?_
  apply vrp
  · apply VE.cons
    · exact ev_assign rfl (gn rfl)
    simp only [nmx, seval]
    exact VE.nil _
  · kernel_rfl
  change VOk _ _ _ _ _
  refine vret ?_
  refine post_ret (res1 Tryd.results6 (rv_tmp rfl)) ?_
  intro ρ w' hr
  exact ⟨rfl, hr.1⟩
theorem Check_b {v : Value} {h r t : Nat} (hh : h < R) (hr : r < R) (ht : t < R) (w : World) (hL : Laid w) {x y i : Nat} {A B X : Pt} (hx : x < R) (hy : y < R) (hrd : ∀ w', Bw w w' → Calls Tryd.prog 5 #[v] w' fun e w'' => e = .returned (.tuple #[PT x y, .int .i64 0]) ∧ Bw w' w'') (sr : sec r = true) (st : sec t = true) (hi : i < nn) (hv : i * t % nn = 1) (hA : smul (i * h % nn) base = A) (hB : smul (i * r % nn) (toP x y) = B) (oA : A.on) (oB : B.on) (hX : add A B = X) (oX : X.on) (hi0 : X ≠ .inf) (hne : xv X % nn ≠ r) : Calls Tryd.prog 6 #[v, B32 h, PT r t] w fun e w' => e = .returned (.int .i64 6) ∧ Bw w w' := by
  go_enter Tryd.func6, Tryd.ntmps6
  refine ve_go ?_
  simp only [List.map_cons, List.map_nil]
  refine vseq ?_
  apply vrp
  · apply VE.cons
    · exact ev_box rfl rfl (gn rfl) rfl
    simp only [nmx, seval]
    apply VE.cons
    · exact ev_box rfl rfl (gn rfl) rfl
    simp only [nmx, seval]
    apply VE.cons
    · exact ev_assign rfl (gn rfl)
    simp only [nmx, seval]
    exact VE.nil _
  · kernel_rfl
  change VOk _ _ _ _ _
  refine vseq ?_
  apply vrp
  · apply VE.cons
    · exact ev_move rfl (gn rfl)
    simp only [nmx, seval]
    apply VE.cons
    · exact ev_callb (v := .tuple #[PT x y, .int .i64 0]) rfl (gn rfl) rfl (en_of Tryd.func5 (by kernel_rfl) rfl) (fun w' hw' => hrd w' hw')
    simp only [nmx, seval]
    apply VE.cons
    · exact ev_move rfl (gn rfl)
    simp only [nmx, seval]
    apply VE.cons
    · first | exact ev_extract rfl (gn rfl) rfl rfl | exact ev_extractt rfl (gn rfl) rfl rfl
    simp only [nmx, seval]
    apply VE.cons
    · first | exact ev_extract rfl (gn rfl) rfl rfl | exact ev_extractt rfl (gn rfl) rfl rfl
    simp only [nmx, seval]
    apply VE.cons
    · exact ev_alloc rfl rfl (gn rfl) Tryd.zeroValue26
    simp only [nmx, seval]
    apply VE.cons
    · exact ev_store rfl (gn rfl) rfl rfl rfl Tryd.sizeOf26 rfl (by simp) rfl
    simp only [nmx, seval]
    apply VE.cons
    · exact ev_assign rfl (gn rfl)
    simp only [nmx, seval]
    exact VE.nil _
  · kernel_rfl
  change VOk _ _ _ _ _
  refine vseq ?_
  refine vseq ?_
  apply vrp
  · apply VE.cons
    · exact ev_move rfl (gn rfl)
    simp only [nmx, seval]
    apply VE.cons
    · exact ev_neq (p := false) rfl (gn rfl) rfl rfl (by decide)
    simp only [nmx, seval]
    exact VE.nil _
  · kernel_rfl
  change VOk _ _ _ _ _
  refine vcond_f rfl ?_
  refine vskip ?_
  change VOk _ _ _ _ _
  refine vseq ?_
  apply vrd (by kernel_rfl)
  · apply VE.cons
    · exact ev_slicelh (a := 0) (b := 32) rfl (gn rfl) rfl Tryd.underlying24 Tryd.sizeOf5 rfl rfl (by decide) (by decide) (by decide)
    simp only [nmx, seval]
    apply VE.cons
    · exact ev_arr rfl (gn rfl) rfl Tryd.underlying23 (by decide)
    simp only [nmx, seval]
    apply VE.cons
    · first | exact ev_load rfl (gn rfl) rfl rfl Tryd.underlying23 rfl Tryd.sizeOf23 rfl rfl | exact ev_loadx rfl (gn rfl) rfl Tryd.underlying23 rfl Tryd.sizeOf23 (by assumption) rfl | exact ev_loada rfl (gn rfl) rfl rfl Tryd.underlying23 rfl Tryd.sizeOf23 rfl
    simp only [nmx, seval]
    apply VE.cons
    · exact ev_slicelh (a := 32) (b := 64) rfl (gn rfl) rfl Tryd.underlying24 Tryd.sizeOf5 rfl rfl (by decide) (by decide) (by decide)
    simp only [nmx, seval]
    apply VE.cons
    · exact ev_arr rfl (gn rfl) rfl Tryd.underlying23 (by decide)
    simp only [nmx, seval]
    apply VE.cons
    · first | exact ev_load rfl (gn rfl) rfl rfl Tryd.underlying23 rfl Tryd.sizeOf23 rfl rfl | exact ev_loadx rfl (gn rfl) rfl Tryd.underlying23 rfl Tryd.sizeOf23 (by assumption) rfl | exact ev_loada rfl (gn rfl) rfl rfl Tryd.underlying23 rfl Tryd.sizeOf23 rfl
    simp only [nmx, seval]
    apply VE.cons
    · exact ev_alloc rfl rfl (gn rfl) Tryd.zeroValue23
    simp only [nmx, seval]
    apply VE.cons
    · exact ev_alloc rfl rfl (gn rfl) Tryd.zeroValue23
    simp only [nmx, seval]
    apply VE.cons
    · exact ev_store rfl (gn rfl) rfl rfl rfl Tryd.sizeOf23 rfl (by simp) rfl
    simp only [nmx, seval]
    apply VE.cons
    · exact ev_store rfl (gn rfl) rfl rfl rfl Tryd.sizeOf23 rfl (by simp) rfl
    simp only [nmx, seval]
    exact VE.nil _
  · kernel_rfl
  change VOk _ _ _ _ _
  refine vseq ?_
  refine vseq ?_
  apply vrp
  · apply VE.cons
    · first | exact ev_load rfl (gn rfl) rfl rfl Tryd.underlying23 rfl Tryd.sizeOf23 rfl rfl | exact ev_loadx rfl (gn rfl) rfl Tryd.underlying23 rfl Tryd.sizeOf23 (by assumption) rfl | exact ev_loada rfl (gn rfl) rfl rfl Tryd.underlying23 rfl Tryd.sizeOf23 rfl
    simp only [nmx, seval]
    apply VE.cons
    · exact ev_callb (v := .bool true) rfl (gn rfl) rfl (en_of Tryd.func17 (by kernel_rfl) rfl) (fun w' hw' => by have a := fine_ok hr w' (hL.bw hw'); rw [sr] at a; exact a)
    simp only [nmx, seval]
    apply VE.cons
    · refine ev_pure' (gn rfl) (fun ρ w => by simp only [VS.act, SV.c, List.map_cons, List.map_nil]; go_simp; exact rfl) (fun _ _ => rfl)
    simp only [nmx, seval]
    apply VE.cons
    · exact ev_move rfl (gn rfl)
    simp only [nmx, seval]
    apply VE.cons
    · first | exact Ev.skip (fun _ => rfl) | exact ev_load rfl (fun _ => rfl) rfl rfl Tryd.underlying23 rfl Tryd.sizeOf23 rfl rfl | exact ev_loadx rfl (fun _ => rfl) rfl Tryd.underlying23 rfl Tryd.sizeOf23 (by assumption) rfl | exact ev_loada rfl (fun _ => rfl) rfl rfl Tryd.underlying23 rfl Tryd.sizeOf23 rfl
    simp only [nmx, seval]
    apply VE.cons
    · first | exact Ev.skip (fun _ => rfl) | exact ev_callb (v := .bool true) rfl (fun _ => rfl) rfl (en_of Tryd.func17 (by kernel_rfl) rfl) (fun w' hw' => by have a := fine_ok ht w' (hL.bw hw'); rw [st] at a; exact a)
    simp only [nmx, seval]
    apply VE.cons
    · first | exact Ev.skip (fun _ => rfl) | refine ev_pure' (fun _ => rfl) (fun ρ w => by simp only [VS.act, SV.c, List.map_cons, List.map_nil]; go_simp; exact rfl) (fun _ _ => rfl)
    simp only [nmx, seval]
    apply VE.cons
    · refine ev_pure' (gn rfl) (fun ρ w => by simp only [VS.act, SV.c, List.map_cons, List.map_nil]; go_simp; exact rfl) (fun _ _ => rfl)
    simp only [nmx, seval]
    exact VE.nil _
  · kernel_rfl
  change VOk _ _ _ _ _
  refine vcond_f rfl ?_
  refine vskip ?_
  change VOk _ _ _ _ _
  refine vseq ?_
  apply vrp
  · apply VE.cons
    · exact ev_calldt (D := datM nn) (ys := [N nn]) [] rfl rfl (gn rfl) rfl (en_of Tryd.func18 (by kernel_rfl) rfl) (fun ρ S w' hb hR => order_d w' (hL.bw hb))
    simp only [nmx, seval]
    apply VE.cons
    · exact ev_move rfl (gn rfl)
    simp only [nmx, seval]
    apply VE.cons
    · first | exact ev_extract rfl (gn rfl) rfl rfl | exact ev_extractt rfl (gn rfl) rfl rfl
    simp only [nmx, seval]
    apply VE.cons
    · first | exact ev_extract rfl (gn rfl) rfl rfl | exact ev_extractt rfl (gn rfl) rfl rfl
    simp only [nmx, seval]
    apply VE.cons
    · exact ev_alloc rfl rfl (gn rfl) Tryd.zeroValue50
    simp only [nmx, seval]
    apply VE.cons
    · exact ev_assign rfl (gn rfl)
    simp only [nmx, seval]
    apply VE.cons
    · exact ev_store rfl (gn rfl) rfl rfl rfl Tryd.sizeOf50 rfl (by simp) rfl
    simp only [nmx, seval]
    exact VE.nil _
  · kernel_rfl
  change VOk _ _ _ _ _
  refine vseq ?_
  apply vrp
  · apply VE.cons
    · exact ev_move rfl (gn rfl)
    simp only [nmx, seval]
    apply VE.cons
    · first | exact ev_load rfl (gn rfl) rfl rfl Tryd.underlying23 rfl Tryd.sizeOf23 rfl rfl | exact ev_loadx rfl (gn rfl) rfl Tryd.underlying23 rfl Tryd.sizeOf23 (by assumption) rfl | exact ev_loada rfl (gn rfl) rfl rfl Tryd.underlying23 rfl Tryd.sizeOf23 rfl
    simp only [nmx, seval]
    apply VE.cons
    · exact ev_call rfl (gn rfl) rfl (en_of Tryd.func20 (by kernel_rfl) rfl) (fun w' hw' => ofN t ht w')
    simp only [nmx, seval]
    apply VE.cons
    · exact ev_callp (v := .tuple #[N i, .int .i64 0]) [40] rfl (gn rfl) rfl (en_of Tryd.func19 (by kernel_rfl) rfl) (fun ρ S w' hb hR => c_inv (id := 40) hR (by simp) rfl ht hi hv)
    simp only [nmx, seval]
    apply VE.cons
    · exact ev_move rfl (gn rfl)
    simp only [nmx, seval]
    apply VE.cons
    · first | exact ev_extract rfl (gn rfl) rfl rfl | exact ev_extractt rfl (gn rfl) rfl rfl
    simp only [nmx, seval]
    apply VE.cons
    · first | exact ev_extract rfl (gn rfl) rfl rfl | exact ev_extractt rfl (gn rfl) rfl rfl
    simp only [nmx, seval]
    apply VE.cons
    · exact ev_alloc rfl rfl (gn rfl) Tryd.zeroValue50
    simp only [nmx, seval]
    apply VE.cons
    · exact ev_store rfl (gn rfl) rfl rfl rfl Tryd.sizeOf50 rfl (by simp) rfl
    simp only [nmx, seval]
    apply VE.cons
    · exact ev_assign rfl (gn rfl)
    simp only [nmx, seval]
    exact VE.nil _
  · kernel_rfl
  change VOk _ _ _ _ _
  refine vseq ?_
  refine vseq ?_
  apply vrp
  · apply VE.cons
    · exact ev_move rfl (gn rfl)
    simp only [nmx, seval]
    apply VE.cons
    · exact ev_neq (p := false) rfl (gn rfl) rfl rfl (by decide)
    simp only [nmx, seval]
    exact VE.nil _
  · kernel_rfl
  change VOk _ _ _ _ _
  refine vcond_f rfl ?_
  refine vskip ?_
  change VOk _ _ _ _ _
  refine vseq ?_
  apply vrd (by kernel_rfl)
  · apply VE.cons
    · exact ev_move rfl (gn rfl)
    simp only [nmx, seval]
    apply VE.cons
    · first | exact ev_load rfl (gn rfl) rfl rfl Tryd.underlying50 rfl Tryd.sizeOf50 rfl rfl | exact ev_loadx rfl (gn rfl) rfl Tryd.underlying50 rfl Tryd.sizeOf50 (by assumption) rfl | exact ev_loada rfl (gn rfl) rfl rfl Tryd.underlying50 rfl Tryd.sizeOf50 rfl
    simp only [nmx, seval]
    apply VE.cons
    · first | exact ev_load rfl (gn rfl) rfl rfl Tryd.underlying23 rfl Tryd.sizeOf23 rfl rfl | exact ev_loadx rfl (gn rfl) rfl Tryd.underlying23 rfl Tryd.sizeOf23 (by assumption) rfl | exact ev_loada rfl (gn rfl) rfl rfl Tryd.underlying23 rfl Tryd.sizeOf23 rfl
    simp only [nmx, seval]
    apply VE.cons
    · exact ev_call rfl (gn rfl) rfl (en_of Tryd.func20 (by kernel_rfl) rfl) (fun w' hw' => ofN h hh w')
    simp only [nmx, seval]
    apply VE.cons
    · exact ev_callp (v := N (i * h % nn)) [40] rfl (gn rfl) rfl (en_of Tryd.func21 (by kernel_rfl) rfl) (fun ρ S w' hb hR => c_mul (id := 40) hR (by simp) rfl (lt_R hi) hh)
    simp only [nmx, seval]
    apply VE.cons
    · exact ev_move rfl (gn rfl)
    simp only [nmx, seval]
    apply VE.cons
    · first | exact ev_load rfl (gn rfl) rfl rfl Tryd.underlying50 rfl Tryd.sizeOf50 rfl rfl | exact ev_loadx rfl (gn rfl) rfl Tryd.underlying50 rfl Tryd.sizeOf50 (by assumption) rfl | exact ev_loada rfl (gn rfl) rfl rfl Tryd.underlying50 rfl Tryd.sizeOf50 rfl
    simp only [nmx, seval]
    apply VE.cons
    · first | exact ev_load rfl (gn rfl) rfl rfl Tryd.underlying23 rfl Tryd.sizeOf23 rfl rfl | exact ev_loadx rfl (gn rfl) rfl Tryd.underlying23 rfl Tryd.sizeOf23 (by assumption) rfl | exact ev_loada rfl (gn rfl) rfl rfl Tryd.underlying23 rfl Tryd.sizeOf23 rfl
    simp only [nmx, seval]
    apply VE.cons
    · exact ev_call rfl (gn rfl) rfl (en_of Tryd.func20 (by kernel_rfl) rfl) (fun w' hw' => ofN r hr w')
    simp only [nmx, seval]
    apply VE.cons
    · exact ev_callp (v := N (i * r % nn)) [40] rfl (gn rfl) rfl (en_of Tryd.func21 (by kernel_rfl) rfl) (fun ρ S w' hb hR => c_mul (id := 40) hR (by simp) rfl (lt_R hi) hr)
    simp only [nmx, seval]
    apply VE.cons
    · exact ev_alloc rfl rfl (gn rfl) Tryd.zeroValue50
    simp only [nmx, seval]
    apply VE.cons
    · exact ev_alloc rfl rfl (gn rfl) Tryd.zeroValue50
    simp only [nmx, seval]
    apply VE.cons
    · exact ev_store rfl (gn rfl) rfl rfl rfl Tryd.sizeOf50 rfl (by simp) rfl
    simp only [nmx, seval]
    apply VE.cons
    · exact ev_store rfl (gn rfl) rfl rfl rfl Tryd.sizeOf50 rfl (by simp) rfl
    simp only [nmx, seval]
    exact VE.nil _
  · kernel_rfl
  change VOk _ _ _ _ _
  refine vseq ?_
  apply vrd (by kernel_rfl)
  · apply VE.cons
    · first | exact ev_load rfl (gn rfl) rfl rfl Tryd.underlying50 rfl Tryd.sizeOf50 rfl rfl | exact ev_loadx rfl (gn rfl) rfl Tryd.underlying50 rfl Tryd.sizeOf50 (by assumption) rfl | exact ev_loada rfl (gn rfl) rfl rfl Tryd.underlying50 rfl Tryd.sizeOf50 rfl
    simp only [nmx, seval]
    apply VE.cons
    · exact ev_call rfl (gn rfl) rfl (en_of Tryd.func22 (by kernel_rfl) rfl) (fun w' hw' => bytesN (i * h % nn) w')
    simp only [nmx, seval]
    apply VE.cons
    · exact ev_call rfl (gn rfl) rfl (en_of Tryd.func13 (by kernel_rfl) rfl) (fun w' hw' => baseP w' (hL.bw hw'))
    simp only [nmx, seval]
    apply VE.cons
    · exact ev_call rfl (gn rfl) rfl (en_of Tryd.func12 (by kernel_rfl) rfl) (fun w' hw' => TimesE (mod_R _) hA TollEc.base_on w' (hL.bw hw'))
    simp only [nmx, seval]
    apply VE.cons
    · first | exact ev_load rfl (gn rfl) rfl rfl Tryd.underlying50 rfl Tryd.sizeOf50 rfl rfl | exact ev_loadx rfl (gn rfl) rfl Tryd.underlying50 rfl Tryd.sizeOf50 (by assumption) rfl | exact ev_loada rfl (gn rfl) rfl rfl Tryd.underlying50 rfl Tryd.sizeOf50 rfl
    simp only [nmx, seval]
    apply VE.cons
    · exact ev_call rfl (gn rfl) rfl (en_of Tryd.func22 (by kernel_rfl) rfl) (fun w' hw' => bytesN (i * r % nn) w')
    simp only [nmx, seval]
    apply VE.cons
    · first | exact ev_load rfl (gn rfl) rfl rfl Tryd.underlying26 rfl Tryd.sizeOf26 rfl rfl | exact ev_loadx rfl (gn rfl) rfl Tryd.underlying26 rfl Tryd.sizeOf26 (by assumption) rfl | exact ev_loada rfl (gn rfl) rfl rfl Tryd.underlying26 rfl Tryd.sizeOf26 rfl
    simp only [nmx, seval]
    apply VE.cons
    · exact ev_call rfl (gn rfl) rfl (en_of Tryd.func12 (by kernel_rfl) rfl) (fun w' hw' => TimesX (mod_R _) hx hy hB w' (hL.bw hw'))
    simp only [nmx, seval]
    apply VE.cons
    · exact ev_call rfl (gn rfl) rfl (en_of Tryd.func11 (by kernel_rfl) rfl) (fun w' hw' => AddE hX oA oB w' (hL.bw hw'))
    simp only [nmx, seval]
    apply VE.cons
    · exact ev_alloc rfl rfl (gn rfl) Tryd.zeroValue26
    simp only [nmx, seval]
    apply VE.cons
    · exact ev_store rfl (gn rfl) rfl rfl rfl Tryd.sizeOf26 rfl (by simp) rfl
    simp only [nmx, seval]
    exact VE.nil _
  · kernel_rfl
  change VOk _ _ _ _ _
  refine vseq ?_
  refine vseq ?_
  apply vrd (by kernel_rfl)
  · apply VE.cons
    · first | exact ev_load rfl (gn rfl) rfl rfl Tryd.underlying26 rfl Tryd.sizeOf26 rfl rfl | exact ev_loadx rfl (gn rfl) rfl Tryd.underlying26 rfl Tryd.sizeOf26 (by assumption) rfl | exact ev_loada rfl (gn rfl) rfl rfl Tryd.underlying26 rfl Tryd.sizeOf26 rfl
    simp only [nmx, seval]
    apply VE.cons
    · exact ev_build rfl (gn rfl) rfl built24_0
    simp only [nmx, seval]
    apply VE.cons
    · exact ev_bin (c := .bool false) rfl (gn rfl) rfl rfl (fun w => eqP_ninf oX hi0 _ _ w)
    simp only [nmx, seval]
    apply VE.cons
    · exact ev_move rfl (gn rfl)
    simp only [nmx, seval]
    apply VE.cons
    · first | exact Ev.skip (fun _ => rfl) | exact ev_move rfl (fun _ => rfl)
    simp only [nmx, seval]
    apply VE.cons
    · first | exact Ev.skip (fun _ => rfl) | exact ev_field rfl (fun _ => rfl) rfl Tryd.underlying26 rfl Tryd.sizeOf23 | exact ev_fieldx rfl (fun _ => rfl) rfl Tryd.underlying26 rfl Tryd.sizeOf23
    simp only [nmx, seval]
    apply VE.cons
    · first | exact Ev.skip (fun _ => rfl) | exact ev_load rfl (fun _ => rfl) rfl rfl Tryd.underlying23 rfl Tryd.sizeOf23 rfl rfl | exact ev_loadx rfl (fun _ => rfl) rfl Tryd.underlying23 rfl Tryd.sizeOf23 (by assumption) rfl | exact ev_loada rfl (fun _ => rfl) rfl rfl Tryd.underlying23 rfl Tryd.sizeOf23 rfl
    simp only [nmx, seval]
    apply VE.cons
    · first | exact Ev.skip (fun _ => rfl) | exact ev_call rfl (fun _ => rfl) rfl (en_of Tryd.func20 (by kernel_rfl) rfl) (fun w' hw' => ofN (xv X) (xv_lt X) w')
    simp only [nmx, seval]
    apply VE.cons
    · first | exact Ev.skip (fun _ => rfl) | exact ev_callp (v := N (xv X % nn)) [40] rfl (fun _ => rfl) rfl (en_of Tryd.func23 (by kernel_rfl) rfl) (fun ρ S w' hb hR => c_rest (id := 40) hR (by simp) rfl (xv_lt X))
    simp only [nmx, seval]
    apply VE.cons
    · first | exact Ev.skip (fun _ => rfl) | exact ev_load rfl (fun _ => rfl) rfl rfl Tryd.underlying23 rfl Tryd.sizeOf23 rfl rfl | exact ev_loadx rfl (fun _ => rfl) rfl Tryd.underlying23 rfl Tryd.sizeOf23 (by assumption) rfl | exact ev_loada rfl (fun _ => rfl) rfl rfl Tryd.underlying23 rfl Tryd.sizeOf23 rfl
    simp only [nmx, seval]
    apply VE.cons
    · first | exact Ev.skip (fun _ => rfl) | exact ev_call rfl (fun _ => rfl) rfl (en_of Tryd.func20 (by kernel_rfl) rfl) (fun w' hw' => ofN r hr w')
    simp only [nmx, seval]
    apply VE.cons
    · first | exact Ev.skip (fun _ => rfl) | exact ev_bin (c := .bool true) rfl (fun _ => rfl) rfl rfl (fun w => neN_p (mod_R _) hr (decide_eq_false hne) _ _ w)
    simp only [nmx, seval]
    apply VE.cons
    · refine ev_pure' (gn rfl) (fun ρ w => by simp only [VS.act, SV.c, List.map_cons, List.map_nil]; go_simp; exact rfl) (fun _ _ => rfl)
    simp only [nmx, seval]
    exact VE.nil _
  · kernel_rfl
  change VOk _ _ _ _ _
  refine vcond_t rfl ?_
  refine vseq ?_
  apply vrp
  · apply VE.cons
    · exact ev_assign rfl (gn rfl)
    simp only [nmx, seval]
    exact VE.nil _
  · kernel_rfl
  change VOk _ _ _ _ _
  refine vret ?_
  refine post_ret (res1 Tryd.results6 (rv_tmp rfl)) ?_
  intro ρ w' hr
  exact ⟨rfl, hr.1⟩
theorem Check_g {v : Value} {h r t : Nat} (hh : h < R) (hr : r < R) (ht : t < R) (w : World) (hL : Laid w) {x y i : Nat} {A B X : Pt} (hx : x < R) (hy : y < R) (hrd : ∀ w', Bw w w' → Calls Tryd.prog 5 #[v] w' fun e w'' => e = .returned (.tuple #[PT x y, .int .i64 0]) ∧ Bw w' w'') (sr : sec r = true) (st : sec t = true) (hi : i < nn) (hv : i * t % nn = 1) (hA : smul (i * h % nn) base = A) (hB : smul (i * r % nn) (toP x y) = B) (oA : A.on) (oB : B.on) (hX : add A B = X) (oX : X.on) (hi0 : X ≠ .inf) (hne : xv X % nn = r) : Calls Tryd.prog 6 #[v, B32 h, PT r t] w fun e w' => e = .returned (.int .i64 0) ∧ Bw w w' := by
  go_enter Tryd.func6, Tryd.ntmps6
  refine ve_go ?_
  simp only [List.map_cons, List.map_nil]
  refine vseq ?_
  apply vrp
  · apply VE.cons
    · exact ev_box rfl rfl (gn rfl) rfl
    simp only [nmx, seval]
    apply VE.cons
    · exact ev_box rfl rfl (gn rfl) rfl
    simp only [nmx, seval]
    apply VE.cons
    · exact ev_assign rfl (gn rfl)
    simp only [nmx, seval]
    exact VE.nil _
  · kernel_rfl
  change VOk _ _ _ _ _
  refine vseq ?_
  apply vrp
  · apply VE.cons
    · exact ev_move rfl (gn rfl)
    simp only [nmx, seval]
    apply VE.cons
    · exact ev_callb (v := .tuple #[PT x y, .int .i64 0]) rfl (gn rfl) rfl (en_of Tryd.func5 (by kernel_rfl) rfl) (fun w' hw' => hrd w' hw')
    simp only [nmx, seval]
    apply VE.cons
    · exact ev_move rfl (gn rfl)
    simp only [nmx, seval]
    apply VE.cons
    · first | exact ev_extract rfl (gn rfl) rfl rfl | exact ev_extractt rfl (gn rfl) rfl rfl
    simp only [nmx, seval]
    apply VE.cons
    · first | exact ev_extract rfl (gn rfl) rfl rfl | exact ev_extractt rfl (gn rfl) rfl rfl
    simp only [nmx, seval]
    apply VE.cons
    · exact ev_alloc rfl rfl (gn rfl) Tryd.zeroValue26
    simp only [nmx, seval]
    apply VE.cons
    · exact ev_store rfl (gn rfl) rfl rfl rfl Tryd.sizeOf26 rfl (by simp) rfl
    simp only [nmx, seval]
    apply VE.cons
    · exact ev_assign rfl (gn rfl)
    simp only [nmx, seval]
    exact VE.nil _
  · kernel_rfl
  change VOk _ _ _ _ _
  refine vseq ?_
  refine vseq ?_
  apply vrp
  · apply VE.cons
    · exact ev_move rfl (gn rfl)
    simp only [nmx, seval]
    apply VE.cons
    · exact ev_neq (p := false) rfl (gn rfl) rfl rfl (by decide)
    simp only [nmx, seval]
    exact VE.nil _
  · kernel_rfl
  change VOk _ _ _ _ _
  refine vcond_f rfl ?_
  refine vskip ?_
  change VOk _ _ _ _ _
  refine vseq ?_
  apply vrd (by kernel_rfl)
  · apply VE.cons
    · exact ev_slicelh (a := 0) (b := 32) rfl (gn rfl) rfl Tryd.underlying24 Tryd.sizeOf5 rfl rfl (by decide) (by decide) (by decide)
    simp only [nmx, seval]
    apply VE.cons
    · exact ev_arr rfl (gn rfl) rfl Tryd.underlying23 (by decide)
    simp only [nmx, seval]
    apply VE.cons
    · first | exact ev_load rfl (gn rfl) rfl rfl Tryd.underlying23 rfl Tryd.sizeOf23 rfl rfl | exact ev_loadx rfl (gn rfl) rfl Tryd.underlying23 rfl Tryd.sizeOf23 (by assumption) rfl | exact ev_loada rfl (gn rfl) rfl rfl Tryd.underlying23 rfl Tryd.sizeOf23 rfl
    simp only [nmx, seval]
    apply VE.cons
    · exact ev_slicelh (a := 32) (b := 64) rfl (gn rfl) rfl Tryd.underlying24 Tryd.sizeOf5 rfl rfl (by decide) (by decide) (by decide)
    simp only [nmx, seval]
    apply VE.cons
    · exact ev_arr rfl (gn rfl) rfl Tryd.underlying23 (by decide)
    simp only [nmx, seval]
    apply VE.cons
    · first | exact ev_load rfl (gn rfl) rfl rfl Tryd.underlying23 rfl Tryd.sizeOf23 rfl rfl | exact ev_loadx rfl (gn rfl) rfl Tryd.underlying23 rfl Tryd.sizeOf23 (by assumption) rfl | exact ev_loada rfl (gn rfl) rfl rfl Tryd.underlying23 rfl Tryd.sizeOf23 rfl
    simp only [nmx, seval]
    apply VE.cons
    · exact ev_alloc rfl rfl (gn rfl) Tryd.zeroValue23
    simp only [nmx, seval]
    apply VE.cons
    · exact ev_alloc rfl rfl (gn rfl) Tryd.zeroValue23
    simp only [nmx, seval]
    apply VE.cons
    · exact ev_store rfl (gn rfl) rfl rfl rfl Tryd.sizeOf23 rfl (by simp) rfl
    simp only [nmx, seval]
    apply VE.cons
    · exact ev_store rfl (gn rfl) rfl rfl rfl Tryd.sizeOf23 rfl (by simp) rfl
    simp only [nmx, seval]
    exact VE.nil _
  · kernel_rfl
  change VOk _ _ _ _ _
  refine vseq ?_
  refine vseq ?_
  apply vrp
  · apply VE.cons
    · first | exact ev_load rfl (gn rfl) rfl rfl Tryd.underlying23 rfl Tryd.sizeOf23 rfl rfl | exact ev_loadx rfl (gn rfl) rfl Tryd.underlying23 rfl Tryd.sizeOf23 (by assumption) rfl | exact ev_loada rfl (gn rfl) rfl rfl Tryd.underlying23 rfl Tryd.sizeOf23 rfl
    simp only [nmx, seval]
    apply VE.cons
    · exact ev_callb (v := .bool true) rfl (gn rfl) rfl (en_of Tryd.func17 (by kernel_rfl) rfl) (fun w' hw' => by have a := fine_ok hr w' (hL.bw hw'); rw [sr] at a; exact a)
    simp only [nmx, seval]
    apply VE.cons
    · refine ev_pure' (gn rfl) (fun ρ w => by simp only [VS.act, SV.c, List.map_cons, List.map_nil]; go_simp; exact rfl) (fun _ _ => rfl)
    simp only [nmx, seval]
    apply VE.cons
    · exact ev_move rfl (gn rfl)
    simp only [nmx, seval]
    apply VE.cons
    · first | exact Ev.skip (fun _ => rfl) | exact ev_load rfl (fun _ => rfl) rfl rfl Tryd.underlying23 rfl Tryd.sizeOf23 rfl rfl | exact ev_loadx rfl (fun _ => rfl) rfl Tryd.underlying23 rfl Tryd.sizeOf23 (by assumption) rfl | exact ev_loada rfl (fun _ => rfl) rfl rfl Tryd.underlying23 rfl Tryd.sizeOf23 rfl
    simp only [nmx, seval]
    apply VE.cons
    · first | exact Ev.skip (fun _ => rfl) | exact ev_callb (v := .bool true) rfl (fun _ => rfl) rfl (en_of Tryd.func17 (by kernel_rfl) rfl) (fun w' hw' => by have a := fine_ok ht w' (hL.bw hw'); rw [st] at a; exact a)
    simp only [nmx, seval]
    apply VE.cons
    · first | exact Ev.skip (fun _ => rfl) | refine ev_pure' (fun _ => rfl) (fun ρ w => by simp only [VS.act, SV.c, List.map_cons, List.map_nil]; go_simp; exact rfl) (fun _ _ => rfl)
    simp only [nmx, seval]
    apply VE.cons
    · refine ev_pure' (gn rfl) (fun ρ w => by simp only [VS.act, SV.c, List.map_cons, List.map_nil]; go_simp; exact rfl) (fun _ _ => rfl)
    simp only [nmx, seval]
    exact VE.nil _
  · kernel_rfl
  change VOk _ _ _ _ _
  refine vcond_f rfl ?_
  refine vskip ?_
  change VOk _ _ _ _ _
  refine vseq ?_
  apply vrp
  · apply VE.cons
    · exact ev_calldt (D := datM nn) (ys := [N nn]) [] rfl rfl (gn rfl) rfl (en_of Tryd.func18 (by kernel_rfl) rfl) (fun ρ S w' hb hR => order_d w' (hL.bw hb))
    simp only [nmx, seval]
    apply VE.cons
    · exact ev_move rfl (gn rfl)
    simp only [nmx, seval]
    apply VE.cons
    · first | exact ev_extract rfl (gn rfl) rfl rfl | exact ev_extractt rfl (gn rfl) rfl rfl
    simp only [nmx, seval]
    apply VE.cons
    · first | exact ev_extract rfl (gn rfl) rfl rfl | exact ev_extractt rfl (gn rfl) rfl rfl
    simp only [nmx, seval]
    apply VE.cons
    · exact ev_alloc rfl rfl (gn rfl) Tryd.zeroValue50
    simp only [nmx, seval]
    apply VE.cons
    · exact ev_assign rfl (gn rfl)
    simp only [nmx, seval]
    apply VE.cons
    · exact ev_store rfl (gn rfl) rfl rfl rfl Tryd.sizeOf50 rfl (by simp) rfl
    simp only [nmx, seval]
    exact VE.nil _
  · kernel_rfl
  change VOk _ _ _ _ _
  refine vseq ?_
  apply vrp
  · apply VE.cons
    · exact ev_move rfl (gn rfl)
    simp only [nmx, seval]
    apply VE.cons
    · first | exact ev_load rfl (gn rfl) rfl rfl Tryd.underlying23 rfl Tryd.sizeOf23 rfl rfl | exact ev_loadx rfl (gn rfl) rfl Tryd.underlying23 rfl Tryd.sizeOf23 (by assumption) rfl | exact ev_loada rfl (gn rfl) rfl rfl Tryd.underlying23 rfl Tryd.sizeOf23 rfl
    simp only [nmx, seval]
    apply VE.cons
    · exact ev_call rfl (gn rfl) rfl (en_of Tryd.func20 (by kernel_rfl) rfl) (fun w' hw' => ofN t ht w')
    simp only [nmx, seval]
    apply VE.cons
    · exact ev_callp (v := .tuple #[N i, .int .i64 0]) [40] rfl (gn rfl) rfl (en_of Tryd.func19 (by kernel_rfl) rfl) (fun ρ S w' hb hR => c_inv (id := 40) hR (by simp) rfl ht hi hv)
    simp only [nmx, seval]
    apply VE.cons
    · exact ev_move rfl (gn rfl)
    simp only [nmx, seval]
    apply VE.cons
    · first | exact ev_extract rfl (gn rfl) rfl rfl | exact ev_extractt rfl (gn rfl) rfl rfl
    simp only [nmx, seval]
    apply VE.cons
    · first | exact ev_extract rfl (gn rfl) rfl rfl | exact ev_extractt rfl (gn rfl) rfl rfl
    simp only [nmx, seval]
    apply VE.cons
    · exact ev_alloc rfl rfl (gn rfl) Tryd.zeroValue50
    simp only [nmx, seval]
    apply VE.cons
    · exact ev_store rfl (gn rfl) rfl rfl rfl Tryd.sizeOf50 rfl (by simp) rfl
    simp only [nmx, seval]
    apply VE.cons
    · exact ev_assign rfl (gn rfl)
    simp only [nmx, seval]
    exact VE.nil _
  · kernel_rfl
  change VOk _ _ _ _ _
  refine vseq ?_
  refine vseq ?_
  apply vrp
  · apply VE.cons
    · exact ev_move rfl (gn rfl)
    simp only [nmx, seval]
    apply VE.cons
    · exact ev_neq (p := false) rfl (gn rfl) rfl rfl (by decide)
    simp only [nmx, seval]
    exact VE.nil _
  · kernel_rfl
  change VOk _ _ _ _ _
  refine vcond_f rfl ?_
  refine vskip ?_
  change VOk _ _ _ _ _
  refine vseq ?_
  apply vrd (by kernel_rfl)
  · apply VE.cons
    · exact ev_move rfl (gn rfl)
    simp only [nmx, seval]
    apply VE.cons
    · first | exact ev_load rfl (gn rfl) rfl rfl Tryd.underlying50 rfl Tryd.sizeOf50 rfl rfl | exact ev_loadx rfl (gn rfl) rfl Tryd.underlying50 rfl Tryd.sizeOf50 (by assumption) rfl | exact ev_loada rfl (gn rfl) rfl rfl Tryd.underlying50 rfl Tryd.sizeOf50 rfl
    simp only [nmx, seval]
    apply VE.cons
    · first | exact ev_load rfl (gn rfl) rfl rfl Tryd.underlying23 rfl Tryd.sizeOf23 rfl rfl | exact ev_loadx rfl (gn rfl) rfl Tryd.underlying23 rfl Tryd.sizeOf23 (by assumption) rfl | exact ev_loada rfl (gn rfl) rfl rfl Tryd.underlying23 rfl Tryd.sizeOf23 rfl
    simp only [nmx, seval]
    apply VE.cons
    · exact ev_call rfl (gn rfl) rfl (en_of Tryd.func20 (by kernel_rfl) rfl) (fun w' hw' => ofN h hh w')
    simp only [nmx, seval]
    apply VE.cons
    · exact ev_callp (v := N (i * h % nn)) [40] rfl (gn rfl) rfl (en_of Tryd.func21 (by kernel_rfl) rfl) (fun ρ S w' hb hR => c_mul (id := 40) hR (by simp) rfl (lt_R hi) hh)
    simp only [nmx, seval]
    apply VE.cons
    · exact ev_move rfl (gn rfl)
    simp only [nmx, seval]
    apply VE.cons
    · first | exact ev_load rfl (gn rfl) rfl rfl Tryd.underlying50 rfl Tryd.sizeOf50 rfl rfl | exact ev_loadx rfl (gn rfl) rfl Tryd.underlying50 rfl Tryd.sizeOf50 (by assumption) rfl | exact ev_loada rfl (gn rfl) rfl rfl Tryd.underlying50 rfl Tryd.sizeOf50 rfl
    simp only [nmx, seval]
    apply VE.cons
    · first | exact ev_load rfl (gn rfl) rfl rfl Tryd.underlying23 rfl Tryd.sizeOf23 rfl rfl | exact ev_loadx rfl (gn rfl) rfl Tryd.underlying23 rfl Tryd.sizeOf23 (by assumption) rfl | exact ev_loada rfl (gn rfl) rfl rfl Tryd.underlying23 rfl Tryd.sizeOf23 rfl
    simp only [nmx, seval]
    apply VE.cons
    · exact ev_call rfl (gn rfl) rfl (en_of Tryd.func20 (by kernel_rfl) rfl) (fun w' hw' => ofN r hr w')
    simp only [nmx, seval]
    apply VE.cons
    · exact ev_callp (v := N (i * r % nn)) [40] rfl (gn rfl) rfl (en_of Tryd.func21 (by kernel_rfl) rfl) (fun ρ S w' hb hR => c_mul (id := 40) hR (by simp) rfl (lt_R hi) hr)
    simp only [nmx, seval]
    apply VE.cons
    · exact ev_alloc rfl rfl (gn rfl) Tryd.zeroValue50
    simp only [nmx, seval]
    apply VE.cons
    · exact ev_alloc rfl rfl (gn rfl) Tryd.zeroValue50
    simp only [nmx, seval]
    apply VE.cons
    · exact ev_store rfl (gn rfl) rfl rfl rfl Tryd.sizeOf50 rfl (by simp) rfl
    simp only [nmx, seval]
    apply VE.cons
    · exact ev_store rfl (gn rfl) rfl rfl rfl Tryd.sizeOf50 rfl (by simp) rfl
    simp only [nmx, seval]
    exact VE.nil _
  · kernel_rfl
  change VOk _ _ _ _ _
  refine vseq ?_
  apply vrd (by kernel_rfl)
  · apply VE.cons
    · first | exact ev_load rfl (gn rfl) rfl rfl Tryd.underlying50 rfl Tryd.sizeOf50 rfl rfl | exact ev_loadx rfl (gn rfl) rfl Tryd.underlying50 rfl Tryd.sizeOf50 (by assumption) rfl | exact ev_loada rfl (gn rfl) rfl rfl Tryd.underlying50 rfl Tryd.sizeOf50 rfl
    simp only [nmx, seval]
    apply VE.cons
    · exact ev_call rfl (gn rfl) rfl (en_of Tryd.func22 (by kernel_rfl) rfl) (fun w' hw' => bytesN (i * h % nn) w')
    simp only [nmx, seval]
    apply VE.cons
    · exact ev_call rfl (gn rfl) rfl (en_of Tryd.func13 (by kernel_rfl) rfl) (fun w' hw' => baseP w' (hL.bw hw'))
    simp only [nmx, seval]
    apply VE.cons
    · exact ev_call rfl (gn rfl) rfl (en_of Tryd.func12 (by kernel_rfl) rfl) (fun w' hw' => TimesE (mod_R _) hA TollEc.base_on w' (hL.bw hw'))
    simp only [nmx, seval]
    apply VE.cons
    · first | exact ev_load rfl (gn rfl) rfl rfl Tryd.underlying50 rfl Tryd.sizeOf50 rfl rfl | exact ev_loadx rfl (gn rfl) rfl Tryd.underlying50 rfl Tryd.sizeOf50 (by assumption) rfl | exact ev_loada rfl (gn rfl) rfl rfl Tryd.underlying50 rfl Tryd.sizeOf50 rfl
    simp only [nmx, seval]
    apply VE.cons
    · exact ev_call rfl (gn rfl) rfl (en_of Tryd.func22 (by kernel_rfl) rfl) (fun w' hw' => bytesN (i * r % nn) w')
    simp only [nmx, seval]
    apply VE.cons
    · first | exact ev_load rfl (gn rfl) rfl rfl Tryd.underlying26 rfl Tryd.sizeOf26 rfl rfl | exact ev_loadx rfl (gn rfl) rfl Tryd.underlying26 rfl Tryd.sizeOf26 (by assumption) rfl | exact ev_loada rfl (gn rfl) rfl rfl Tryd.underlying26 rfl Tryd.sizeOf26 rfl
    simp only [nmx, seval]
    apply VE.cons
    · exact ev_call rfl (gn rfl) rfl (en_of Tryd.func12 (by kernel_rfl) rfl) (fun w' hw' => TimesX (mod_R _) hx hy hB w' (hL.bw hw'))
    simp only [nmx, seval]
    apply VE.cons
    · exact ev_call rfl (gn rfl) rfl (en_of Tryd.func11 (by kernel_rfl) rfl) (fun w' hw' => AddE hX oA oB w' (hL.bw hw'))
    simp only [nmx, seval]
    apply VE.cons
    · exact ev_alloc rfl rfl (gn rfl) Tryd.zeroValue26
    simp only [nmx, seval]
    apply VE.cons
    · exact ev_store rfl (gn rfl) rfl rfl rfl Tryd.sizeOf26 rfl (by simp) rfl
    simp only [nmx, seval]
    exact VE.nil _
  · kernel_rfl
  change VOk _ _ _ _ _
  refine vseq ?_
  refine vseq ?_
  apply vrd (by kernel_rfl)
  · apply VE.cons
    · first | exact ev_load rfl (gn rfl) rfl rfl Tryd.underlying26 rfl Tryd.sizeOf26 rfl rfl | exact ev_loadx rfl (gn rfl) rfl Tryd.underlying26 rfl Tryd.sizeOf26 (by assumption) rfl | exact ev_loada rfl (gn rfl) rfl rfl Tryd.underlying26 rfl Tryd.sizeOf26 rfl
    simp only [nmx, seval]
    apply VE.cons
    · exact ev_build rfl (gn rfl) rfl built24_0
    simp only [nmx, seval]
    apply VE.cons
    · exact ev_bin (c := .bool false) rfl (gn rfl) rfl rfl (fun w => eqP_ninf oX hi0 _ _ w)
    simp only [nmx, seval]
    apply VE.cons
    · exact ev_move rfl (gn rfl)
    simp only [nmx, seval]
    apply VE.cons
    · first | exact Ev.skip (fun _ => rfl) | exact ev_move rfl (fun _ => rfl)
    simp only [nmx, seval]
    apply VE.cons
    · first | exact Ev.skip (fun _ => rfl) | exact ev_field rfl (fun _ => rfl) rfl Tryd.underlying26 rfl Tryd.sizeOf23 | exact ev_fieldx rfl (fun _ => rfl) rfl Tryd.underlying26 rfl Tryd.sizeOf23
    simp only [nmx, seval]
    apply VE.cons
    · first | exact Ev.skip (fun _ => rfl) | exact ev_load rfl (fun _ => rfl) rfl rfl Tryd.underlying23 rfl Tryd.sizeOf23 rfl rfl | exact ev_loadx rfl (fun _ => rfl) rfl Tryd.underlying23 rfl Tryd.sizeOf23 (by assumption) rfl | exact ev_loada rfl (fun _ => rfl) rfl rfl Tryd.underlying23 rfl Tryd.sizeOf23 rfl
    simp only [nmx, seval]
    apply VE.cons
    · first | exact Ev.skip (fun _ => rfl) | exact ev_call rfl (fun _ => rfl) rfl (en_of Tryd.func20 (by kernel_rfl) rfl) (fun w' hw' => ofN (xv X) (xv_lt X) w')
    simp only [nmx, seval]
    apply VE.cons
    · first | exact Ev.skip (fun _ => rfl) | exact ev_callp (v := N (xv X % nn)) [40] rfl (fun _ => rfl) rfl (en_of Tryd.func23 (by kernel_rfl) rfl) (fun ρ S w' hb hR => c_rest (id := 40) hR (by simp) rfl (xv_lt X))
    simp only [nmx, seval]
    apply VE.cons
    · first | exact Ev.skip (fun _ => rfl) | exact ev_load rfl (fun _ => rfl) rfl rfl Tryd.underlying23 rfl Tryd.sizeOf23 rfl rfl | exact ev_loadx rfl (fun _ => rfl) rfl Tryd.underlying23 rfl Tryd.sizeOf23 (by assumption) rfl | exact ev_loada rfl (fun _ => rfl) rfl rfl Tryd.underlying23 rfl Tryd.sizeOf23 rfl
    simp only [nmx, seval]
    apply VE.cons
    · first | exact Ev.skip (fun _ => rfl) | exact ev_call rfl (fun _ => rfl) rfl (en_of Tryd.func20 (by kernel_rfl) rfl) (fun w' hw' => ofN r hr w')
    simp only [nmx, seval]
    apply VE.cons
    · first | exact Ev.skip (fun _ => rfl) | exact ev_bin (c := .bool false) rfl (fun _ => rfl) rfl rfl (fun w => neN_p (mod_R _) hr (decide_eq_true hne) _ _ w)
    simp only [nmx, seval]
    apply VE.cons
    · refine ev_pure' (gn rfl) (fun ρ w => by simp only [VS.act, SV.c, List.map_cons, List.map_nil]; go_simp; exact rfl) (fun _ _ => rfl)
    simp only [nmx, seval]
    exact VE.nil _
  · kernel_rfl
  change VOk _ _ _ _ _
  refine vcond_f rfl ?_
  refine vskip ?_
  change VOk _ _ _ _ _
  refine vseq ?_
  apply vrp
  · apply VE.cons
    · exact ev_assign rfl (gn rfl)
    simp only [nmx, seval]
    exact VE.nil _
  · kernel_rfl
  change VOk _ _ _ _ _
  refine vret ?_
  refine post_ret (res1 Tryd.results6 (rv_tmp rfl)) ?_
  intro ρ w' hr
  exact ⟨rfl, hr.1⟩
end Go.Proofs.YtafbhakmkbehiaaDoor
end
section
namespace Go.Proofs.YtafbhakmkbehiaaDoor
open Go.RowKit Go.Vx TollMont
open Go.Toll (Gw)
open TollEc (F pp cb Jp Pt smul add base nn neg)
open TollSha (sha hmac)
set_option maxHeartbeats 4000000
set_option maxRecDepth 100000
theorem rfine_z {a : Nat} (ha : a < R) (w : World) (h : a = 0) : Calls Tryd.prog 9 #[B32 a] w fun e w' => e = .returned (.bool false) ∧ Bw w w' := by
  go_enter Tryd.func9, Tryd.ntmps9
  refine ve_go ?_
  simp only [List.map_cons, List.map_nil]
  refine vseq ?_
  apply vrp
  · apply VE.cons
    · exact ev_box rfl rfl (gn rfl) rfl
    simp only [nmx, seval]
    apply VE.cons
    · exact ev_assign rfl (gn rfl)
    simp only [nmx, seval]
    exact VE.nil _
  · kernel_rfl
  change VOk _ _ _ _ _
  refine vseq ?_
  apply vrp
  · apply VE.cons
    · first | exact ev_load rfl (gn rfl) rfl rfl Tryd.underlying23 rfl Tryd.sizeOf23 rfl rfl | exact ev_loadx rfl (gn rfl) rfl Tryd.underlying23 rfl Tryd.sizeOf23 (by assumption) rfl | exact ev_loada rfl (gn rfl) rfl rfl Tryd.underlying23 rfl Tryd.sizeOf23 rfl
    simp only [nmx, seval]
    apply VE.cons
    · refine ev_pure' (gn rfl) (fun ρ w => by simp only [VS.act, SV.c, List.map_cons, List.map_nil]; go_simp; exact rfl) (fun _ _ => rfl)
    simp only [nmx, seval]
    apply VE.cons
    · exact ev_bin (c := .bool false) rfl (gn rfl) rfl rfl (fun w => neb_z ha h _ _ w)
    simp only [nmx, seval]
    apply VE.cons
    · exact ev_move rfl (gn rfl)
    simp only [nmx, seval]
    apply VE.cons
    · first | exact Ev.skip (fun _ => rfl) | exact ev_load rfl (fun _ => rfl) rfl rfl Tryd.underlying23 rfl Tryd.sizeOf23 rfl rfl | exact ev_loadx rfl (fun _ => rfl) rfl Tryd.underlying23 rfl Tryd.sizeOf23 (by assumption) rfl | exact ev_loada rfl (fun _ => rfl) rfl rfl Tryd.underlying23 rfl Tryd.sizeOf23 rfl
    simp only [nmx, seval]
    apply VE.cons
    · first | exact Ev.skip (fun _ => rfl) | refine ev_pure' (fun _ => rfl) (fun ρ w => by simp only [VS.act, SV.c, List.map_cons, List.map_nil]; go_simp; exact rfl) (fun _ _ => rfl)
    simp only [nmx, seval]
    apply VE.cons
    · first | exact Ev.skip (fun _ => rfl) | refine ev_pure' (fun _ => rfl) (fun ρ w => by simp only [VS.act, SV.c, List.map_cons, List.map_nil]; go_simp; exact rfl) (fun _ _ => rfl)
    simp only [nmx, seval]
    apply VE.cons
    · first | exact Ev.skip (fun _ => rfl) | refine ev_pure' (fun _ => rfl) (fun ρ w => by simp only [VS.act, SV.c, List.map_cons, List.map_nil]; go_simp; exact rfl) (fun _ _ => rfl)
    simp only [nmx, seval]
    apply VE.cons
    · refine ev_pure' (gn rfl) (fun ρ w => by simp only [VS.act, SV.c, List.map_cons, List.map_nil]; go_simp; exact rfl) (fun _ _ => rfl)
    simp only [nmx, seval]
    apply VE.cons
    · exact ev_assign rfl (gn rfl)
    simp only [nmx, seval]
    exact VE.nil _
  · kernel_rfl
  change VOk _ _ _ _ _
  refine vret ?_
  refine post_ret (res1 Tryd.results9 (rv_tmp rfl)) ?_
  intro ρ w' hr
  exact ⟨rfl, hr.1⟩
theorem rfine_n {a : Nat} (ha : a < R) (w : World) (h : a ≠ 0) : Calls Tryd.prog 9 #[B32 a] w fun e w' => e = .returned (.bool (decide (a < nn))) ∧ Bw w w' := by
  go_enter Tryd.func9, Tryd.ntmps9
  refine ve_go ?_
  simp only [List.map_cons, List.map_nil]
  refine vseq ?_
  apply vrp
  · apply VE.cons
    · exact ev_box rfl rfl (gn rfl) rfl
    simp only [nmx, seval]
    apply VE.cons
    · exact ev_assign rfl (gn rfl)
    simp only [nmx, seval]
    exact VE.nil _
  · kernel_rfl
  change VOk _ _ _ _ _
  refine vseq ?_
  apply vrp
  · apply VE.cons
    · first | exact ev_load rfl (gn rfl) rfl rfl Tryd.underlying23 rfl Tryd.sizeOf23 rfl rfl | exact ev_loadx rfl (gn rfl) rfl Tryd.underlying23 rfl Tryd.sizeOf23 (by assumption) rfl | exact ev_loada rfl (gn rfl) rfl rfl Tryd.underlying23 rfl Tryd.sizeOf23 rfl
    simp only [nmx, seval]
    apply VE.cons
    · refine ev_pure' (gn rfl) (fun ρ w => by simp only [VS.act, SV.c, List.map_cons, List.map_nil]; go_simp; exact rfl) (fun _ _ => rfl)
    simp only [nmx, seval]
    apply VE.cons
    · exact ev_bin (c := .bool true) rfl (gn rfl) rfl rfl (fun w => neb_nz ha h _ _ w)
    simp only [nmx, seval]
    apply VE.cons
    · exact ev_move rfl (gn rfl)
    simp only [nmx, seval]
    apply VE.cons
    · first | exact Ev.skip (fun _ => rfl) | exact ev_load rfl (fun _ => rfl) rfl rfl Tryd.underlying23 rfl Tryd.sizeOf23 rfl rfl | exact ev_loadx rfl (fun _ => rfl) rfl Tryd.underlying23 rfl Tryd.sizeOf23 (by assumption) rfl | exact ev_loada rfl (fun _ => rfl) rfl rfl Tryd.underlying23 rfl Tryd.sizeOf23 rfl
    simp only [nmx, seval]
    apply VE.cons
    · first | exact Ev.skip (fun _ => rfl) | exact ev_call rfl (fun _ => rfl) rfl (en_of Tryd.func29 (by kernel_rfl) rfl) (fun w' hw' => rofN a ha w')
    simp only [nmx, seval]
    apply VE.cons
    · first | exact Ev.skip (fun _ => rfl) | exact ev_call rfl (fun _ => rfl) rfl (en_of Tryd.func30 (by kernel_rfl) rfl) (fun w' hw' => c_N w')
    simp only [nmx, seval]
    apply VE.cons
    · first | exact Ev.skip (fun _ => rfl) | exact ev_call rfl (fun _ => rfl) rfl (en_of Tryd.func28 (by kernel_rfl) rfl) (fun w' hw' => rless_ok a nn ha (by decide) w')
    simp only [nmx, seval]
    apply VE.cons
    · refine ev_pure' (gn rfl) (fun ρ w => by simp only [VS.act, SV.c, List.map_cons, List.map_nil]; go_simp; exact rfl) (fun _ _ => rfl)
    simp only [nmx, seval]
    apply VE.cons
    · exact ev_assign rfl (gn rfl)
    simp only [nmx, seval]
    exact VE.nil _
  · kernel_rfl
  change VOk _ _ _ _ _
  refine vret ?_
  refine post_ret (res1 Tryd.results9 (rv_tmp rfl)) ?_
  intro ρ w' hr
  exact ⟨rfl, hr.1⟩
theorem rfine_ok {a : Nat} (ha : a < R) (w : World) : Calls Tryd.prog 9 #[B32 a] w fun e w' => e = .returned (.bool (sec a)) ∧ Bw w w' := by
  by_cases h : a = 0
  · have e : sec a = false := decide_eq_false (fun c => c.1 h)
    rw [e]; exact rfine_z ha w h
  · have e : sec a = decide (a < nn) := by unfold sec; simp [h]
    rw [e]; exact rfine_n ha w h
theorem rRest_ok {a : Nat} (ha : a < R) (w : World) : Calls Tryd.prog 14 #[B32 a] w fun e w' => e = .returned (B32 (a % nn)) ∧ Bw w w' := by
  go_enter Tryd.func14, Tryd.ntmps14
  refine ve_go ?_
  simp only [List.map_cons, List.map_nil]
  refine vseq ?_
  apply vrp
  · apply VE.cons
    · exact ev_box rfl rfl (gn rfl) rfl
    simp only [nmx, seval]
    apply VE.cons
    · exact ev_alloc rfl rfl (gn rfl) Tryd.zeroValue23
    simp only [nmx, seval]
    exact VE.nil _
  · kernel_rfl
  change VOk _ _ _ _ _
  refine vseq ?_
  apply vrp
  · apply VE.cons
    · first | exact ev_load rfl (gn rfl) rfl rfl Tryd.underlying23 rfl Tryd.sizeOf23 rfl rfl | exact ev_loadx rfl (gn rfl) rfl Tryd.underlying23 rfl Tryd.sizeOf23 (by assumption) rfl | exact ev_loada rfl (gn rfl) rfl rfl Tryd.underlying23 rfl Tryd.sizeOf23 rfl
    simp only [nmx, seval]
    apply VE.cons
    · exact ev_call rfl (gn rfl) rfl (en_of Tryd.func29 (by kernel_rfl) rfl) (fun w' hw' => rofN a ha w')
    simp only [nmx, seval]
    apply VE.cons
    · exact ev_call rfl (gn rfl) rfl (en_of Tryd.func30 (by kernel_rfl) rfl) (fun w' hw' => c_N w')
    simp only [nmx, seval]
    apply VE.cons
    · exact ev_call rfl (gn rfl) rfl (en_of Tryd.func40 (by kernel_rfl) rfl) (fun w' hw' => rrest_ok mdn ha w')
    simp only [nmx, seval]
    apply VE.cons
    · exact ev_call rfl (gn rfl) rfl (en_of Tryd.func33 (by kernel_rfl) rfl) (fun w' hw' => rbytes_ok (a % nn) w')
    simp only [nmx, seval]
    apply VE.cons
    · exact ev_store rfl (gn rfl) rfl rfl rfl Tryd.sizeOf23 rfl (by simp) rfl
    simp only [nmx, seval]
    exact VE.nil _
  · kernel_rfl
  change VOk _ _ _ _ _
  refine vret ?_
  refine post_ret (res1 Tryd.results14 (rv_cell rfl rfl Tryd.underlying23 rfl Tryd.sizeOf23 rfl rfl)) ?_
  intro ρ w' hr
  exact ⟨rfl, hr.1⟩
theorem N_two : N 2 = .agg #[.int .u64 2, .int .u64 0, .int .u64 0, .int .u64 0] := N_small (k := 2) (by decide)
theorem built49_2 : Tryd.prog.built 49 [(0, .int .u64 2)] = some #[.int .u64 2, .int .u64 0, .int .u64 0, .int .u64 0] := by kernel_rfl
theorem rsub2 (w : World) : Calls Tryd.prog 31 #[.agg #[.int .u64 0, .int .u64 0, .int .u64 0, .int .u64 0], .agg #[.int .u64 2, .int .u64 0, .int .u64 0, .int .u64 0], N nn] w fun e w' => e = .returned (N (nn - 2)) ∧ Gw w w' := by
  have := rSub_ok mdn (by decide : 0 < R) (by decide : 2 < R) w
  rw [N_two, N_zero, show subm nn 0 2 = nn - 2 by decide +kernel] at this; exact this
theorem Parts_ok {h r t : Nat} (hh : h < R) (hr : r < R) (ht : t < R) (w : World) : Calls Tryd.prog 10 #[B32 h, PT r t] w fun e w' => e = .returned (.tuple #[B32 (t ^ (nn - 2) % nn * h % nn), B32 (t ^ (nn - 2) % nn * r % nn)]) ∧ Bw w w' := by
  go_enter Tryd.func10, Tryd.ntmps10
  refine ve_go ?_
  simp only [List.map_cons, List.map_nil]
  refine vseq ?_
  apply vrp
  · apply VE.cons
    · exact ev_box rfl rfl (gn rfl) rfl
    simp only [nmx, seval]
    apply VE.cons
    · exact ev_box rfl rfl (gn rfl) rfl
    simp only [nmx, seval]
    apply VE.cons
    · exact ev_alloc rfl rfl (gn rfl) Tryd.zeroValue23
    simp only [nmx, seval]
    apply VE.cons
    · exact ev_alloc rfl rfl (gn rfl) Tryd.zeroValue23
    simp only [nmx, seval]
    exact VE.nil _
  · kernel_rfl
  change VOk _ _ _ _ _
  refine vseq ?_
  apply vrp
  · apply VE.cons
    · exact ev_call rfl (gn rfl) rfl (en_of Tryd.func30 (by kernel_rfl) rfl) (fun w' hw' => c_N w')
    simp only [nmx, seval]
    apply VE.cons
    · exact ev_alloc rfl rfl (gn rfl) Tryd.zeroValue49
    simp only [nmx, seval]
    apply VE.cons
    · exact ev_store rfl (gn rfl) rfl rfl rfl Tryd.sizeOf49 rfl (by simp) rfl
    simp only [nmx, seval]
    exact VE.nil _
  · kernel_rfl
  change VOk _ _ _ _ _
  refine vseq ?_
  apply vrp
  · apply VE.cons
    · exact ev_alloc rfl rfl (gn rfl) Tryd.zeroValue23
    simp only [nmx, seval]
    apply VE.cons
    · exact ev_alloc rfl rfl (gn rfl) Tryd.zeroValue23
    simp only [nmx, seval]
    exact VE.nil _
  · kernel_rfl
  change VOk _ _ _ _ _
  refine vseq ?_
  apply vrd (by kernel_rfl)
  · apply VE.cons
    · exact ev_slicea rfl (gn rfl) rfl Tryd.underlying23 Tryd.sizeOf5
    simp only [nmx, seval]
    apply VE.cons
    · exact ev_slicelh (a := 0) (b := 32) rfl (gn rfl) rfl Tryd.underlying24 Tryd.sizeOf5 rfl rfl (by decide) (by decide) (by decide)
    simp only [nmx, seval]
    apply VE.cons
    · exact ev_copy (news := l32 r) (len := 32) (k := 32) rfl (gn rfl) rfl rfl rfl (rdg_cells rfl rfl rfl (by decide)) Tryd.underlying22 info5 rfl rfl (by simp) rfl (by decide)
    simp only [nmx, seval]
    exact VE.nil _
  · kernel_rfl
  change VOk _ _ _ _ _
  refine vseq ?_
  apply vrd (by kernel_rfl)
  · apply VE.cons
    · exact ev_slicea rfl (gn rfl) rfl Tryd.underlying23 Tryd.sizeOf5
    simp only [nmx, seval]
    apply VE.cons
    · exact ev_slicelh (a := 32) (b := 64) rfl (gn rfl) rfl Tryd.underlying24 Tryd.sizeOf5 rfl rfl (by decide) (by decide) (by decide)
    simp only [nmx, seval]
    apply VE.cons
    · exact ev_copy (news := l32 t) (len := 32) (k := 32) rfl (gn rfl) rfl rfl rfl (rdg_cells rfl rfl rfl (by decide)) Tryd.underlying22 info5 rfl rfl (by simp) rfl (by decide)
    simp only [nmx, seval]
    exact VE.nil _
  · kernel_rfl
  change VOk _ _ _ _ _
  refine vseq ?_
  apply vrp
  · apply VE.cons
    · exact ev_build rfl (gn rfl) rfl built29_0
    simp only [nmx, seval]
    apply VE.cons
    · exact ev_build rfl (gn rfl) rfl built49_2
    simp only [nmx, seval]
    apply VE.cons
    · first | exact ev_load rfl (gn rfl) rfl rfl Tryd.underlying49 rfl Tryd.sizeOf49 rfl rfl | exact ev_loadx rfl (gn rfl) rfl Tryd.underlying49 rfl Tryd.sizeOf49 (by assumption) rfl | exact ev_loada rfl (gn rfl) rfl rfl Tryd.underlying49 rfl Tryd.sizeOf49 rfl
    simp only [nmx, seval]
    apply VE.cons
    · exact ev_call rfl (gn rfl) rfl (en_of Tryd.func31 (by kernel_rfl) rfl) (fun w' hw' => rsub2 w')
    simp only [nmx, seval]
    apply VE.cons
    · exact ev_alloc rfl rfl (gn rfl) Tryd.zeroValue49
    simp only [nmx, seval]
    apply VE.cons
    · exact ev_store rfl (gn rfl) rfl rfl rfl Tryd.sizeOf49 rfl (by simp) rfl
    simp only [nmx, seval]
    exact VE.nil _
  · kernel_rfl
  change VOk _ _ _ _ _
  refine vseq ?_
  apply vrd (by kernel_rfl)
  · apply VE.cons
    · first | exact ev_load rfl (gn rfl) rfl rfl Tryd.underlying23 rfl Tryd.sizeOf23 rfl rfl | exact ev_loadx rfl (gn rfl) rfl Tryd.underlying23 rfl Tryd.sizeOf23 (by assumption) rfl | exact ev_loada rfl (gn rfl) rfl rfl Tryd.underlying23 rfl Tryd.sizeOf23 rfl
    simp only [nmx, seval]
    apply VE.cons
    · exact ev_call rfl (gn rfl) rfl (en_of Tryd.func29 (by kernel_rfl) rfl) (fun w' hw' => rofN t ht w')
    simp only [nmx, seval]
    apply VE.cons
    · first | exact ev_load rfl (gn rfl) rfl rfl Tryd.underlying49 rfl Tryd.sizeOf49 rfl rfl | exact ev_loadx rfl (gn rfl) rfl Tryd.underlying49 rfl Tryd.sizeOf49 (by assumption) rfl | exact ev_loada rfl (gn rfl) rfl rfl Tryd.underlying49 rfl Tryd.sizeOf49 rfl
    simp only [nmx, seval]
    apply VE.cons
    · first | exact ev_load rfl (gn rfl) rfl rfl Tryd.underlying49 rfl Tryd.sizeOf49 rfl rfl | exact ev_loadx rfl (gn rfl) rfl Tryd.underlying49 rfl Tryd.sizeOf49 (by assumption) rfl | exact ev_loada rfl (gn rfl) rfl rfl Tryd.underlying49 rfl Tryd.sizeOf49 rfl
    simp only [nmx, seval]
    apply VE.cons
    · exact ev_call rfl (gn rfl) rfl (en_of Tryd.func32 (by kernel_rfl) rfl) (fun w' hw' => rpow_ok mdn ht (by decide) w')
    simp only [nmx, seval]
    apply VE.cons
    · exact ev_alloc rfl rfl (gn rfl) Tryd.zeroValue49
    simp only [nmx, seval]
    apply VE.cons
    · exact ev_store rfl (gn rfl) rfl rfl rfl Tryd.sizeOf49 rfl (by simp) rfl
    simp only [nmx, seval]
    exact VE.nil _
  · kernel_rfl
  change VOk _ _ _ _ _
  refine vseq ?_
  apply vrd (by kernel_rfl)
  · apply VE.cons
    · first | exact ev_load rfl (gn rfl) rfl rfl Tryd.underlying49 rfl Tryd.sizeOf49 rfl rfl | exact ev_loadx rfl (gn rfl) rfl Tryd.underlying49 rfl Tryd.sizeOf49 (by assumption) rfl | exact ev_loada rfl (gn rfl) rfl rfl Tryd.underlying49 rfl Tryd.sizeOf49 rfl
    simp only [nmx, seval]
    apply VE.cons
    · first | exact ev_load rfl (gn rfl) rfl rfl Tryd.underlying23 rfl Tryd.sizeOf23 rfl rfl | exact ev_loadx rfl (gn rfl) rfl Tryd.underlying23 rfl Tryd.sizeOf23 (by assumption) rfl | exact ev_loada rfl (gn rfl) rfl rfl Tryd.underlying23 rfl Tryd.sizeOf23 rfl
    simp only [nmx, seval]
    apply VE.cons
    · exact ev_call rfl (gn rfl) rfl (en_of Tryd.func29 (by kernel_rfl) rfl) (fun w' hw' => rofN h hh w')
    simp only [nmx, seval]
    apply VE.cons
    · first | exact ev_load rfl (gn rfl) rfl rfl Tryd.underlying49 rfl Tryd.sizeOf49 rfl rfl | exact ev_loadx rfl (gn rfl) rfl Tryd.underlying49 rfl Tryd.sizeOf49 (by assumption) rfl | exact ev_loada rfl (gn rfl) rfl rfl Tryd.underlying49 rfl Tryd.sizeOf49 rfl
    simp only [nmx, seval]
    apply VE.cons
    · exact ev_call rfl (gn rfl) rfl (en_of Tryd.func34 (by kernel_rfl) rfl) (fun w' hw' => rmul_ok mdn (mod_R _) hh w')
    simp only [nmx, seval]
    apply VE.cons
    · exact ev_call rfl (gn rfl) rfl (en_of Tryd.func33 (by kernel_rfl) rfl) (fun w' hw' => rbytes_ok _ w')
    simp only [nmx, seval]
    apply VE.cons
    · first | exact ev_load rfl (gn rfl) rfl rfl Tryd.underlying49 rfl Tryd.sizeOf49 rfl rfl | exact ev_loadx rfl (gn rfl) rfl Tryd.underlying49 rfl Tryd.sizeOf49 (by assumption) rfl | exact ev_loada rfl (gn rfl) rfl rfl Tryd.underlying49 rfl Tryd.sizeOf49 rfl
    simp only [nmx, seval]
    apply VE.cons
    · first | exact ev_load rfl (gn rfl) rfl rfl Tryd.underlying23 rfl Tryd.sizeOf23 rfl rfl | exact ev_loadx rfl (gn rfl) rfl Tryd.underlying23 rfl Tryd.sizeOf23 (by assumption) rfl | exact ev_loada rfl (gn rfl) rfl rfl Tryd.underlying23 rfl Tryd.sizeOf23 rfl
    simp only [nmx, seval]
    apply VE.cons
    · exact ev_call rfl (gn rfl) rfl (en_of Tryd.func29 (by kernel_rfl) rfl) (fun w' hw' => rofN r hr w')
    simp only [nmx, seval]
    apply VE.cons
    · first | exact ev_load rfl (gn rfl) rfl rfl Tryd.underlying49 rfl Tryd.sizeOf49 rfl rfl | exact ev_loadx rfl (gn rfl) rfl Tryd.underlying49 rfl Tryd.sizeOf49 (by assumption) rfl | exact ev_loada rfl (gn rfl) rfl rfl Tryd.underlying49 rfl Tryd.sizeOf49 rfl
    simp only [nmx, seval]
    apply VE.cons
    · exact ev_call rfl (gn rfl) rfl (en_of Tryd.func34 (by kernel_rfl) rfl) (fun w' hw' => rmul_ok mdn (mod_R _) hr w')
    simp only [nmx, seval]
    apply VE.cons
    · exact ev_call rfl (gn rfl) rfl (en_of Tryd.func33 (by kernel_rfl) rfl) (fun w' hw' => rbytes_ok _ w')
    simp only [nmx, seval]
    apply VE.cons
    · exact ev_store rfl (gn rfl) rfl rfl rfl Tryd.sizeOf23 rfl (by simp) rfl
    simp only [nmx, seval]
    apply VE.cons
    · exact ev_store rfl (gn rfl) rfl rfl rfl Tryd.sizeOf23 rfl (by simp) rfl
    simp only [nmx, seval]
    exact VE.nil _
  · kernel_rfl
  change VOk _ _ _ _ _
  refine vret ?_
  refine post_ret (res2 Tryd.results10 (rv_cell rfl rfl Tryd.underlying23 rfl Tryd.sizeOf23 rfl rfl) (rv_cell rfl rfl Tryd.underlying23 rfl Tryd.sizeOf23 rfl rfl)) ?_
  intro ρ w' hr
  exact ⟨rfl, hr.1⟩
theorem nn_prm : TollNt.Prm nn := TollNt.prm_115792089210356248762697446949407573529996955224135760342422259061068512044369
theorem ferm {t : Nat} (h : sec t = true) : t ^ (nn - 2) % nn * t % nn = 1 ∧ t ^ (nn - 2) % nn < nn := by
  have h1 := of_decide_eq_true h
  refine ⟨?_, Nat.mod_lt _ (by decide)⟩
  rw [Nat.mod_mul_mod, ← Nat.pow_succ]
  have e : (nn - 2).succ = nn - 1 := by decide
  rw [e]
  exact TollNt.fermat nn_prm fun c => by have := Nat.le_of_dvd (by omega) c; omega
theorem sample_sum : sha [[115, 97, 109, 112, 108, 101]].flatten = bl 79232240492262066599341792208678897019497196617930543451364792016062498329023 := by decide +kernel
theorem s0_K1 : nK1 91225253027397101270059260515990221874496108017261222445699397644687913215777 79232240492262066599341792208678897019497196617930543451364792016062498329023 = [18, 45, 177, 222, 152, 218, 228, 223, 163, 63, 45, 168, 233, 132, 148, 200, 11, 255, 128, 123, 71, 159, 215, 146, 97, 179, 126, 37, 242, 103, 238, 88] := by decide +kernel
theorem s0_V1 : nV1 91225253027397101270059260515990221874496108017261222445699397644687913215777 79232240492262066599341792208678897019497196617930543451364792016062498329023 = [201, 148, 120, 3, 167, 71, 252, 96, 194, 53, 53, 253, 204, 19, 181, 202, 86, 107, 72, 34, 28, 166, 125, 73, 100, 210, 45, 170, 72, 39, 88, 68] := by unfold nV1; rw [s0_K1]; decide +kernel
theorem s0_K2 : nK2 91225253027397101270059260515990221874496108017261222445699397644687913215777 79232240492262066599341792208678897019497196617930543451364792016062498329023 = [182, 212, 249, 142, 186, 231, 10, 161, 90, 34, 56, 173, 228, 226, 10, 179, 35, 252, 30, 119, 125, 34, 240, 197, 130, 216, 239, 46, 107, 167, 53, 105] := by unfold nK2; rw [s0_K1, s0_V1]; decide +kernel
theorem s0_V2 : nV2 91225253027397101270059260515990221874496108017261222445699397644687913215777 79232240492262066599341792208678897019497196617930543451364792016062498329023 = [186, 229, 127, 226, 86, 222, 45, 232, 6, 177, 6, 53, 73, 114, 55, 231, 186, 233, 103, 84, 88, 37, 102, 56, 76, 71, 198, 195, 65, 100, 148, 209] := by unfold nV2; rw [s0_K2, s0_V1]; decide +kernel
theorem s0_n : nV3 91225253027397101270059260515990221874496108017261222445699397644687913215777 (79232240492262066599341792208678897019497196617930543451364792016062498329023 % nn) = bl 75486370184466523516702714224272210659255809472406410223340475427961162083680 := by
  rw [show 79232240492262066599341792208678897019497196617930543451364792016062498329023 % nn = 79232240492262066599341792208678897019497196617930543451364792016062498329023 by decide +kernel]; unfold nV3; rw [s0_K2, s0_V2]; decide +kernel
theorem s0_Q : smul 75486370184466523516702714224272210659255809472406410223340475427961162083680 base = .aff (108478302882382504386260635397250479524259298414270181541635698882548524332822 : F) (23816927082762815370282769170926222301915909407297503829989736095857061655698 : F) := by
  have e := TollEc.ladder_all 75486370184466523516702714224272210659255809472406410223340475427961162083680 (by decide) TollEc.bj (by rw [TollEc.bj_rep]; exact TollEc.base_on)
  have hz : (TollEc.ladder 75486370184466523516702714224272210659255809472406410223340475427961162083680 TollEc.bj 256).z * 59417473789786370807793808047161012540374656117645285032131754810474643093239 = 1 := by decide +kernel
  have hx : (TollEc.ladder 75486370184466523516702714224272210659255809472406410223340475427961162083680 TollEc.bj 256).x * ((59417473789786370807793808047161012540374656117645285032131754810474643093239 : F) * 59417473789786370807793808047161012540374656117645285032131754810474643093239) = 108478302882382504386260635397250479524259298414270181541635698882548524332822 := by decide +kernel
  have hy : (TollEc.ladder 75486370184466523516702714224272210659255809472406410223340475427961162083680 TollEc.bj 256).y * ((59417473789786370807793808047161012540374656117645285032131754810474643093239 : F) * (59417473789786370807793808047161012540374656117645285032131754810474643093239 * 59417473789786370807793808047161012540374656117645285032131754810474643093239)) = 23816927082762815370282769170926222301915909407297503829989736095857061655698 := by decide +kernel
  rw [TollEc.bj_rep, TollEc.rep_of hz, hx, hy] at e
  exact e.symm
theorem builtD : Tryd.prog.built 23 [(0, .int .u8 201), (1, .int .u8 175), (2, .int .u8 169), (3, .int .u8 216), (4, .int .u8 69), (5, .int .u8 186), (6, .int .u8 117), (7, .int .u8 22), (8, .int .u8 107), (9, .int .u8 92), (10, .int .u8 33), (11, .int .u8 87), (12, .int .u8 103), (13, .int .u8 177), (14, .int .u8 214), (15, .int .u8 147), (16, .int .u8 78), (17, .int .u8 80), (18, .int .u8 195), (19, .int .u8 219), (20, .int .u8 54), (21, .int .u8 232), (22, .int .u8 155), (23, .int .u8 18), (24, .int .u8 123), (25, .int .u8 138), (26, .int .u8 98), (27, .int .u8 43), (28, .int .u8 18), (29, .int .u8 15), (30, .int .u8 103), (31, .int .u8 33)] = some (B32 91225253027397101270059260515990221874496108017261222445699397644687913215777).cells := by kernel_rfl
theorem s0_b0 : byt 108478302882382504386260635397250479524259298414270181541635698882548524332822 0 = 239 := by decide +kernel
theorem s0_b1 : byt 108478302882382504386260635397250479524259298414270181541635698882548524332822 1 = 212 := by decide +kernel
theorem s0_b31 : byt 108478302882382504386260635397250479524259298414270181541635698882548524332822 31 = 22 := by decide +kernel
theorem signs_ok (w : World) (hL : Laid w) (hK : LaidK w) (hH : LaidH w) (hb1 : 6 < w.heap.size) : Calls Tryd.prog 7 #[] w fun e w' => e = .returned (.bool true) ∧ Bw w w' := by
  go_enter Tryd.func7, Tryd.ntmps7
  refine ve_go ?_
  simp only [List.map_cons, List.map_nil]
  refine vseq ?_
  apply vrp
  · apply VE.cons
    · exact ev_assign rfl (gn rfl)
    simp only [nmx, seval]
    exact VE.nil _
  · kernel_rfl
  change VOk _ _ _ _ _
  refine vseq ?_
  apply vrp
  · apply VE.cons
    · exact ev_build (cells := (B32 91225253027397101270059260515990221874496108017261222445699397644687913215777).cells) rfl (gn rfl) rfl builtD
    simp only [nmx, seval]
    apply VE.cons
    · exact ev_alloc rfl rfl (gn rfl) Tryd.zeroValue23
    simp only [nmx, seval]
    apply VE.cons
    · exact ev_store rfl (gn rfl) rfl rfl rfl Tryd.sizeOf23 rfl (by simp) rfl
    simp only [nmx, seval]
    exact VE.nil _
  · kernel_rfl
  change VOk _ _ _ _ _
  refine vseq ?_
  apply vrd (by kernel_rfl)
  · apply VE.cons
    · first | exact ev_load rfl (gn rfl) rfl rfl Tryd.underlying23 rfl Tryd.sizeOf23 rfl rfl | exact ev_loadx rfl (gn rfl) rfl Tryd.underlying23 rfl Tryd.sizeOf23 (by assumption) rfl | exact ev_loada rfl (gn rfl) rfl rfl Tryd.underlying23 rfl Tryd.sizeOf23 rfl
    simp only [nmx, seval]
    apply VE.cons
    · exact ev_buildslice rfl rfl (gn rfl) rfl (e := 5) (l := [115, 97, 109, 112, 108, 101].map b8) rfl (by decide) (fun _ => by kernel_rfl)
    simp only [nmx, seval]
    apply VE.cons
    · exact ev_convown (id := 7) rfl (gn rfl) rfl rfl (by decide) Tryd.underlying22 Tryd.underlying5
    simp only [nmx, seval]
    apply VE.cons
    · exact ev_bsl (ys := [.d 7]) (size := 1) (l := [.d 7]) (ls := [[.d 7]]) [7] rfl rfl (gn rfl) rfl rfl rfl (fun ρ S w' hb hR j y lj hy hl => by have h7 := row_cells (id := 7) hR (by simp) rfl; rcases j with _ | j <;> simp only [List.getElem?_cons_zero, List.getElem?_cons_succ, List.getElem?_nil, Option.some.injEq, reduceCtorEq] at hy hl <;> (subst hy hl; first | exact one_s | exact h7.1)) (by simp) rfl rfl Tryd.underlying85 (by kernel_rfl) (by kernel_rfl) (by decide) (by decide)
    simp only [nmx, seval]
    apply VE.cons
    · exact ev_callp (v := B32 79232240492262066599341792208678897019497196617930543451364792016062498329023) [7, 9] rfl (gn rfl) rfl (en_of Tryd.func25 (by kernel_rfl) rfl) (fun ρ S w' hb hR => by have a := Of_ok (ls := [[115, 97, 109, 112, 108, 101]]) w' (hK.bw hb) (hH.bw hb) (Nat.lt_of_lt_of_le hb1 hb.size) (partsf_own (id := 9) (n := 1) (by simp) (by rfl) rfl (by exact ⟨⟨rdgf_rowL (id := 7) (by simp) rfl rfl, (by decide)⟩, trivial⟩) ρ S w' hb hR) (hangs_lt hb hR) (by decide) (by decide); rw [sample_sum, ← B32_bl] at a; exact a)
    simp only [nmx, seval]
    apply VE.cons
    · exact ev_callb (v := .tuple #[PT 108478302882382504386260635397250479524259298414270181541635698882548524332822 112080140797967428609887221250561337109878063180226093183577605221974133099944, .int .i64 0]) rfl (gn rfl) rfl (en_of Tryd.func24 (by kernel_rfl) rfl) (fun w' hw' => Make_ok (d := 91225253027397101270059260515990221874496108017261222445699397644687913215777) (h := 79232240492262066599341792208678897019497196617930543451364792016062498329023) (k := 75486370184466523516702714224272210659255809472406410223340475427961162083680) (r := 108478302882382504386260635397250479524259298414270181541635698882548524332822) (t := 112080140797967428609887221250561337109878063180226093183577605221974133099944) (i := 77330732676717296355926672845175206641902884526782727272171666650193567147335) (by decide) (by decide) (by decide) w' (hL.bw hw') (hK.bw hw') (hH.bw hw') (Nat.lt_of_lt_of_le hb1 hw'.size) (by decide) s0_n (by decide) s0_Q (by decide +kernel) (by decide) (by decide +kernel) (by decide +kernel) (by decide) (by decide))
    simp only [nmx, seval]
    apply VE.cons
    · exact ev_move rfl (gn rfl)
    simp only [nmx, seval]
    apply VE.cons
    · first | exact ev_extract rfl (gn rfl) rfl rfl | exact ev_extractt rfl (gn rfl) rfl rfl
    simp only [nmx, seval]
    apply VE.cons
    · first | exact ev_extract rfl (gn rfl) rfl rfl | exact ev_extractt rfl (gn rfl) rfl rfl
    simp only [nmx, seval]
    apply VE.cons
    · exact ev_alloc rfl rfl (gn rfl) Tryd.zeroValue24
    simp only [nmx, seval]
    apply VE.cons
    · exact ev_store rfl (gn rfl) rfl rfl rfl Tryd.sizeOf24 rfl (by simp) rfl
    simp only [nmx, seval]
    apply VE.cons
    · exact ev_assign rfl (gn rfl)
    simp only [nmx, seval]
    exact VE.nil _
  · kernel_rfl
  change VOk _ _ _ _ _
  refine vseq ?_
  apply vrp
  · apply VE.cons
    · exact ev_move rfl (gn rfl)
    simp only [nmx, seval]
    apply VE.cons
    · exact ev_eql (p := true) rfl (gn rfl) rfl rfl (by decide)
    simp only [nmx, seval]
    apply VE.cons
    · exact ev_move rfl (gn rfl)
    simp only [nmx, seval]
    apply VE.cons
    · first | exact Ev.skip (fun _ => rfl) | exact ev_index rfl (fun _ => rfl) rfl rfl Tryd.underlying24 Tryd.sizeOf5 (by decide) (by decide)
    simp only [nmx, seval]
    apply VE.cons
    · first | exact Ev.skip (fun _ => rfl) | exact ev_load1 rfl (fun _ => rfl) rfl rfl Tryd.underlying5 rfl rfl | exact ev_loadx1 rfl (fun _ => rfl) rfl Tryd.underlying5 rfl (by assumption)
    simp only [nmx, seval]
    apply VE.cons
    · first | exact Ev.skip (fun _ => rfl) | exact ev_eql (p := true) rfl (fun _ => rfl) rfl rfl (by rw [s0_b0]; decide)
    simp only [nmx, seval]
    apply VE.cons
    · refine ev_pure' (gn rfl) (fun ρ w => by simp only [VS.act, SV.c, List.map_cons, List.map_nil]; go_simp; exact rfl) (fun _ _ => rfl)
    simp only [nmx, seval]
    apply VE.cons
    · exact ev_move rfl (gn rfl)
    simp only [nmx, seval]
    apply VE.cons
    · first | exact Ev.skip (fun _ => rfl) | exact ev_index rfl (fun _ => rfl) rfl rfl Tryd.underlying24 Tryd.sizeOf5 (by decide) (by decide)
    simp only [nmx, seval]
    apply VE.cons
    · first | exact Ev.skip (fun _ => rfl) | exact ev_load1 rfl (fun _ => rfl) rfl rfl Tryd.underlying5 rfl rfl | exact ev_loadx1 rfl (fun _ => rfl) rfl Tryd.underlying5 rfl (by assumption)
    simp only [nmx, seval]
    apply VE.cons
    · first | exact Ev.skip (fun _ => rfl) | exact ev_eql (p := true) rfl (fun _ => rfl) rfl rfl (by rw [s0_b1]; decide)
    simp only [nmx, seval]
    apply VE.cons
    · refine ev_pure' (gn rfl) (fun ρ w => by simp only [VS.act, SV.c, List.map_cons, List.map_nil]; go_simp; exact rfl) (fun _ _ => rfl)
    simp only [nmx, seval]
    apply VE.cons
    · exact ev_move rfl (gn rfl)
    simp only [nmx, seval]
    apply VE.cons
    · first | exact Ev.skip (fun _ => rfl) | exact ev_index rfl (fun _ => rfl) rfl rfl Tryd.underlying24 Tryd.sizeOf5 (by decide) (by decide)
    simp only [nmx, seval]
    apply VE.cons
    · first | exact Ev.skip (fun _ => rfl) | exact ev_load1 rfl (fun _ => rfl) rfl rfl Tryd.underlying5 rfl rfl | exact ev_loadx1 rfl (fun _ => rfl) rfl Tryd.underlying5 rfl (by assumption)
    simp only [nmx, seval]
    apply VE.cons
    · first | exact Ev.skip (fun _ => rfl) | exact ev_eql (p := true) rfl (fun _ => rfl) rfl rfl (by rw [s0_b31]; decide)
    simp only [nmx, seval]
    apply VE.cons
    · refine ev_pure' (gn rfl) (fun ρ w => by simp only [VS.act, SV.c, List.map_cons, List.map_nil]; go_simp; exact rfl) (fun _ _ => rfl)
    simp only [nmx, seval]
    apply VE.cons
    · exact ev_assign rfl (gn rfl)
    simp only [nmx, seval]
    exact VE.nil _
  · kernel_rfl
  change VOk _ _ _ _ _
  refine vret ?_
  refine post_ret (res1 Tryd.results7 (rv_tmp rfl)) ?_
  intro ρ w' hr
  exact ⟨rfl, hr.1⟩
end Go.Proofs.YtafbhakmkbehiaaDoor
end
