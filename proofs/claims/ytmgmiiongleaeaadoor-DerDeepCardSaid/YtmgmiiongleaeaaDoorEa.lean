import Derived.Test.YtmgmiiongleaeaaDoorDz
namespace Go.Proofs.YtmgmiiongleaeaaDoor
open Go.RowKit Go.Vx
open Go.Toll (Gw)
set_option maxHeartbeats 4000000
set_option maxRecDepth 100000
theorem built24_0 : Tryd.prog.built 24 [] = some #[.int .i64 0, .string (ByteArray.mk #[]), .slice none 0 0] := by kernel_rfl
theorem built24_t (t : Int) : Tryd.prog.built 24 [(0, .int .i64 t)] = some #[.int .i64 t, .string (ByteArray.mk #[]), .slice none 0 0] := by kernel_rfl
theorem rnode_leaf {w0 w : World} (t : Int) (b : List Nat) : RetD w0 w (.agg #[.int .i64 t, .string (bstr b), .slice none 0 0]) (datR (.mk t b [])) := by
  refine ⟨fun _ => False, ⟨[.int .i64 t, .string (bstr b), .slice none 0 0], rfl, ?_⟩, fun k hk => hk.elim⟩
  simp only [RN, RNs]
  exact ⟨_, [], rfl, ⟨none, 0, rfl, Nat.le_refl _, rfl, .inl rfl⟩, rfl⟩
theorem bstr_cut (b : List Nat) (i j : Nat) : (bstr b).extract i j = bstr ((b.drop i).take (j - i)) := by
  apply ByteArray.ext
  simp only [bstr, ByteArray.data_extract]
  apply Array.ext'
  simp [Array.toList_extract, List.extract_eq_take_drop, List.map_take, List.map_drop]
theorem ev_cutlo {w0 : World} {ops : Array Oper} {o : Oper} {s : VS} {ty : TypeId} {x y : Operand} {b b' : List Nat} {k : Nat} (ho : o.op = .slice ty x (some y) none none) (hgd : Want ops o s) (hx : svEval s x = .v (.string (bstr b))) (hy : svEval s y = .v (.int .i64 (k : Nat))) (hu : Tryd.prog.underlying ty = some .string) (hk : k ≤ b.length) (hb' : b.drop k = b') : Ev Tryd.prog ops w0 o s ⟨.v (.string (bstr b')), [], [], [], []⟩ :=
  Ev.run _ _ hgd fun ρ S w hbw hR => by
    subst hb'
    have e0 := svEval_c s ρ x
    rw [hx] at e0
    have e1 := svEval_c s ρ y
    rw [hy] at e1
    simp only [SV.c] at e0 e1
    have h1 : (0 : Int) ≤ (k : Int) ∧ (k : Int) ≤ ((bstr b).size : Int) := by rw [bstr_size]; omega
    have h3 : (bstr b).extract k (bstr b).size = bstr (b.drop k) := by rw [bstr_cut, bstr_size, List.take_of_length_le (by simp)]
    simp [execOp, ho, e0, e1, SV.c, Instr.sliceAt, Instr.slice, Instr.sliceBounds, Instr.sliceBound, asIntOf, run_underlying hu, h1]
    rw [if_pos (by omega), h3]
theorem ev_cutlh {w0 : World} {ops : Array Oper} {o : Oper} {s : VS} {ty : TypeId} {x y z : Operand} {b b' : List Nat} {i j : Nat} (ho : o.op = .slice ty x (some y) (some z) none) (hgd : Want ops o s) (hx : svEval s x = .v (.string (bstr b))) (hy : svEval s y = .v (.int .i64 (i : Nat))) (hz : svEval s z = .v (.int .i64 (j : Nat))) (hu : Tryd.prog.underlying ty = some .string) (hij : i ≤ j) (hk : j ≤ b.length) (hb' : (b.drop i).take (j - i) = b') : Ev Tryd.prog ops w0 o s ⟨.v (.string (bstr b')), [], [], [], []⟩ :=
  Ev.run _ _ hgd fun ρ S w hbw hR => by
    subst hb'
    have e0 := svEval_c s ρ x
    rw [hx] at e0
    have e1 := svEval_c s ρ y
    rw [hy] at e1
    have e2 := svEval_c s ρ z
    rw [hz] at e2
    simp only [SV.c] at e0 e1 e2
    have h1 : (0 : Int) ≤ (j : Int) ∧ (j : Int) ≤ ((bstr b).size : Int) := by rw [bstr_size]; omega
    have h2 : (0 : Int) ≤ (i : Int) ∧ (i : Int) ≤ (j : Int) := by omega
    have h3 := bstr_cut b i j
    simp [execOp, ho, e0, e1, e2, SV.c, Instr.sliceAt, Instr.slice, Instr.sliceBounds, Instr.sliceBound, asIntOf, run_underlying hu, h1, h2]
    all_goals first | (rw [if_pos (by omega), if_pos (by omega), h3]) | (rw [if_pos (by omega), h3]) | (rw [if_pos (by rw [bstr_size]; omega), if_pos (by omega), h3]) | exact h3 | omega
theorem kidsU_nil (rd : List Nat → Tr × List Nat × Bool) (n : Nat) (acc : List Tr) : kidsU rd n [] acc = some acc := by cases n <;> simp [kidsU]
theorem kidsU_step {rd : List Nat → Tr × List Nat × Bool} {l : List Nat} (hl : 0 < l.length) (n : Nat) (acc : List Tr) : kidsU rd (n + 1) l acc = bif !(rd l).2.2 then none else kidsU rd n (rd l).2.1 (acc ++ [(rd l).1]) := by
  cases l with
  | nil => simp at hl
  | cons x r => simp only [kidsU]
theorem node_kidsR {w0 w : World} {s : VS} {ρ : Nat → Nm} (j : Nat) {t : Int} {b : List Nat} {ks : List Tr} {n : Nat} (hr : Rel w0 ρ s w) (hn : ks.length = n) (h2 : s.mem j = some (.row n 3 24 (datRs ks))) :
    RetD w0 w (.agg #[.int .i64 t, .string (bstr b), (ρ j).val]) (datR (.mk t b ks)) := by
  subst hn; exact rnode_of j hr h2
def OneOK (f : Nat) : Prop := ∀ (b : List Nat) (d : Nat) (w : World), d + f = 9 → (∀ x ∈ b, x < 256) → b.length ≤ 1048576 →
    Calls Tryd.prog 40 #[.string (bstr b), .int .i64 (d : Nat)] w fun e w' => ∃ v', e = .returned (.tuple #[v', .string (bstr (oneF f b).2.1), .bool (oneF f b).2.2]) ∧ RetD w w' v' (datR ((oneF f b).1)) ∧ Bw w w'
theorem bytes_empty : ByteArray.mk #[] = bstr [] := rfl
theorem one_over {b : List Nat} {d tg n k : Nat} (w : World) (h8 : ∀ x ∈ b, x < 256) (hbl : b.length ≤ 1048576) (hb6 : n < 65536 ∧ k ≤ 4 ∧ tg < 256 ∧ d ≤ 8 ∧ k ≤ b.length) (hn : n + k > b.length) (f : Nat → Value) : VOk Tryd.prog w ⟨[.v (.string (bstr b)), .v (.int .i64 (d : Nat)), .v (f 2), .v (f 3), .p 4 0, .v (f 5), .v (f 6), .p 7 0, .v (.int .i64 (n : Nat)), .v (.int .i64 (k : Nat)), .v (f 10), .v (f 11), .v (f 12), .v (f 13), .v (f 14), .v (f 15), .v (f 16), .v (f 17), .v (f 18), .v (f 19), .v (f 20), .v (f 21), .v (f 22), .v (f 23), .v (f 24), .v (f 25), .v (f 26), .v (f 27), .v (f 28), .v (f 29), .v (f 30), .v (f 31), .v (f 32), .v (f 33), .v (f 34), .v (f 35), .v (f 36), .v (f 37), .v (f 38), .v (f 39), .v (f 40), .v (f 41), .v (f 42), .v (f 43), .v (f 44), .v (f 45), .v (f 46), .v (f 47), .v (f 48), .v (f 49), .v (f 50), .v (f 51), .v (f 52), .v (f 53), .v (f 54), .v (f 55), .v (f 56), .v (f 57), .v (f 58), .v (f 59), .v (f 60), .v (f 61), .v (f 62), .v (f 63), .v (f 64), .v (f 65), .v (f 66), .v (f 67), .v (f 68), .v (f 69), .v (f 70), .v (f 71), .v (f 72), .v (f 73), .v (f 74), .v (f 75), .v (f 76), .v (f 77), .v (f 78), .v (f 79), .v (f 80), .v (f 81), .v (f 82), .v (f 83), .v (f 84), .v (f 85), .v (f 86), .v (f 87), .v (f 88), .v (f 89), .v (f 90), .v (f 91), .v (f 92), .v (f 93), .v (f 94), .v (f 95), .v (f 96), .v (f 97), .v (f 98), .v (f 99), .v (f 100), .v (f 101), .v (f 102), .v (f 103), .v (f 104), .v (f 105), .v (f 106), .v (f 107), .v (f 108), .v (f 109), .v (f 110), .v (f 111), .v (f 112), .v (f 113), .v (f 114), .v (f 115)], memOf [(7, .cells [.v (.int .i64 (tg : Nat)), .v (.string (ByteArray.mk #[])), .v (.slice none 0 0)] 24), (4, .cells [.v (.int .i64 0), .v (.string (ByteArray.mk #[])), .v (.slice none 0 0)] 24)]⟩ (dropSeq 5 (bodyOf Tryd.f40)) (QB Tryd.prog Tryd.f40 w fun e w' => ∃ v', e = .returned (.tuple #[v', .string (bstr ([])), .bool false]) ∧ RetD w w' v' (datR (noT)) ∧ Bw w w') := by
  refine vseq ?_
  refine vseq ?_
  apply vrp
  · apply VE.cons
    · exact ev_move rfl (gn rfl)
    simp only [nm, seval]
    apply VE.cons
    · exact ev_move rfl (gn rfl)
    simp only [nm, seval]
    apply VE.cons
    · exact ev_lenb rfl (gn rfl) rfl Tryd.underlying9
    simp only [nm, seval]
    apply VE.cons
    · exact ev_move rfl (gn rfl)
    simp only [nm, seval]
    apply VE.cons
    · exact ev_sub (c := ((b.length : Int) - (k : Int))) rfl (gn rfl) rfl rfl (by rw [i64w (by omega) (by omega)])
    simp only [nm, seval]
    apply VE.cons
    · exact ev_gtr (p := true) rfl (gn rfl) rfl rfl (decide_eq_true (by omega))
    simp only [nm, seval]
    exact VE.nil _
  · kernel_rfl
  change VOk _ _ _ _ _
  refine vcond_t rfl ?_
  refine vseq ?_
  apply vrp
  · apply VE.cons
    · exact ev_build (cells := #[.int .i64 0, .string (ByteArray.mk #[]), .slice none 0 0]) rfl (gn rfl) rfl built24_0
    simp only [nm, seval]
    apply VE.cons
    · exact ev_store rfl (gn rfl) rfl rfl rfl Tryd.sizeOf24 rfl (by simp) rfl
    simp only [nm, seval]
    apply VE.cons
    · exact ev_assign rfl (gn rfl)
    simp only [nm, seval]
    apply VE.cons
    · exact ev_assign rfl (gn rfl)
    simp only [nm, seval]
    exact VE.nil _
  · kernel_rfl
  change VOk _ _ _ _ _
  refine vret ?_
  refine post_ret (res3 Tryd.results40 (rv_cella rfl rfl Tryd.underlying24 rfl Tryd.sizeOf24 rfl) (rv_tmp rfl) (rv_tmp rfl)) ?_
  intro ρ w' hr
  refine ⟨_, rfl, ?_, hr.1⟩
  exact rnode_leaf 0 []
theorem one_leaf {b : List Nat} {d tg n k : Nat} (w : World) (h8 : ∀ x ∈ b, x < 256) (hbl : b.length ≤ 1048576) (hb6 : n < 65536 ∧ k ≤ 4 ∧ tg < 256 ∧ d ≤ 8 ∧ k ≤ b.length) (hn : n + k ≤ b.length) (hm : madeT tg = false) (f : Nat → Value) : VOk Tryd.prog w ⟨[.v (.string (bstr b)), .v (.int .i64 (d : Nat)), .v (f 2), .v (f 3), .p 4 0, .v (f 5), .v (f 6), .p 7 0, .v (.int .i64 (n : Nat)), .v (.int .i64 (k : Nat)), .v (f 10), .v (f 11), .v (f 12), .v (f 13), .v (f 14), .v (f 15), .v (f 16), .v (f 17), .v (f 18), .v (f 19), .v (f 20), .v (f 21), .v (f 22), .v (f 23), .v (f 24), .v (f 25), .v (f 26), .v (f 27), .v (f 28), .v (f 29), .v (f 30), .v (f 31), .v (f 32), .v (f 33), .v (f 34), .v (f 35), .v (f 36), .v (f 37), .v (f 38), .v (f 39), .v (f 40), .v (f 41), .v (f 42), .v (f 43), .v (f 44), .v (f 45), .v (f 46), .v (f 47), .v (f 48), .v (f 49), .v (f 50), .v (f 51), .v (f 52), .v (f 53), .v (f 54), .v (f 55), .v (f 56), .v (f 57), .v (f 58), .v (f 59), .v (f 60), .v (f 61), .v (f 62), .v (f 63), .v (f 64), .v (f 65), .v (f 66), .v (f 67), .v (f 68), .v (f 69), .v (f 70), .v (f 71), .v (f 72), .v (f 73), .v (f 74), .v (f 75), .v (f 76), .v (f 77), .v (f 78), .v (f 79), .v (f 80), .v (f 81), .v (f 82), .v (f 83), .v (f 84), .v (f 85), .v (f 86), .v (f 87), .v (f 88), .v (f 89), .v (f 90), .v (f 91), .v (f 92), .v (f 93), .v (f 94), .v (f 95), .v (f 96), .v (f 97), .v (f 98), .v (f 99), .v (f 100), .v (f 101), .v (f 102), .v (f 103), .v (f 104), .v (f 105), .v (f 106), .v (f 107), .v (f 108), .v (f 109), .v (f 110), .v (f 111), .v (f 112), .v (f 113), .v (f 114), .v (f 115)], memOf [(7, .cells [.v (.int .i64 (tg : Nat)), .v (.string (ByteArray.mk #[])), .v (.slice none 0 0)] 24), (4, .cells [.v (.int .i64 0), .v (.string (ByteArray.mk #[])), .v (.slice none 0 0)] 24)]⟩ (dropSeq 5 (bodyOf Tryd.f40)) (QB Tryd.prog Tryd.f40 w fun e w' => ∃ v', e = .returned (.tuple #[v', .string (bstr (b.drop (k + n))), .bool true]) ∧ RetD w w' v' (datR (.mk tg ((b.drop k).take n) [])) ∧ Bw w w') := by
  have hil := (part_len hn).1
  obtain ⟨L, hL⟩ : ∃ L, (b.drop k).take n = L := ⟨_, rfl⟩
  rw [hL] at hil
  have hLL : (b.drop k).take (k + n - k) = L := by rw [Nat.add_sub_cancel_left]; exact hL
  have hL8 : ∀ x ∈ L, x < 256 := fun x hx => h8 x (List.mem_of_mem_drop (List.mem_of_mem_take (hL ▸ hx)))
  rw [hL]
  refine vseq ?_
  refine vseq ?_
  apply vrp
  · apply VE.cons
    · exact ev_move rfl (gn rfl)
    simp only [nm, seval]
    apply VE.cons
    · exact ev_move rfl (gn rfl)
    simp only [nm, seval]
    apply VE.cons
    · exact ev_lenb rfl (gn rfl) rfl Tryd.underlying9
    simp only [nm, seval]
    apply VE.cons
    · exact ev_move rfl (gn rfl)
    simp only [nm, seval]
    apply VE.cons
    · exact ev_sub (c := ((b.length : Int) - (k : Int))) rfl (gn rfl) rfl rfl (by rw [i64w (by omega) (by omega)])
    simp only [nm, seval]
    apply VE.cons
    · exact ev_gtr (p := false) rfl (gn rfl) rfl rfl (decide_eq_false (by omega))
    simp only [nm, seval]
    exact VE.nil _
  · kernel_rfl
  change VOk _ _ _ _ _
  refine vcond_f rfl ?_
  refine vskip ?_
  change VOk _ _ _ _ _
  refine vseq ?_
  apply vrp
  · apply VE.cons
    · exact ev_move rfl (gn rfl)
    simp only [nm, seval]
    apply VE.cons
    · exact ev_move rfl (gn rfl)
    simp only [nm, seval]
    apply VE.cons
    · exact ev_move rfl (gn rfl)
    simp only [nm, seval]
    apply VE.cons
    · exact ev_move rfl (gn rfl)
    simp only [nm, seval]
    apply VE.cons
    · exact ev_add (c := ((k + n : Nat) : Int)) rfl (gn rfl) rfl rfl (by rw [i64w (by omega) (by omega)]; omega)
    simp only [nm, seval]
    apply VE.cons
    · exact ev_cutlh (b' := L) (i := k) (j := k + n) rfl (gn rfl) rfl rfl rfl Tryd.underlying9 (by omega) (by omega) hLL
    simp only [nm, seval]
    apply VE.cons
    · exact ev_assign rfl (gn rfl)
    simp only [nm, seval]
    exact VE.nil _
  · kernel_rfl
  change VOk _ _ _ _ _
  refine vseq ?_
  refine vseq ?_
  apply vrp
  · apply VE.cons
    · first | exact ev_field rfl (gn rfl) rfl Tryd.underlying24 rfl Tryd.sizeOf3 | exact ev_fieldx rfl (gn rfl) rfl Tryd.underlying24 rfl Tryd.sizeOf3
    simp only [nm, seval]
    apply VE.cons
    · first | exact ev_load1 rfl (gn rfl) rfl rfl Tryd.underlying3 rfl rfl | exact ev_loadx1 rfl (gn rfl) rfl Tryd.underlying3 rfl (by assumption)
    simp only [nm, seval]
    apply VE.cons
    · exact ev_callb (v := .bool false) rfl (gn rfl) rfl (en_of Tryd.func35 (by kernel_rfl) rfl) (fun w' hb => by have := rmade_ok (tg : Int) w'; rw [hm] at this; exact this)
    simp only [nm, seval]
    apply VE.cons
    · exact ev_not rfl (gn rfl) rfl
    simp only [nm, seval]
    exact VE.nil _
  · kernel_rfl
  change VOk _ _ _ _ _
  refine vcond_t rfl ?_
  refine vseq ?_
  apply vrp
  · apply VE.cons
    · exact ev_move rfl (gn rfl)
    simp only [nm, seval]
    apply VE.cons
    · first | exact ev_field rfl (gn rfl) rfl Tryd.underlying24 rfl Tryd.sizeOf9 | exact ev_fieldx rfl (gn rfl) rfl Tryd.underlying24 rfl Tryd.sizeOf9
    simp only [nm, seval]
    apply VE.cons
    · exact ev_store rfl (gn rfl) rfl rfl rfl Tryd.sizeOf9 rfl (by simp) rfl
    simp only [nm, seval]
    exact VE.nil _
  · kernel_rfl
  change VOk _ _ _ _ _
  refine vseq ?_
  apply vrd (by kernel_rfl)
  · apply VE.cons
    · exact ev_loada rfl (gn rfl) rfl rfl Tryd.underlying24 rfl Tryd.sizeOf24 rfl
    simp only [nm, seval]
    apply VE.cons
    · exact ev_move rfl (gn rfl)
    simp only [nm, seval]
    apply VE.cons
    · exact ev_move rfl (gn rfl)
    simp only [nm, seval]
    apply VE.cons
    · exact ev_move rfl (gn rfl)
    simp only [nm, seval]
    apply VE.cons
    · exact ev_add (c := ((k + n : Nat) : Int)) rfl (gn rfl) rfl rfl (by rw [i64w (by omega) (by omega)]; omega)
    simp only [nm, seval]
    apply VE.cons
    · exact ev_cutlo (k := k + n) (b' := b.drop (k + n)) rfl (gn rfl) rfl rfl Tryd.underlying9 (by omega) rfl
    simp only [nm, seval]
    apply VE.cons
    · first | exact ev_store rfl (gn rfl) rfl rfl rfl Tryd.sizeOf24 rfl (by simp) rfl | exact ev_storea rfl (gn rfl) rfl rfl rfl Tryd.sizeOf24 rfl (by simp) (fun _ => rfl)
    simp only [nm, seval]
    apply VE.cons
    · exact ev_assign rfl (gn rfl)
    simp only [nm, seval]
    apply VE.cons
    · exact ev_assign rfl (gn rfl)
    simp only [nm, seval]
    exact VE.nil _
  · kernel_rfl
  change VOk _ _ _ _ _
  refine vret ?_
  refine post_ret (res3 Tryd.results40 (rv_cella rfl rfl Tryd.underlying24 rfl Tryd.sizeOf24 rfl) (rv_tmp rfl) (rv_tmp rfl)) ?_
  intro ρ w' hr
  refine ⟨_, rfl, ?_, hr.1⟩
  exact rnode_leaf (tg : Int) L
theorem one_node {b : List Nat} {d f' tg n k : Nat} {K : Option (List Tr)} (w : World) (h8 : ∀ x ∈ b, x < 256) (hbl : b.length ≤ 1048576) (hb6 : n < 65536 ∧ k ≤ 4 ∧ tg < 256 ∧ d ≤ 8 ∧ k ≤ b.length) (hn : n + k ≤ b.length) (hm : madeT tg = true) (hih : OneOK f') (hdf : d + 1 + f' = 9) (hK0 : kidsU (oneF f') n ((b.drop k).take n) [] = K) (f : Nat → Value) : VOk Tryd.prog w ⟨[.v (.string (bstr b)), .v (.int .i64 (d : Nat)), .v (f 2), .v (f 3), .p 4 0, .v (f 5), .v (f 6), .p 7 0, .v (.int .i64 (n : Nat)), .v (.int .i64 (k : Nat)), .v (f 10), .v (f 11), .v (f 12), .v (f 13), .v (f 14), .v (f 15), .v (f 16), .v (f 17), .v (f 18), .v (f 19), .v (f 20), .v (f 21), .v (f 22), .v (f 23), .v (f 24), .v (f 25), .v (f 26), .v (f 27), .v (f 28), .v (f 29), .v (f 30), .v (f 31), .v (f 32), .v (f 33), .v (f 34), .v (f 35), .v (f 36), .v (f 37), .v (f 38), .v (f 39), .v (f 40), .v (f 41), .v (f 42), .v (f 43), .v (f 44), .v (f 45), .v (f 46), .v (f 47), .v (f 48), .v (f 49), .v (f 50), .v (f 51), .v (f 52), .v (f 53), .v (f 54), .v (f 55), .v (f 56), .v (f 57), .v (f 58), .v (f 59), .v (f 60), .v (f 61), .v (f 62), .v (f 63), .v (f 64), .v (f 65), .v (f 66), .v (f 67), .v (f 68), .v (f 69), .v (f 70), .v (f 71), .v (f 72), .v (f 73), .v (f 74), .v (f 75), .v (f 76), .v (f 77), .v (f 78), .v (f 79), .v (f 80), .v (f 81), .v (f 82), .v (f 83), .v (f 84), .v (f 85), .v (f 86), .v (f 87), .v (f 88), .v (f 89), .v (f 90), .v (f 91), .v (f 92), .v (f 93), .v (f 94), .v (f 95), .v (f 96), .v (f 97), .v (f 98), .v (f 99), .v (f 100), .v (f 101), .v (f 102), .v (f 103), .v (f 104), .v (f 105), .v (f 106), .v (f 107), .v (f 108), .v (f 109), .v (f 110), .v (f 111), .v (f 112), .v (f 113), .v (f 114), .v (f 115)], memOf [(7, .cells [.v (.int .i64 (tg : Nat)), .v (.string (ByteArray.mk #[])), .v (.slice none 0 0)] 24), (4, .cells [.v (.int .i64 0), .v (.string (ByteArray.mk #[])), .v (.slice none 0 0)] 24)]⟩ (dropSeq 5 (bodyOf Tryd.f40)) (QB Tryd.prog Tryd.f40 w fun e w' => ∃ v', e = .returned (.tuple #[v', .string (bstr (match K with | none => [] | some _ => b.drop (k + n))), .bool K.isSome]) ∧ RetD w w' v' (datR (match K with | none => noT | some ks => .mk tg [] ks)) ∧ Bw w w') := by
  have hil := (part_len hn).1
  obtain ⟨L, hL⟩ : ∃ L, (b.drop k).take n = L := ⟨_, rfl⟩
  rw [hL] at hil
  have hLL : (b.drop k).take (k + n - k) = L := by rw [Nat.add_sub_cancel_left]; exact hL
  have hL8 : ∀ x ∈ L, x < 256 := fun x hx => h8 x (List.mem_of_mem_drop (List.mem_of_mem_take (hL ▸ hx)))
  rw [hL] at hK0
  have hK := hK0
  clear hK0
  refine vseq ?_
  refine vseq ?_
  apply vrp
  · apply VE.cons
    · exact ev_move rfl (gn rfl)
    simp only [nm, seval]
    apply VE.cons
    · exact ev_move rfl (gn rfl)
    simp only [nm, seval]
    apply VE.cons
    · exact ev_lenb rfl (gn rfl) rfl Tryd.underlying9
    simp only [nm, seval]
    apply VE.cons
    · exact ev_move rfl (gn rfl)
    simp only [nm, seval]
    apply VE.cons
    · exact ev_sub (c := ((b.length : Int) - (k : Int))) rfl (gn rfl) rfl rfl (by rw [i64w (by omega) (by omega)])
    simp only [nm, seval]
    apply VE.cons
    · exact ev_gtr (p := false) rfl (gn rfl) rfl rfl (decide_eq_false (by omega))
    simp only [nm, seval]
    exact VE.nil _
  · kernel_rfl
  change VOk _ _ _ _ _
  refine vcond_f rfl ?_
  refine vskip ?_
  change VOk _ _ _ _ _
  refine vseq ?_
  apply vrp
  · apply VE.cons
    · exact ev_move rfl (gn rfl)
    simp only [nm, seval]
    apply VE.cons
    · exact ev_move rfl (gn rfl)
    simp only [nm, seval]
    apply VE.cons
    · exact ev_move rfl (gn rfl)
    simp only [nm, seval]
    apply VE.cons
    · exact ev_move rfl (gn rfl)
    simp only [nm, seval]
    apply VE.cons
    · exact ev_add (c := ((k + n : Nat) : Int)) rfl (gn rfl) rfl rfl (by rw [i64w (by omega) (by omega)]; omega)
    simp only [nm, seval]
    apply VE.cons
    · exact ev_cutlh (b' := L) (i := k) (j := k + n) rfl (gn rfl) rfl rfl rfl Tryd.underlying9 (by omega) (by omega) hLL
    simp only [nm, seval]
    apply VE.cons
    · exact ev_assign rfl (gn rfl)
    simp only [nm, seval]
    exact VE.nil _
  · kernel_rfl
  change VOk _ _ _ _ _
  refine vseq ?_
  refine vseq ?_
  apply vrp
  · apply VE.cons
    · first | exact ev_field rfl (gn rfl) rfl Tryd.underlying24 rfl Tryd.sizeOf3 | exact ev_fieldx rfl (gn rfl) rfl Tryd.underlying24 rfl Tryd.sizeOf3
    simp only [nm, seval]
    apply VE.cons
    · first | exact ev_load1 rfl (gn rfl) rfl rfl Tryd.underlying3 rfl rfl | exact ev_loadx1 rfl (gn rfl) rfl Tryd.underlying3 rfl (by assumption)
    simp only [nm, seval]
    apply VE.cons
    · exact ev_callb (v := .bool true) rfl (gn rfl) rfl (en_of Tryd.func35 (by kernel_rfl) rfl) (fun w' hb => by have := rmade_ok (tg : Int) w'; rw [hm] at this; exact this)
    simp only [nm, seval]
    apply VE.cons
    · exact ev_not rfl (gn rfl) rfl
    simp only [nm, seval]
    exact VE.nil _
  · kernel_rfl
  change VOk _ _ _ _ _
  refine vcond_f rfl ?_
  refine vskip ?_
  change VOk _ _ _ _ _
  refine vseq ?_
  refine vblock ?_
  refine vloop_w (α := {x : Nat × (Nat × List Nat) × List Tr // x.2.2.length = x.1 ∧ x.1 + x.2.1.1 ≤ n ∧ x.2.1.2.length ≤ x.2.1.1 ∧ x.2.1.2.length ≤ 1048576 ∧ (∀ y ∈ x.2.1.2, y < 256) ∧ kidsU (oneF f') x.2.1.1 x.2.1.2 x.2.2 = K}) (fun (x : {x : Nat × (Nat × List Nat) × List Tr // x.2.2.length = x.1 ∧ x.1 + x.2.1.1 ≤ n ∧ x.2.1.2.length ≤ x.2.1.1 ∧ x.2.1.2.length ≤ 1048576 ∧ (∀ y ∈ x.2.1.2, y < 256) ∧ kidsU (oneF f') x.2.1.1 x.2.1.2 x.2.2 = K}) f => ⟨[.v (.string (bstr b)), .v (.int .i64 (d : Nat)), .v (f 2), .v (f 3), .p 4 0, .v (f 5), .v (f 6), .p 7 0, .v (.int .i64 (n : Nat)), .v (.int .i64 (k : Nat)), .v (f 10), .v (f 11), .v (.string (bstr x.1.2.1.2)), .v (f 13), .v (f 14), .v (f 15), .v (f 16), .v (f 17), .v (f 18), .v (f 19), .v (f 20), .v (f 21), .v (f 22), .v (f 23), .v (f 24), .v (f 25), .v (f 26), .v (f 27), .v (f 28), .v (f 29), .v (f 30), .v (f 31), .v (f 32), .v (f 33), .v (f 34), .v (f 35), .v (f 36), .v (f 37), .v (f 38), .v (f 39), .v (f 40), .v (f 41), .v (f 42), .v (f 43), .v (f 44), .v (f 45), .v (f 46), .v (f 47), .v (f 48), .v (f 49), .v (f 50), .v (f 51), .v (f 52), .v (f 53), .v (f 54), .v (f 55), .v (f 56), .v (f 57), .v (f 58), .v (f 59), .v (f 60), .v (f 61), .v (f 62), .v (f 63), .v (f 64), .v (f 65), .v (f 66), .v (f 67), .v (f 68), .v (f 69), .v (f 70), .v (f 71), .v (f 72), .v (f 73), .v (f 74), .v (f 75), .v (f 76), .v (f 77), .v (f 78), .v (f 79), .v (f 80), .v (f 81), .v (f 82), .v (f 83), .v (f 84), .v (f 85), .v (f 86), .v (f 87), .v (f 88), .v (f 89), .v (f 90), .v (f 91), .v (f 92), .v (f 93), .v (f 94), .v (f 95), .v (f 96), .v (f 97), .v (f 98), .v (f 99), .v (f 100), .v (f 101), .v (f 102), .v (f 103), .v (f 104), .v (f 105), .v (f 106), .v (f 107), .v (f 108), .v (f 109), .v (f 110), .v (f 111), .v (f 112), .v (f 113), .v (f 114), .v (f 115)], memOf [(900, .row x.1.1 3 24 (datRs x.1.2.2)), (7, .cells [.v (.int .i64 (tg : Nat)), .v (.string (ByteArray.mk #[])), .d 900] 24), (4, .cells [.v (.int .i64 0), .v (.string (ByteArray.mk #[])), .v (.slice none 0 0)] 24)]⟩) (fun x => x.1.2.1.1) ?_ (⟨(0, (n, L), []), rfl, by show 0 + n ≤ n; omega, by show L.length ≤ n; omega, by show L.length ≤ 1048576; omega, hL8, hK⟩) ?_
  · rintro ⟨⟨i, ⟨m, l⟩, acc⟩, hacc, hi, hlm, hl6, hl8, hgo⟩ f
    simp only at hacc hi hlm hl6 hl8 hgo
    obtain ⟨q, h_q⟩ : ∃ q, decide (l.length > 0) = q := ⟨_, rfl⟩
    have h_q' := (nat_gt l.length 0).trans h_q
    change VOk _ _ _ _ _
    refine vseq ?_
    refine vseq ?_
    apply vrp
    · apply VE.cons
      · exact ev_move rfl (gn rfl)
      simp only [nm, seval]
      apply VE.cons
      · exact ev_lenb rfl (gn rfl) rfl Tryd.underlying9
      simp only [nm, seval]
      apply VE.cons
      · exact ev_gtr rfl (gn rfl) rfl rfl h_q'
      simp only [nm, seval]
      exact VE.nil _
    · kernel_rfl
    change VOk _ _ _ _ _
    cases q
    · refine vcond_f rfl ?_
      have hK1 : K = some acc := by rw [← hgo, List.eq_nil_of_length_eq_zero (by have := of_decide_eq_false h_q; omega : l.length = 0), kidsU_nil]
      refine vexit ?_
      change VOk _ _ _ _ _
      refine vseq ?_
      apply vrd (by kernel_rfl)
      · apply VE.cons
        · exact ev_loada rfl (gn rfl) rfl rfl Tryd.underlying24 rfl Tryd.sizeOf24 rfl
        simp only [nm, seval]
        apply VE.cons
        · exact ev_move rfl (gn rfl)
        simp only [nm, seval]
        apply VE.cons
        · exact ev_move rfl (gn rfl)
        simp only [nm, seval]
        apply VE.cons
        · exact ev_move rfl (gn rfl)
        simp only [nm, seval]
        apply VE.cons
        · exact ev_add (c := ((k + n : Nat) : Int)) rfl (gn rfl) rfl rfl (by rw [i64w (by omega) (by omega)]; omega)
        simp only [nm, seval]
        apply VE.cons
        · exact ev_cutlo (k := k + n) (b' := b.drop (k + n)) rfl (gn rfl) rfl rfl Tryd.underlying9 (by omega) rfl
        simp only [nm, seval]
        apply VE.cons
        · first | exact ev_store rfl (gn rfl) rfl rfl rfl Tryd.sizeOf24 rfl (by simp) rfl | exact ev_storeR (vl := [.fn (cellV 0) (.d 96), .fn (cellV 1) (.d 96), .fn (cellV 2) (.d 96)]) [13, 96] rfl (gn rfl) rfl rfl rfl Tryd.sizeOf24 rfl (fun ρ S w' _ hR => by obtain ⟨c, h1, h2⟩ := datR_get (id := 96) hR (by simp) rfl; have hf := fn3 h1 (RN_len h2); exact ⟨hf.1, hf.2 ▸ RN_one h2⟩) rfl (by simp) | exact ev_storeR (vl := [.v (.int .i64 (tg : Nat)), .v (.string (ByteArray.mk #[])), .d 900]) [4, 900] rfl (gn rfl) rfl rfl rfl Tryd.sizeOf24 rfl (fun ρ S w' _ hR => ⟨agg_cells _, by have hh := row_cells (id := 900) hR (by simp) rfl; simp only [SV.cs, SV.c, List.all_cons, List.all_nil, hh.2]; rfl⟩) rfl (by simp)
        simp only [nm, seval]
        apply VE.cons
        · exact ev_assign rfl (gn rfl)
        simp only [nm, seval]
        apply VE.cons
        · exact ev_assign rfl (gn rfl)
        simp only [nm, seval]
        exact VE.nil _
      · kernel_rfl
      change VOk _ _ _ _ _
      refine vret ?_
      refine post_ret (res3 Tryd.results40 (rv_cella rfl rfl Tryd.underlying24 rfl Tryd.sizeOf24 rfl) (rv_tmp rfl) (rv_tmp rfl)) ?_
      intro ρ w' hr
      first | (subst hK0; exact ⟨_, rfl, rnode_leaf 0 [], hr.1⟩) | (subst hK1; refine ⟨_, rfl, ?_, hr.1⟩; have := node_kidsR (t := (tg : Int)) (b := []) (ks := acc) (n := i) 900 hr hacc rfl; rw [show bstr [] = ByteArray.mk #[] from rfl] at this; simpa [SV.c, SV.cs] using this)
    · refine vcond_t rfl ?_
      obtain ⟨m, rfl⟩ : ∃ j, m = j + 1 := ⟨m - 1, by have := of_decide_eq_true h_q; omega⟩
      have hfit := one_fits f' l hl8 hl6
      obtain ⟨q2, h_q2⟩ : ∃ q, (oneF f' l).2.2 = q := ⟨_, rfl⟩
      cases q2 <;>
      (
        refine vskip ?_
        change VOk _ _ _ _ _
        refine vblock ?_
        refine vseq ?_
        apply vrp
        · apply VE.cons
          · exact ev_move rfl (gn rfl)
          simp only [nm, seval]
          apply VE.cons
          · exact ev_move rfl (gn rfl)
          simp only [nm, seval]
          apply VE.cons
          · exact ev_add (c := ((d + 1 : Nat) : Int)) rfl (gn rfl) rfl rfl (by rw [i64w (by omega) (by omega)]; omega)
          simp only [nm, seval]
          apply VE.cons
          · first | exact ev_calldt (D := datR (oneF f' l).1) (ys := [.string (bstr (oneF f' l).2.1), .bool true]) [] rfl rfl (gn rfl) rfl (en_of Tryd.func40 (by kernel_rfl) rfl) (fun ρ S w' hb _ => by have := hih _ (d + 1) w' (by omega) hl8 hl6; rw [h_q2] at this; exact this) | exact ev_calldt (D := datR (oneF f' l).1) (ys := [.string (bstr (oneF f' l).2.1), .bool false]) [] rfl rfl (gn rfl) rfl (en_of Tryd.func40 (by kernel_rfl) rfl) (fun ρ S w' hb _ => by have := hih _ (d + 1) w' (by omega) hl8 hl6; rw [h_q2] at this; exact this)
          simp only [nm, seval]
          apply VE.cons
          · exact ev_move rfl (gn rfl)
          simp only [nm, seval]
          apply VE.cons
          · first | exact ev_extract rfl (gn rfl) rfl rfl | exact ev_extractt rfl (gn rfl) rfl rfl
          simp only [nm, seval]
          apply VE.cons
          · first | exact ev_extract rfl (gn rfl) rfl rfl | exact ev_extractt rfl (gn rfl) rfl rfl
          simp only [nm, seval]
          apply VE.cons
          · first | exact ev_extract rfl (gn rfl) rfl rfl | exact ev_extractt rfl (gn rfl) rfl rfl
          simp only [nm, seval]
          apply VE.cons
          · exact ev_alloc rfl rfl (gn rfl) Tryd.zeroValue24
          simp only [nm, seval]
          apply VE.cons
          · first | exact ev_store rfl (gn rfl) rfl rfl rfl Tryd.sizeOf24 rfl (by simp) rfl | exact ev_storeR (vl := [.fn (cellV 0) (.d 96), .fn (cellV 1) (.d 96), .fn (cellV 2) (.d 96)]) [13, 96] rfl (gn rfl) rfl rfl rfl Tryd.sizeOf24 rfl (fun ρ S w' _ hR => by obtain ⟨c, h1, h2⟩ := datR_get (id := 96) hR (by simp) rfl; have hf := fn3 h1 (RN_len h2); exact ⟨hf.1, hf.2 ▸ RN_one h2⟩) rfl (by simp) | exact ev_storeR (vl := [.v (.int .i64 (tg : Nat)), .v (.string (ByteArray.mk #[])), .d 900]) [4, 900] rfl (gn rfl) rfl rfl rfl Tryd.sizeOf24 rfl (fun ρ S w' _ hR => ⟨agg_cells _, by have hh := row_cells (id := 900) hR (by simp) rfl; simp only [SV.cs, SV.c, List.all_cons, List.all_nil, hh.2]; rfl⟩) rfl (by simp)
          simp only [nm, seval]
          apply VE.cons
          · exact ev_assign rfl (gn rfl)
          simp only [nm, seval]
          apply VE.cons
          · exact ev_assign rfl (gn rfl)
          simp only [nm, seval]
          exact VE.nil _
        · kernel_rfl
        change VOk _ _ _ _ _
        refine vseq ?_
        refine vseq ?_
        apply vrp
        · apply VE.cons
          · exact ev_move rfl (gn rfl)
          simp only [nm, seval]
          apply VE.cons
          · exact ev_not rfl (gn rfl) rfl
          simp only [nm, seval]
          exact VE.nil _
        · kernel_rfl
        change VOk _ _ _ _ _
        first
        | (
            refine vcond_t rfl ?_
            have hK0 : K = none := by rw [← hgo, kidsU_step (of_decide_eq_true h_q), h_q2]; rfl
            refine vseq ?_
            apply vrp
            · apply VE.cons
              · exact ev_build (cells := #[.int .i64 0, .string (ByteArray.mk #[]), .slice none 0 0]) rfl (gn rfl) rfl built24_0
              simp only [nm, seval]
              apply VE.cons
              · first | exact ev_store rfl (gn rfl) rfl rfl rfl Tryd.sizeOf24 rfl (by simp) rfl | exact ev_storeR (vl := [.fn (cellV 0) (.d 96), .fn (cellV 1) (.d 96), .fn (cellV 2) (.d 96)]) [13, 96] rfl (gn rfl) rfl rfl rfl Tryd.sizeOf24 rfl (fun ρ S w' _ hR => by obtain ⟨c, h1, h2⟩ := datR_get (id := 96) hR (by simp) rfl; have hf := fn3 h1 (RN_len h2); exact ⟨hf.1, hf.2 ▸ RN_one h2⟩) rfl (by simp) | exact ev_storeR (vl := [.v (.int .i64 (tg : Nat)), .v (.string (ByteArray.mk #[])), .d 900]) [4, 900] rfl (gn rfl) rfl rfl rfl Tryd.sizeOf24 rfl (fun ρ S w' _ hR => ⟨agg_cells _, by have hh := row_cells (id := 900) hR (by simp) rfl; simp only [SV.cs, SV.c, List.all_cons, List.all_nil, hh.2]; rfl⟩) rfl (by simp)
              simp only [nm, seval]
              apply VE.cons
              · exact ev_assign rfl (gn rfl)
              simp only [nm, seval]
              apply VE.cons
              · exact ev_assign rfl (gn rfl)
              simp only [nm, seval]
              exact VE.nil _
            · kernel_rfl
            change VOk _ _ _ _ _
            refine vret ?_
            refine post_ret (res3 Tryd.results40 (rv_cella rfl rfl Tryd.underlying24 rfl Tryd.sizeOf24 rfl) (rv_tmp rfl) (rv_tmp rfl)) ?_
            intro ρ w' hr
            first | (subst hK0; exact ⟨_, rfl, rnode_leaf 0 [], hr.1⟩) | (subst hK1; refine ⟨_, rfl, ?_, hr.1⟩; have := node_kidsR (t := (tg : Int)) (b := []) (ks := acc) (n := i) 900 hr hacc rfl; rw [show bstr [] = ByteArray.mk #[] from rfl] at this; simpa [SV.c, SV.cs] using this)
          )
        | (
            refine vcond_f rfl ?_
            refine vskip ?_
            change VOk _ _ _ _ _
            refine vseq ?_
            apply vrp
            · apply VE.cons
              · first | exact ev_field rfl (gn rfl) rfl Tryd.underlying24 rfl Tryd.sizeOf22 | exact ev_fieldx rfl (gn rfl) rfl Tryd.underlying24 rfl Tryd.sizeOf22
              simp only [nm, seval]
              apply VE.cons
              · first | exact ev_load1 rfl (gn rfl) rfl rfl Tryd.underlying22 rfl rfl | exact ev_loadx1 rfl (gn rfl) rfl Tryd.underlying22 rfl (by assumption)
              simp only [nm, seval]
              apply VE.cons
              · exact ev_loada rfl (gn rfl) rfl rfl Tryd.underlying24 rfl Tryd.sizeOf24 rfl
              simp only [nm, seval]
              apply VE.cons
              · exact ev_buildsl1 (n := 3) (l := [.fn (cellV 0) (.d 96), .fn (cellV 1) (.d 96), .fn (cellV 2) (.d 96)]) [96] rfl rfl (gn rfl) rfl (fun ρ S w' hR => agg_cells _) rfl rfl bs24
              simp only [nm, seval]
              apply VE.cons
              · exact ev_appendD (id := 900) (ys := 106) (n := i) (k := 1) (k' := 1) (size := 3) (datRs (acc ++ [(oneF f' l).1])) [900, 106, 96] rfl rfl (gn rfl) rfl rfl rfl rfl rfl (Nat.le_refl _) Tryd.underlying22 el24 (by decide) (by simp only [maxLen]; omega) (by omega) (by simp) (by simp) (fun ρ S w' hR => by obtain ⟨c, h1, h2⟩ := datR_get (id := 96) hR (by simp) rfl; exact (fn3 h1 (RN_len h2)).2 ▸ RN_one h2) (fun ρ S w' xs hb hR hxs => by obtain ⟨c, h1, h2⟩ := datR_get (id := 96) hR (by simp) rfl; rw [(fn3 h1 (RN_len h2)).2]; exact RNs_snoc (RN_sub (fun k hk => ⟨96, by simp, rfl, hk⟩) h2) (RNs_sub (fun k hk => ⟨900, by simp, rfl, hk⟩) hxs))
              simp only [nm, seval]
              apply VE.cons
              · first | exact ev_field rfl (gn rfl) rfl Tryd.underlying24 rfl Tryd.sizeOf22 | exact ev_fieldx rfl (gn rfl) rfl Tryd.underlying24 rfl Tryd.sizeOf22
              simp only [nm, seval]
              apply VE.cons
              · exact ev_storeR (vl := [.d 107]) [7, 107] rfl (gn rfl) rfl rfl rfl Tryd.sizeOf22 rfl (fun ρ S w' _ hR => by have hh := row_cells (id := 107) hR (by simp) rfl; exact ⟨hh.1, by simp [SV.cs, SV.c, hh.2]⟩) rfl (by simp)
              simp only [nm, seval]
              exact VE.nil _
            · kernel_rfl
            change VOk _ _ _ _ _
            apply vrp
            · apply VE.cons
              · exact ev_move rfl (gn rfl)
              simp only [nm, seval]
              apply VE.cons
              · exact ev_assign rfl (gn rfl)
              simp only [nm, seval]
              exact VE.nil _
            · kernel_rfl
            refine ⟨⟨(i + 1, (m, (oneF f' l).2.1), acc ++ [(oneF f' l).1]), by simp [hacc], by show i + 1 + m ≤ n; omega, by show (oneF f' l).2.1.length ≤ m; have := (hfit.2.2.1 h_q2).2; omega, by show (oneF f' l).2.1.length ≤ 1048576; have := (hfit.2.2.1 h_q2).2; omega, fun y hy => hl8 y (hfit.2.2.2 y hy), ?_⟩, by show m < m + 1; omega, ?_⟩
            · show kidsU (oneF f') m (oneF f' l).2.1 (acc ++ [(oneF f' l).1]) = K
              rw [kidsU_step (of_decide_eq_true h_q), h_q2] at hgo
              exact hgo
            exact (weaker_forget (fun i => i == 0 || i == 1 || i == 4 || i == 7 || i == 8 || i == 9 || i == 12) [106, 13, 96]).trans2 (fun f => weaker_ren 107 900 (by decide) rfl)
          )
      )
  · refine (weaker_forget (fun i => i == 0 || i == 1 || i == 4 || i == 7 || i == 8 || i == 9 || i == 12) []).trans2 (fun f => ?_)
    refine (weaker_name 900 3 24 (datRs []) (fun w => by trivial) (m' := [(7, .cells [.v (.int .i64 (tg : Nat)), .v (.string (ByteArray.mk #[])), .d 900] 24), (4, .cells [.v (.int .i64 0), .v (.string (ByteArray.mk #[])), .v (.slice none 0 0)] 24)]) rfl rfl (fun ρ _ => rfl) (fun ρ hv => ?_))
    simp [memSim, memDel, Blk.sim, SV.cs, SV.c, hv, nilV]
theorem one_short {b : List Nat} {d : Nat} (w : World) (h8 : ∀ x ∈ b, x < 256) (hbl : b.length ≤ 1048576) (hd9 : d ≤ 9) (hl : b.length < 2) : Calls Tryd.prog 40 #[.string (bstr b), .int .i64 (d : Nat)] w fun e w' => ∃ v', e = .returned (.tuple #[v', .string (bstr ([])), .bool false]) ∧ RetD w w' v' (datR (noT)) ∧ Bw w w' := by
  go_enter Tryd.func40, Tryd.ntmps40
  refine ve_go ?_
  simp only [List.map_cons, List.map_nil]
  refine vseq ?_
  apply vrp
  · apply VE.cons
    · exact ev_alloc rfl rfl (gn rfl) Tryd.zeroValue24
    simp only [nm, seval]
    apply VE.cons
    · exact ev_assign rfl (gn rfl)
    simp only [nm, seval]
    apply VE.cons
    · exact ev_assign rfl (gn rfl)
    simp only [nm, seval]
    exact VE.nil _
  · kernel_rfl
  change VOk _ _ _ _ _
  refine vseq ?_
  refine vseq ?_
  apply vrp
  · apply VE.cons
    · exact ev_move rfl (gn rfl)
    simp only [nm, seval]
    apply VE.cons
    · exact ev_lenb rfl (gn rfl) rfl Tryd.underlying9
    simp only [nm, seval]
    apply VE.cons
    · exact ev_lss (p := true) rfl (gn rfl) rfl rfl (decide_eq_true (by omega))
    simp only [nm, seval]
    apply VE.cons
    · exact ev_move rfl (gn rfl)
    simp only [nm, seval]
    apply VE.cons
    · first | exact Ev.skip (fun _ => rfl) | exact ev_move rfl (fun _ => rfl)
    simp only [nm, seval]
    apply VE.cons
    · first | exact Ev.skip (fun _ => rfl) | refine ev_pure' (fun _ => rfl) (fun ρ w => by simp only [VS.act, SV.c, List.map_cons, List.map_nil]; go_simp; exact rfl) (fun _ _ => rfl)
    simp only [nm, seval]
    apply VE.cons
    · first | exact ev_pick_t rfl (gn rfl) rfl rfl | exact ev_pick_f rfl (gn rfl) rfl rfl
    simp only [nm, seval]
    exact VE.nil _
  · kernel_rfl
  change VOk _ _ _ _ _
  refine vcond_t rfl ?_
  refine vseq ?_
  apply vrp
  · apply VE.cons
    · exact ev_build (cells := #[.int .i64 0, .string (ByteArray.mk #[]), .slice none 0 0]) rfl (gn rfl) rfl built24_0
    simp only [nm, seval]
    apply VE.cons
    · exact ev_store rfl (gn rfl) rfl rfl rfl Tryd.sizeOf24 rfl (by simp) rfl
    simp only [nm, seval]
    apply VE.cons
    · exact ev_assign rfl (gn rfl)
    simp only [nm, seval]
    apply VE.cons
    · exact ev_assign rfl (gn rfl)
    simp only [nm, seval]
    exact VE.nil _
  · kernel_rfl
  change VOk _ _ _ _ _
  refine vret ?_
  refine post_ret (res3 Tryd.results40 (rv_cella rfl rfl Tryd.underlying24 rfl Tryd.sizeOf24 rfl) (rv_tmp rfl) (rv_tmp rfl)) ?_
  intro ρ w' hr
  refine ⟨_, rfl, ?_, hr.1⟩
  exact rnode_leaf 0 []
theorem one_deep {b : List Nat} {d : Nat} (w : World) (h8 : ∀ x ∈ b, x < 256) (hbl : b.length ≤ 1048576) (hd9 : d ≤ 9) (hl : 2 ≤ b.length) (hd : 8 < d) : Calls Tryd.prog 40 #[.string (bstr b), .int .i64 (d : Nat)] w fun e w' => ∃ v', e = .returned (.tuple #[v', .string (bstr ([])), .bool false]) ∧ RetD w w' v' (datR (noT)) ∧ Bw w w' := by
  go_enter Tryd.func40, Tryd.ntmps40
  refine ve_go ?_
  simp only [List.map_cons, List.map_nil]
  refine vseq ?_
  apply vrp
  · apply VE.cons
    · exact ev_alloc rfl rfl (gn rfl) Tryd.zeroValue24
    simp only [nm, seval]
    apply VE.cons
    · exact ev_assign rfl (gn rfl)
    simp only [nm, seval]
    apply VE.cons
    · exact ev_assign rfl (gn rfl)
    simp only [nm, seval]
    exact VE.nil _
  · kernel_rfl
  change VOk _ _ _ _ _
  refine vseq ?_
  refine vseq ?_
  apply vrp
  · apply VE.cons
    · exact ev_move rfl (gn rfl)
    simp only [nm, seval]
    apply VE.cons
    · exact ev_lenb rfl (gn rfl) rfl Tryd.underlying9
    simp only [nm, seval]
    apply VE.cons
    · exact ev_lss (p := false) rfl (gn rfl) rfl rfl (decide_eq_false (by omega))
    simp only [nm, seval]
    apply VE.cons
    · exact ev_move rfl (gn rfl)
    simp only [nm, seval]
    apply VE.cons
    · first | exact Ev.skip (fun _ => rfl) | exact ev_move rfl (fun _ => rfl)
    simp only [nm, seval]
    apply VE.cons
    · first | exact Ev.skip (fun _ => rfl) | exact ev_gtr (p := true) rfl (fun _ => rfl) rfl rfl (decide_eq_true (by omega))
    simp only [nm, seval]
    apply VE.cons
    · first | exact ev_pick_t rfl (gn rfl) rfl rfl | exact ev_pick_f rfl (gn rfl) rfl rfl
    simp only [nm, seval]
    exact VE.nil _
  · kernel_rfl
  change VOk _ _ _ _ _
  refine vcond_t rfl ?_
  refine vseq ?_
  apply vrp
  · apply VE.cons
    · exact ev_build (cells := #[.int .i64 0, .string (ByteArray.mk #[]), .slice none 0 0]) rfl (gn rfl) rfl built24_0
    simp only [nm, seval]
    apply VE.cons
    · exact ev_store rfl (gn rfl) rfl rfl rfl Tryd.sizeOf24 rfl (by simp) rfl
    simp only [nm, seval]
    apply VE.cons
    · exact ev_assign rfl (gn rfl)
    simp only [nm, seval]
    apply VE.cons
    · exact ev_assign rfl (gn rfl)
    simp only [nm, seval]
    exact VE.nil _
  · kernel_rfl
  change VOk _ _ _ _ _
  refine vret ?_
  refine post_ret (res3 Tryd.results40 (rv_cella rfl rfl Tryd.underlying24 rfl Tryd.sizeOf24 rfl) (rv_tmp rfl) (rv_tmp rfl)) ?_
  intro ρ w' hr
  refine ⟨_, rfl, ?_, hr.1⟩
  exact rnode_leaf 0 []
theorem one_ha {t c : Nat} {r : List Nat} {d : Nat} {R : Ending → World → Prop} (w : World) (ht : t < 256) (hc : c < 256) (hbl : r.length ≤ 1048576) (hd : d ≤ 8) (h : c < 128) (htail : ∀ f : Nat → Value, VOk Tryd.prog w ⟨[.v (.string (bstr (t :: c :: r))), .v (.int .i64 (d : Nat)), .v (f 2), .v (f 3), .p 4 0, .v (f 5), .v (f 6), .p 7 0, .v (.int .i64 (c : Nat)), .v (.int .i64 (2 : Nat)), .v (f 10), .v (f 11), .v (f 12), .v (f 13), .v (f 14), .v (f 15), .v (f 16), .v (f 17), .v (f 18), .v (f 19), .v (f 20), .v (f 21), .v (f 22), .v (f 23), .v (f 24), .v (f 25), .v (f 26), .v (f 27), .v (f 28), .v (f 29), .v (f 30), .v (f 31), .v (f 32), .v (f 33), .v (f 34), .v (f 35), .v (f 36), .v (f 37), .v (f 38), .v (f 39), .v (f 40), .v (f 41), .v (f 42), .v (f 43), .v (f 44), .v (f 45), .v (f 46), .v (f 47), .v (f 48), .v (f 49), .v (f 50), .v (f 51), .v (f 52), .v (f 53), .v (f 54), .v (f 55), .v (f 56), .v (f 57), .v (f 58), .v (f 59), .v (f 60), .v (f 61), .v (f 62), .v (f 63), .v (f 64), .v (f 65), .v (f 66), .v (f 67), .v (f 68), .v (f 69), .v (f 70), .v (f 71), .v (f 72), .v (f 73), .v (f 74), .v (f 75), .v (f 76), .v (f 77), .v (f 78), .v (f 79), .v (f 80), .v (f 81), .v (f 82), .v (f 83), .v (f 84), .v (f 85), .v (f 86), .v (f 87), .v (f 88), .v (f 89), .v (f 90), .v (f 91), .v (f 92), .v (f 93), .v (f 94), .v (f 95), .v (f 96), .v (f 97), .v (f 98), .v (f 99), .v (f 100), .v (f 101), .v (f 102), .v (f 103), .v (f 104), .v (f 105), .v (f 106), .v (f 107), .v (f 108), .v (f 109), .v (f 110), .v (f 111), .v (f 112), .v (f 113), .v (f 114), .v (f 115)], memOf [(7, .cells [.v (.int .i64 (t : Nat)), .v (.string (ByteArray.mk #[])), .v (.slice none 0 0)] 24), (4, .cells [.v (.int .i64 0), .v (.string (ByteArray.mk #[])), .v (.slice none 0 0)] 24)]⟩ (dropSeq 5 (bodyOf Tryd.f40)) (QB Tryd.prog Tryd.f40 w R)) : Calls Tryd.prog 40 #[.string (bstr (t :: c :: r)), .int .i64 (d : Nat)] w R := by
  go_enter Tryd.func40, Tryd.ntmps40
  refine ve_go ?_
  simp only [List.map_cons, List.map_nil]
  refine vseq ?_
  apply vrp
  · apply VE.cons
    · exact ev_alloc rfl rfl (gn rfl) Tryd.zeroValue24
    simp only [nm, seval]
    apply VE.cons
    · exact ev_assign rfl (gn rfl)
    simp only [nm, seval]
    apply VE.cons
    · exact ev_assign rfl (gn rfl)
    simp only [nm, seval]
    exact VE.nil _
  · kernel_rfl
  change VOk _ _ _ _ _
  refine vseq ?_
  refine vseq ?_
  apply vrp
  · apply VE.cons
    · exact ev_move rfl (gn rfl)
    simp only [nm, seval]
    apply VE.cons
    · exact ev_lenb rfl (gn rfl) rfl Tryd.underlying9
    simp only [nm, seval]
    apply VE.cons
    · exact ev_lss (p := false) rfl (gn rfl) rfl rfl (decide_eq_false (by simp only [List.length_cons]; omega))
    simp only [nm, seval]
    apply VE.cons
    · exact ev_move rfl (gn rfl)
    simp only [nm, seval]
    apply VE.cons
    · first | exact Ev.skip (fun _ => rfl) | exact ev_move rfl (fun _ => rfl)
    simp only [nm, seval]
    apply VE.cons
    · first | exact Ev.skip (fun _ => rfl) | exact ev_gtr (p := false) rfl (fun _ => rfl) rfl rfl (decide_eq_false (by omega))
    simp only [nm, seval]
    apply VE.cons
    · first | exact ev_pick_t rfl (gn rfl) rfl rfl | exact ev_pick_f rfl (gn rfl) rfl rfl
    simp only [nm, seval]
    exact VE.nil _
  · kernel_rfl
  change VOk _ _ _ _ _
  refine vcond_f rfl ?_
  refine vskip ?_
  change VOk _ _ _ _ _
  refine vseq ?_
  apply vrp
  · apply VE.cons
    · exact ev_move rfl (gn rfl)
    simp only [nm, seval]
    apply VE.cons
    · exact ev_idxb (k := 0) rfl (gn rfl) rfl rfl Tryd.underlying9 (rfl) (ht)
    simp only [nm, seval]
    apply VE.cons
    · exact ev_conv rfl (gn rfl) rfl (fun w => cv53 ht w)
    simp only [nm, seval]
    apply VE.cons
    · exact ev_build (cells := #[.int .i64 (t : Nat), .string (ByteArray.mk #[]), .slice none 0 0]) rfl (gn rfl) rfl (built24_t _)
    simp only [nm, seval]
    apply VE.cons
    · exact ev_alloc rfl rfl (gn rfl) Tryd.zeroValue24
    simp only [nm, seval]
    apply VE.cons
    · exact ev_store rfl (gn rfl) rfl rfl rfl Tryd.sizeOf24 rfl (by simp) rfl
    simp only [nm, seval]
    exact VE.nil _
  · kernel_rfl
  change VOk _ _ _ _ _
  refine vseq ?_
  apply vrp
  · apply VE.cons
    · exact ev_move rfl (gn rfl)
    simp only [nm, seval]
    apply VE.cons
    · exact ev_idxb (k := 1) rfl (gn rfl) rfl rfl Tryd.underlying9 (rfl) (hc)
    simp only [nm, seval]
    apply VE.cons
    · exact ev_conv rfl (gn rfl) rfl (fun w => cv53 hc w)
    simp only [nm, seval]
    apply VE.cons
    · exact ev_assign rfl (gn rfl)
    simp only [nm, seval]
    apply VE.cons
    · exact ev_assign rfl (gn rfl)
    simp only [nm, seval]
    exact VE.nil _
  · kernel_rfl
  change VOk _ _ _ _ _
  refine vseq ?_
  refine vseq ?_
  apply vrp
  · apply VE.cons
    · exact ev_move rfl (gn rfl)
    simp only [nm, seval]
    apply VE.cons
    · exact ev_geq (p := false) rfl (gn rfl) rfl rfl (decide_eq_false (by omega))
    simp only [nm, seval]
    exact VE.nil _
  · kernel_rfl
  change VOk _ _ _ _ _
  refine vcond_f rfl ?_
  refine vskip ?_
  change VOk _ _ _ _ _
  exact vforget (fun i => i == 0 || i == 1 || i == 4 || i == 7 || i == 8 || i == 9) [] htail
theorem one_hn0 {t c : Nat} {r : List Nat} {d : Nat} (w : World) (ht : t < 256) (hc : c < 256) (hbl : r.length ≤ 1048576) (hd : d ≤ 8) (h : c = 128) : Calls Tryd.prog 40 #[.string (bstr (t :: c :: r)), .int .i64 (d : Nat)] w fun e w' => ∃ v', e = .returned (.tuple #[v', .string (bstr []), .bool false]) ∧ RetD w w' v' (datR (noT)) ∧ Bw w w' := by
  go_enter Tryd.func40, Tryd.ntmps40
  refine ve_go ?_
  simp only [List.map_cons, List.map_nil]
  refine vseq ?_
  apply vrp
  · apply VE.cons
    · exact ev_alloc rfl rfl (gn rfl) Tryd.zeroValue24
    simp only [nm, seval]
    apply VE.cons
    · exact ev_assign rfl (gn rfl)
    simp only [nm, seval]
    apply VE.cons
    · exact ev_assign rfl (gn rfl)
    simp only [nm, seval]
    exact VE.nil _
  · kernel_rfl
  change VOk _ _ _ _ _
  refine vseq ?_
  refine vseq ?_
  apply vrp
  · apply VE.cons
    · exact ev_move rfl (gn rfl)
    simp only [nm, seval]
    apply VE.cons
    · exact ev_lenb rfl (gn rfl) rfl Tryd.underlying9
    simp only [nm, seval]
    apply VE.cons
    · exact ev_lss (p := false) rfl (gn rfl) rfl rfl (decide_eq_false (by simp only [List.length_cons]; omega))
    simp only [nm, seval]
    apply VE.cons
    · exact ev_move rfl (gn rfl)
    simp only [nm, seval]
    apply VE.cons
    · first | exact Ev.skip (fun _ => rfl) | exact ev_move rfl (fun _ => rfl)
    simp only [nm, seval]
    apply VE.cons
    · first | exact Ev.skip (fun _ => rfl) | exact ev_gtr (p := false) rfl (fun _ => rfl) rfl rfl (decide_eq_false (by omega))
    simp only [nm, seval]
    apply VE.cons
    · first | exact ev_pick_t rfl (gn rfl) rfl rfl | exact ev_pick_f rfl (gn rfl) rfl rfl
    simp only [nm, seval]
    exact VE.nil _
  · kernel_rfl
  change VOk _ _ _ _ _
  refine vcond_f rfl ?_
  refine vskip ?_
  change VOk _ _ _ _ _
  refine vseq ?_
  apply vrp
  · apply VE.cons
    · exact ev_move rfl (gn rfl)
    simp only [nm, seval]
    apply VE.cons
    · exact ev_idxb (k := 0) rfl (gn rfl) rfl rfl Tryd.underlying9 (rfl) (ht)
    simp only [nm, seval]
    apply VE.cons
    · exact ev_conv rfl (gn rfl) rfl (fun w => cv53 ht w)
    simp only [nm, seval]
    apply VE.cons
    · exact ev_build (cells := #[.int .i64 (t : Nat), .string (ByteArray.mk #[]), .slice none 0 0]) rfl (gn rfl) rfl (built24_t _)
    simp only [nm, seval]
    apply VE.cons
    · exact ev_alloc rfl rfl (gn rfl) Tryd.zeroValue24
    simp only [nm, seval]
    apply VE.cons
    · exact ev_store rfl (gn rfl) rfl rfl rfl Tryd.sizeOf24 rfl (by simp) rfl
    simp only [nm, seval]
    exact VE.nil _
  · kernel_rfl
  change VOk _ _ _ _ _
  refine vseq ?_
  apply vrp
  · apply VE.cons
    · exact ev_move rfl (gn rfl)
    simp only [nm, seval]
    apply VE.cons
    · exact ev_idxb (k := 1) rfl (gn rfl) rfl rfl Tryd.underlying9 (rfl) (hc)
    simp only [nm, seval]
    apply VE.cons
    · exact ev_conv rfl (gn rfl) rfl (fun w => cv53 hc w)
    simp only [nm, seval]
    apply VE.cons
    · exact ev_assign rfl (gn rfl)
    simp only [nm, seval]
    apply VE.cons
    · exact ev_assign rfl (gn rfl)
    simp only [nm, seval]
    exact VE.nil _
  · kernel_rfl
  change VOk _ _ _ _ _
  refine vseq ?_
  refine vseq ?_
  apply vrp
  · apply VE.cons
    · exact ev_move rfl (gn rfl)
    simp only [nm, seval]
    apply VE.cons
    · exact ev_geq (p := true) rfl (gn rfl) rfl rfl (decide_eq_true (by omega))
    simp only [nm, seval]
    exact VE.nil _
  · kernel_rfl
  change VOk _ _ _ _ _
  refine vcond_t rfl ?_
  refine vseq ?_
  apply vrp
  · apply VE.cons
    · exact ev_move rfl (gn rfl)
    simp only [nm, seval]
    apply VE.cons
    · exact ev_sub (c := ((c : Int) - 128)) rfl (gn rfl) rfl rfl (by rw [i64w (by omega) (by omega)])
    simp only [nm, seval]
    apply VE.cons
    · exact ev_assign rfl (gn rfl)
    simp only [nm, seval]
    exact VE.nil _
  · kernel_rfl
  change VOk _ _ _ _ _
  refine vseq ?_
  refine vseq ?_
  apply vrp
  · apply VE.cons
    · exact ev_move rfl (gn rfl)
    simp only [nm, seval]
    apply VE.cons
    · exact ev_lss (p := true) rfl (gn rfl) rfl rfl (decide_eq_true (by omega))
    simp only [nm, seval]
    apply VE.cons
    · exact ev_move rfl (gn rfl)
    simp only [nm, seval]
    apply VE.cons
    · first | exact Ev.skip (fun _ => rfl) | exact ev_move rfl (fun _ => rfl)
    simp only [nm, seval]
    apply VE.cons
    · first | exact Ev.skip (fun _ => rfl) | refine ev_pure' (fun _ => rfl) (fun ρ w => by simp only [VS.act, SV.c, List.map_cons, List.map_nil]; go_simp; exact rfl) (fun _ _ => rfl)
    simp only [nm, seval]
    apply VE.cons
    · first | exact ev_pick_t rfl (gn rfl) rfl rfl | exact ev_pick_f rfl (gn rfl) rfl rfl
    simp only [nm, seval]
    apply VE.cons
    · exact ev_move rfl (gn rfl)
    simp only [nm, seval]
    apply VE.cons
    · first | exact Ev.skip (fun _ => rfl) | exact ev_move rfl (fun _ => rfl)
    simp only [nm, seval]
    apply VE.cons
    · first | exact Ev.skip (fun _ => rfl) | refine ev_pure' (fun _ => rfl) (fun ρ w => by simp only [VS.act, SV.c, List.map_cons, List.map_nil]; go_simp; exact rfl) (fun _ _ => rfl)
    simp only [nm, seval]
    apply VE.cons
    · first | exact Ev.skip (fun _ => rfl) | exact ev_move rfl (fun _ => rfl)
    simp only [nm, seval]
    apply VE.cons
    · first | exact Ev.skip (fun _ => rfl) | refine ev_pure' (fun _ => rfl) (fun ρ w => by simp only [VS.act, SV.c, List.map_cons, List.map_nil]; go_simp; exact rfl) (fun _ _ => rfl)
    simp only [nm, seval]
    apply VE.cons
    · first | exact Ev.skip (fun _ => rfl) | refine ev_pure' (fun _ => rfl) (fun ρ w => by simp only [VS.act, SV.c, List.map_cons, List.map_nil]; go_simp; exact rfl) (fun _ _ => rfl)
    simp only [nm, seval]
    apply VE.cons
    · first | exact ev_pick_t rfl (gn rfl) rfl rfl | exact ev_pick_f rfl (gn rfl) rfl rfl
    simp only [nm, seval]
    exact VE.nil _
  · kernel_rfl
  change VOk _ _ _ _ _
  refine vcond_t rfl ?_
  refine vseq ?_
  apply vrp
  · apply VE.cons
    · exact ev_build (cells := #[.int .i64 0, .string (ByteArray.mk #[]), .slice none 0 0]) rfl (gn rfl) rfl built24_0
    simp only [nm, seval]
    apply VE.cons
    · exact ev_store rfl (gn rfl) rfl rfl rfl Tryd.sizeOf24 rfl (by simp) rfl
    simp only [nm, seval]
    apply VE.cons
    · exact ev_assign rfl (gn rfl)
    simp only [nm, seval]
    apply VE.cons
    · exact ev_assign rfl (gn rfl)
    simp only [nm, seval]
    exact VE.nil _
  · kernel_rfl
  change VOk _ _ _ _ _
  refine vret ?_
  refine post_ret (res3 Tryd.results40 (rv_cella rfl rfl Tryd.underlying24 rfl Tryd.sizeOf24 rfl) (rv_tmp rfl) (rv_tmp rfl)) ?_
  intro ρ w' hr
  refine ⟨_, rfl, ?_, hr.1⟩
  exact rnode_leaf 0 []
theorem one_hn1 {t c : Nat} {r : List Nat} {d : Nat} (w : World) (ht : t < 256) (hc : c < 256) (hbl : r.length ≤ 1048576) (hd : d ≤ 8) (h : 130 < c) : Calls Tryd.prog 40 #[.string (bstr (t :: c :: r)), .int .i64 (d : Nat)] w fun e w' => ∃ v', e = .returned (.tuple #[v', .string (bstr []), .bool false]) ∧ RetD w w' v' (datR (noT)) ∧ Bw w w' := by
  go_enter Tryd.func40, Tryd.ntmps40
  refine ve_go ?_
  simp only [List.map_cons, List.map_nil]
  refine vseq ?_
  apply vrp
  · apply VE.cons
    · exact ev_alloc rfl rfl (gn rfl) Tryd.zeroValue24
    simp only [nm, seval]
    apply VE.cons
    · exact ev_assign rfl (gn rfl)
    simp only [nm, seval]
    apply VE.cons
    · exact ev_assign rfl (gn rfl)
    simp only [nm, seval]
    exact VE.nil _
  · kernel_rfl
  change VOk _ _ _ _ _
  refine vseq ?_
  refine vseq ?_
  apply vrp
  · apply VE.cons
    · exact ev_move rfl (gn rfl)
    simp only [nm, seval]
    apply VE.cons
    · exact ev_lenb rfl (gn rfl) rfl Tryd.underlying9
    simp only [nm, seval]
    apply VE.cons
    · exact ev_lss (p := false) rfl (gn rfl) rfl rfl (decide_eq_false (by simp only [List.length_cons]; omega))
    simp only [nm, seval]
    apply VE.cons
    · exact ev_move rfl (gn rfl)
    simp only [nm, seval]
    apply VE.cons
    · first | exact Ev.skip (fun _ => rfl) | exact ev_move rfl (fun _ => rfl)
    simp only [nm, seval]
    apply VE.cons
    · first | exact Ev.skip (fun _ => rfl) | exact ev_gtr (p := false) rfl (fun _ => rfl) rfl rfl (decide_eq_false (by omega))
    simp only [nm, seval]
    apply VE.cons
    · first | exact ev_pick_t rfl (gn rfl) rfl rfl | exact ev_pick_f rfl (gn rfl) rfl rfl
    simp only [nm, seval]
    exact VE.nil _
  · kernel_rfl
  change VOk _ _ _ _ _
  refine vcond_f rfl ?_
  refine vskip ?_
  change VOk _ _ _ _ _
  refine vseq ?_
  apply vrp
  · apply VE.cons
    · exact ev_move rfl (gn rfl)
    simp only [nm, seval]
    apply VE.cons
    · exact ev_idxb (k := 0) rfl (gn rfl) rfl rfl Tryd.underlying9 (rfl) (ht)
    simp only [nm, seval]
    apply VE.cons
    · exact ev_conv rfl (gn rfl) rfl (fun w => cv53 ht w)
    simp only [nm, seval]
    apply VE.cons
    · exact ev_build (cells := #[.int .i64 (t : Nat), .string (ByteArray.mk #[]), .slice none 0 0]) rfl (gn rfl) rfl (built24_t _)
    simp only [nm, seval]
    apply VE.cons
    · exact ev_alloc rfl rfl (gn rfl) Tryd.zeroValue24
    simp only [nm, seval]
    apply VE.cons
    · exact ev_store rfl (gn rfl) rfl rfl rfl Tryd.sizeOf24 rfl (by simp) rfl
    simp only [nm, seval]
    exact VE.nil _
  · kernel_rfl
  change VOk _ _ _ _ _
  refine vseq ?_
  apply vrp
  · apply VE.cons
    · exact ev_move rfl (gn rfl)
    simp only [nm, seval]
    apply VE.cons
    · exact ev_idxb (k := 1) rfl (gn rfl) rfl rfl Tryd.underlying9 (rfl) (hc)
    simp only [nm, seval]
    apply VE.cons
    · exact ev_conv rfl (gn rfl) rfl (fun w => cv53 hc w)
    simp only [nm, seval]
    apply VE.cons
    · exact ev_assign rfl (gn rfl)
    simp only [nm, seval]
    apply VE.cons
    · exact ev_assign rfl (gn rfl)
    simp only [nm, seval]
    exact VE.nil _
  · kernel_rfl
  change VOk _ _ _ _ _
  refine vseq ?_
  refine vseq ?_
  apply vrp
  · apply VE.cons
    · exact ev_move rfl (gn rfl)
    simp only [nm, seval]
    apply VE.cons
    · exact ev_geq (p := true) rfl (gn rfl) rfl rfl (decide_eq_true (by omega))
    simp only [nm, seval]
    exact VE.nil _
  · kernel_rfl
  change VOk _ _ _ _ _
  refine vcond_t rfl ?_
  refine vseq ?_
  apply vrp
  · apply VE.cons
    · exact ev_move rfl (gn rfl)
    simp only [nm, seval]
    apply VE.cons
    · exact ev_sub (c := ((c : Int) - 128)) rfl (gn rfl) rfl rfl (by rw [i64w (by omega) (by omega)])
    simp only [nm, seval]
    apply VE.cons
    · exact ev_assign rfl (gn rfl)
    simp only [nm, seval]
    exact VE.nil _
  · kernel_rfl
  change VOk _ _ _ _ _
  refine vseq ?_
  refine vseq ?_
  apply vrp
  · apply VE.cons
    · exact ev_move rfl (gn rfl)
    simp only [nm, seval]
    apply VE.cons
    · exact ev_lss (p := false) rfl (gn rfl) rfl rfl (decide_eq_false (by omega))
    simp only [nm, seval]
    apply VE.cons
    · exact ev_move rfl (gn rfl)
    simp only [nm, seval]
    apply VE.cons
    · first | exact Ev.skip (fun _ => rfl) | exact ev_move rfl (fun _ => rfl)
    simp only [nm, seval]
    apply VE.cons
    · first | exact Ev.skip (fun _ => rfl) | exact ev_gtr (p := true) rfl (fun _ => rfl) rfl rfl (decide_eq_true (by omega))
    simp only [nm, seval]
    apply VE.cons
    · first | exact ev_pick_t rfl (gn rfl) rfl rfl | exact ev_pick_f rfl (gn rfl) rfl rfl
    simp only [nm, seval]
    apply VE.cons
    · exact ev_move rfl (gn rfl)
    simp only [nm, seval]
    apply VE.cons
    · first | exact Ev.skip (fun _ => rfl) | exact ev_move rfl (fun _ => rfl)
    simp only [nm, seval]
    apply VE.cons
    · first | exact Ev.skip (fun _ => rfl) | refine ev_pure' (fun _ => rfl) (fun ρ w => by simp only [VS.act, SV.c, List.map_cons, List.map_nil]; go_simp; exact rfl) (fun _ _ => rfl)
    simp only [nm, seval]
    apply VE.cons
    · first | exact Ev.skip (fun _ => rfl) | exact ev_move rfl (fun _ => rfl)
    simp only [nm, seval]
    apply VE.cons
    · first | exact Ev.skip (fun _ => rfl) | refine ev_pure' (fun _ => rfl) (fun ρ w => by simp only [VS.act, SV.c, List.map_cons, List.map_nil]; go_simp; exact rfl) (fun _ _ => rfl)
    simp only [nm, seval]
    apply VE.cons
    · first | exact Ev.skip (fun _ => rfl) | refine ev_pure' (fun _ => rfl) (fun ρ w => by simp only [VS.act, SV.c, List.map_cons, List.map_nil]; go_simp; exact rfl) (fun _ _ => rfl)
    simp only [nm, seval]
    apply VE.cons
    · first | exact ev_pick_t rfl (gn rfl) rfl rfl | exact ev_pick_f rfl (gn rfl) rfl rfl
    simp only [nm, seval]
    exact VE.nil _
  · kernel_rfl
  change VOk _ _ _ _ _
  refine vcond_t rfl ?_
  refine vseq ?_
  apply vrp
  · apply VE.cons
    · exact ev_build (cells := #[.int .i64 0, .string (ByteArray.mk #[]), .slice none 0 0]) rfl (gn rfl) rfl built24_0
    simp only [nm, seval]
    apply VE.cons
    · exact ev_store rfl (gn rfl) rfl rfl rfl Tryd.sizeOf24 rfl (by simp) rfl
    simp only [nm, seval]
    apply VE.cons
    · exact ev_assign rfl (gn rfl)
    simp only [nm, seval]
    apply VE.cons
    · exact ev_assign rfl (gn rfl)
    simp only [nm, seval]
    exact VE.nil _
  · kernel_rfl
  change VOk _ _ _ _ _
  refine vret ?_
  refine post_ret (res3 Tryd.results40 (rv_cella rfl rfl Tryd.underlying24 rfl Tryd.sizeOf24 rfl) (rv_tmp rfl) (rv_tmp rfl)) ?_
  intro ρ w' hr
  refine ⟨_, rfl, ?_, hr.1⟩
  exact rnode_leaf 0 []
theorem one_hn2 {t c : Nat} {r : List Nat} {d : Nat} (w : World) (ht : t < 256) (hc : c < 256) (hbl : r.length ≤ 1048576) (hd : d ≤ 8) (h : 128 < c) (h2 : c ≤ 130) (hl : r.length + 128 < c) : Calls Tryd.prog 40 #[.string (bstr (t :: c :: r)), .int .i64 (d : Nat)] w fun e w' => ∃ v', e = .returned (.tuple #[v', .string (bstr []), .bool false]) ∧ RetD w w' v' (datR (noT)) ∧ Bw w w' := by
  go_enter Tryd.func40, Tryd.ntmps40
  refine ve_go ?_
  simp only [List.map_cons, List.map_nil]
  refine vseq ?_
  apply vrp
  · apply VE.cons
    · exact ev_alloc rfl rfl (gn rfl) Tryd.zeroValue24
    simp only [nm, seval]
    apply VE.cons
    · exact ev_assign rfl (gn rfl)
    simp only [nm, seval]
    apply VE.cons
    · exact ev_assign rfl (gn rfl)
    simp only [nm, seval]
    exact VE.nil _
  · kernel_rfl
  change VOk _ _ _ _ _
  refine vseq ?_
  refine vseq ?_
  apply vrp
  · apply VE.cons
    · exact ev_move rfl (gn rfl)
    simp only [nm, seval]
    apply VE.cons
    · exact ev_lenb rfl (gn rfl) rfl Tryd.underlying9
    simp only [nm, seval]
    apply VE.cons
    · exact ev_lss (p := false) rfl (gn rfl) rfl rfl (decide_eq_false (by simp only [List.length_cons]; omega))
    simp only [nm, seval]
    apply VE.cons
    · exact ev_move rfl (gn rfl)
    simp only [nm, seval]
    apply VE.cons
    · first | exact Ev.skip (fun _ => rfl) | exact ev_move rfl (fun _ => rfl)
    simp only [nm, seval]
    apply VE.cons
    · first | exact Ev.skip (fun _ => rfl) | exact ev_gtr (p := false) rfl (fun _ => rfl) rfl rfl (decide_eq_false (by omega))
    simp only [nm, seval]
    apply VE.cons
    · first | exact ev_pick_t rfl (gn rfl) rfl rfl | exact ev_pick_f rfl (gn rfl) rfl rfl
    simp only [nm, seval]
    exact VE.nil _
  · kernel_rfl
  change VOk _ _ _ _ _
  refine vcond_f rfl ?_
  refine vskip ?_
  change VOk _ _ _ _ _
  refine vseq ?_
  apply vrp
  · apply VE.cons
    · exact ev_move rfl (gn rfl)
    simp only [nm, seval]
    apply VE.cons
    · exact ev_idxb (k := 0) rfl (gn rfl) rfl rfl Tryd.underlying9 (rfl) (ht)
    simp only [nm, seval]
    apply VE.cons
    · exact ev_conv rfl (gn rfl) rfl (fun w => cv53 ht w)
    simp only [nm, seval]
    apply VE.cons
    · exact ev_build (cells := #[.int .i64 (t : Nat), .string (ByteArray.mk #[]), .slice none 0 0]) rfl (gn rfl) rfl (built24_t _)
    simp only [nm, seval]
    apply VE.cons
    · exact ev_alloc rfl rfl (gn rfl) Tryd.zeroValue24
    simp only [nm, seval]
    apply VE.cons
    · exact ev_store rfl (gn rfl) rfl rfl rfl Tryd.sizeOf24 rfl (by simp) rfl
    simp only [nm, seval]
    exact VE.nil _
  · kernel_rfl
  change VOk _ _ _ _ _
  refine vseq ?_
  apply vrp
  · apply VE.cons
    · exact ev_move rfl (gn rfl)
    simp only [nm, seval]
    apply VE.cons
    · exact ev_idxb (k := 1) rfl (gn rfl) rfl rfl Tryd.underlying9 (rfl) (hc)
    simp only [nm, seval]
    apply VE.cons
    · exact ev_conv rfl (gn rfl) rfl (fun w => cv53 hc w)
    simp only [nm, seval]
    apply VE.cons
    · exact ev_assign rfl (gn rfl)
    simp only [nm, seval]
    apply VE.cons
    · exact ev_assign rfl (gn rfl)
    simp only [nm, seval]
    exact VE.nil _
  · kernel_rfl
  change VOk _ _ _ _ _
  refine vseq ?_
  refine vseq ?_
  apply vrp
  · apply VE.cons
    · exact ev_move rfl (gn rfl)
    simp only [nm, seval]
    apply VE.cons
    · exact ev_geq (p := true) rfl (gn rfl) rfl rfl (decide_eq_true (by omega))
    simp only [nm, seval]
    exact VE.nil _
  · kernel_rfl
  change VOk _ _ _ _ _
  refine vcond_t rfl ?_
  refine vseq ?_
  apply vrp
  · apply VE.cons
    · exact ev_move rfl (gn rfl)
    simp only [nm, seval]
    apply VE.cons
    · exact ev_sub (c := ((c : Int) - 128)) rfl (gn rfl) rfl rfl (by rw [i64w (by omega) (by omega)])
    simp only [nm, seval]
    apply VE.cons
    · exact ev_assign rfl (gn rfl)
    simp only [nm, seval]
    exact VE.nil _
  · kernel_rfl
  change VOk _ _ _ _ _
  refine vseq ?_
  refine vseq ?_
  apply vrp
  · apply VE.cons
    · exact ev_move rfl (gn rfl)
    simp only [nm, seval]
    apply VE.cons
    · exact ev_lss (p := false) rfl (gn rfl) rfl rfl (decide_eq_false (by omega))
    simp only [nm, seval]
    apply VE.cons
    · exact ev_move rfl (gn rfl)
    simp only [nm, seval]
    apply VE.cons
    · first | exact Ev.skip (fun _ => rfl) | exact ev_move rfl (fun _ => rfl)
    simp only [nm, seval]
    apply VE.cons
    · first | exact Ev.skip (fun _ => rfl) | exact ev_gtr (p := false) rfl (fun _ => rfl) rfl rfl (decide_eq_false (by omega))
    simp only [nm, seval]
    apply VE.cons
    · first | exact ev_pick_t rfl (gn rfl) rfl rfl | exact ev_pick_f rfl (gn rfl) rfl rfl
    simp only [nm, seval]
    apply VE.cons
    · exact ev_move rfl (gn rfl)
    simp only [nm, seval]
    apply VE.cons
    · first | exact Ev.skip (fun _ => rfl) | exact ev_move rfl (fun _ => rfl)
    simp only [nm, seval]
    apply VE.cons
    · first | exact Ev.skip (fun _ => rfl) | exact ev_lenb rfl (fun _ => rfl) rfl Tryd.underlying9
    simp only [nm, seval]
    apply VE.cons
    · first | exact Ev.skip (fun _ => rfl) | exact ev_move rfl (fun _ => rfl)
    simp only [nm, seval]
    apply VE.cons
    · first | exact Ev.skip (fun _ => rfl) | exact ev_add (c := (2 + ((c : Int) - 128))) rfl (fun _ => rfl) rfl rfl (by rw [i64w (by omega) (by omega)])
    simp only [nm, seval]
    apply VE.cons
    · first | exact Ev.skip (fun _ => rfl) | exact ev_lss (p := true) rfl (fun _ => rfl) rfl rfl (decide_eq_true (by simp only [List.length_cons]; omega))
    simp only [nm, seval]
    apply VE.cons
    · first | exact ev_pick_t rfl (gn rfl) rfl rfl | exact ev_pick_f rfl (gn rfl) rfl rfl
    simp only [nm, seval]
    exact VE.nil _
  · kernel_rfl
  change VOk _ _ _ _ _
  refine vcond_t rfl ?_
  refine vseq ?_
  apply vrp
  · apply VE.cons
    · exact ev_build (cells := #[.int .i64 0, .string (ByteArray.mk #[]), .slice none 0 0]) rfl (gn rfl) rfl built24_0
    simp only [nm, seval]
    apply VE.cons
    · exact ev_store rfl (gn rfl) rfl rfl rfl Tryd.sizeOf24 rfl (by simp) rfl
    simp only [nm, seval]
    apply VE.cons
    · exact ev_assign rfl (gn rfl)
    simp only [nm, seval]
    apply VE.cons
    · exact ev_assign rfl (gn rfl)
    simp only [nm, seval]
    exact VE.nil _
  · kernel_rfl
  change VOk _ _ _ _ _
  refine vret ?_
  refine post_ret (res3 Tryd.results40 (rv_cella rfl rfl Tryd.underlying24 rfl Tryd.sizeOf24 rfl) (rv_tmp rfl) (rv_tmp rfl)) ?_
  intro ρ w' hr
  refine ⟨_, rfl, ?_, hr.1⟩
  exact rnode_leaf 0 []
theorem one_h1 {t x : Nat} {r : List Nat} {d : Nat} {R : Ending → World → Prop} (w : World) (ht : t < 256) (hx : x < 256) (hbl : r.length ≤ 1048576) (hd : d ≤ 8) (htail : ∀ f : Nat → Value, VOk Tryd.prog w ⟨[.v (.string (bstr (t :: 129 :: x :: r))), .v (.int .i64 (d : Nat)), .v (f 2), .v (f 3), .p 4 0, .v (f 5), .v (f 6), .p 7 0, .v (.int .i64 (x : Nat)), .v (.int .i64 (3 : Nat)), .v (f 10), .v (f 11), .v (f 12), .v (f 13), .v (f 14), .v (f 15), .v (f 16), .v (f 17), .v (f 18), .v (f 19), .v (f 20), .v (f 21), .v (f 22), .v (f 23), .v (f 24), .v (f 25), .v (f 26), .v (f 27), .v (f 28), .v (f 29), .v (f 30), .v (f 31), .v (f 32), .v (f 33), .v (f 34), .v (f 35), .v (f 36), .v (f 37), .v (f 38), .v (f 39), .v (f 40), .v (f 41), .v (f 42), .v (f 43), .v (f 44), .v (f 45), .v (f 46), .v (f 47), .v (f 48), .v (f 49), .v (f 50), .v (f 51), .v (f 52), .v (f 53), .v (f 54), .v (f 55), .v (f 56), .v (f 57), .v (f 58), .v (f 59), .v (f 60), .v (f 61), .v (f 62), .v (f 63), .v (f 64), .v (f 65), .v (f 66), .v (f 67), .v (f 68), .v (f 69), .v (f 70), .v (f 71), .v (f 72), .v (f 73), .v (f 74), .v (f 75), .v (f 76), .v (f 77), .v (f 78), .v (f 79), .v (f 80), .v (f 81), .v (f 82), .v (f 83), .v (f 84), .v (f 85), .v (f 86), .v (f 87), .v (f 88), .v (f 89), .v (f 90), .v (f 91), .v (f 92), .v (f 93), .v (f 94), .v (f 95), .v (f 96), .v (f 97), .v (f 98), .v (f 99), .v (f 100), .v (f 101), .v (f 102), .v (f 103), .v (f 104), .v (f 105), .v (f 106), .v (f 107), .v (f 108), .v (f 109), .v (f 110), .v (f 111), .v (f 112), .v (f 113), .v (f 114), .v (f 115)], memOf [(7, .cells [.v (.int .i64 (t : Nat)), .v (.string (ByteArray.mk #[])), .v (.slice none 0 0)] 24), (4, .cells [.v (.int .i64 0), .v (.string (ByteArray.mk #[])), .v (.slice none 0 0)] 24)]⟩ (dropSeq 5 (bodyOf Tryd.f40)) (QB Tryd.prog Tryd.f40 w R)) : Calls Tryd.prog 40 #[.string (bstr (t :: 129 :: x :: r)), .int .i64 (d : Nat)] w R := by
  have hc : 129 < 256 := by decide
  go_enter Tryd.func40, Tryd.ntmps40
  refine ve_go ?_
  simp only [List.map_cons, List.map_nil]
  refine vseq ?_
  apply vrp
  · apply VE.cons
    · exact ev_alloc rfl rfl (gn rfl) Tryd.zeroValue24
    simp only [nm, seval]
    apply VE.cons
    · exact ev_assign rfl (gn rfl)
    simp only [nm, seval]
    apply VE.cons
    · exact ev_assign rfl (gn rfl)
    simp only [nm, seval]
    exact VE.nil _
  · kernel_rfl
  change VOk _ _ _ _ _
  refine vseq ?_
  refine vseq ?_
  apply vrp
  · apply VE.cons
    · exact ev_move rfl (gn rfl)
    simp only [nm, seval]
    apply VE.cons
    · exact ev_lenb rfl (gn rfl) rfl Tryd.underlying9
    simp only [nm, seval]
    apply VE.cons
    · exact ev_lss (p := false) rfl (gn rfl) rfl rfl (decide_eq_false (by simp only [List.length_cons]; omega))
    simp only [nm, seval]
    apply VE.cons
    · exact ev_move rfl (gn rfl)
    simp only [nm, seval]
    apply VE.cons
    · first | exact Ev.skip (fun _ => rfl) | exact ev_move rfl (fun _ => rfl)
    simp only [nm, seval]
    apply VE.cons
    · first | exact Ev.skip (fun _ => rfl) | exact ev_gtr (p := false) rfl (fun _ => rfl) rfl rfl (decide_eq_false (by omega))
    simp only [nm, seval]
    apply VE.cons
    · first | exact ev_pick_t rfl (gn rfl) rfl rfl | exact ev_pick_f rfl (gn rfl) rfl rfl
    simp only [nm, seval]
    exact VE.nil _
  · kernel_rfl
  change VOk _ _ _ _ _
  refine vcond_f rfl ?_
  refine vskip ?_
  change VOk _ _ _ _ _
  refine vseq ?_
  apply vrp
  · apply VE.cons
    · exact ev_move rfl (gn rfl)
    simp only [nm, seval]
    apply VE.cons
    · exact ev_idxb (k := 0) rfl (gn rfl) rfl rfl Tryd.underlying9 (rfl) (ht)
    simp only [nm, seval]
    apply VE.cons
    · exact ev_conv rfl (gn rfl) rfl (fun w => cv53 ht w)
    simp only [nm, seval]
    apply VE.cons
    · exact ev_build (cells := #[.int .i64 (t : Nat), .string (ByteArray.mk #[]), .slice none 0 0]) rfl (gn rfl) rfl (built24_t _)
    simp only [nm, seval]
    apply VE.cons
    · exact ev_alloc rfl rfl (gn rfl) Tryd.zeroValue24
    simp only [nm, seval]
    apply VE.cons
    · exact ev_store rfl (gn rfl) rfl rfl rfl Tryd.sizeOf24 rfl (by simp) rfl
    simp only [nm, seval]
    exact VE.nil _
  · kernel_rfl
  change VOk _ _ _ _ _
  refine vseq ?_
  apply vrp
  · apply VE.cons
    · exact ev_move rfl (gn rfl)
    simp only [nm, seval]
    apply VE.cons
    · exact ev_idxb (k := 1) rfl (gn rfl) rfl rfl Tryd.underlying9 (rfl) (hc)
    simp only [nm, seval]
    apply VE.cons
    · exact ev_conv rfl (gn rfl) rfl (fun w => cv53 hc w)
    simp only [nm, seval]
    apply VE.cons
    · exact ev_assign rfl (gn rfl)
    simp only [nm, seval]
    apply VE.cons
    · exact ev_assign rfl (gn rfl)
    simp only [nm, seval]
    exact VE.nil _
  · kernel_rfl
  change VOk _ _ _ _ _
  refine vseq ?_
  refine vseq ?_
  apply vrp
  · apply VE.cons
    · exact ev_move rfl (gn rfl)
    simp only [nm, seval]
    apply VE.cons
    · exact ev_geq (p := true) rfl (gn rfl) rfl rfl (by decide)
    simp only [nm, seval]
    exact VE.nil _
  · kernel_rfl
  change VOk _ _ _ _ _
  refine vcond_t rfl ?_
  refine vseq ?_
  apply vrp
  · apply VE.cons
    · exact ev_move rfl (gn rfl)
    simp only [nm, seval]
    apply VE.cons
    · exact ev_sub (c := 1) rfl (gn rfl) rfl rfl (by decide)
    simp only [nm, seval]
    apply VE.cons
    · exact ev_assign rfl (gn rfl)
    simp only [nm, seval]
    exact VE.nil _
  · kernel_rfl
  change VOk _ _ _ _ _
  refine vseq ?_
  refine vseq ?_
  apply vrp
  · apply VE.cons
    · exact ev_move rfl (gn rfl)
    simp only [nm, seval]
    apply VE.cons
    · exact ev_lss (p := false) rfl (gn rfl) rfl rfl (by decide)
    simp only [nm, seval]
    apply VE.cons
    · exact ev_move rfl (gn rfl)
    simp only [nm, seval]
    apply VE.cons
    · first | exact Ev.skip (fun _ => rfl) | exact ev_move rfl (fun _ => rfl)
    simp only [nm, seval]
    apply VE.cons
    · first | exact Ev.skip (fun _ => rfl) | exact ev_gtr (p := false) rfl (fun _ => rfl) rfl rfl (by decide)
    simp only [nm, seval]
    apply VE.cons
    · first | exact ev_pick_t rfl (gn rfl) rfl rfl | exact ev_pick_f rfl (gn rfl) rfl rfl
    simp only [nm, seval]
    apply VE.cons
    · exact ev_move rfl (gn rfl)
    simp only [nm, seval]
    apply VE.cons
    · first | exact Ev.skip (fun _ => rfl) | exact ev_move rfl (fun _ => rfl)
    simp only [nm, seval]
    apply VE.cons
    · first | exact Ev.skip (fun _ => rfl) | exact ev_lenb rfl (fun _ => rfl) rfl Tryd.underlying9
    simp only [nm, seval]
    apply VE.cons
    · first | exact Ev.skip (fun _ => rfl) | exact ev_move rfl (fun _ => rfl)
    simp only [nm, seval]
    apply VE.cons
    · first | exact Ev.skip (fun _ => rfl) | exact ev_add (c := ((3 : Nat) : Int)) rfl (fun _ => rfl) rfl rfl (by rw [i64w (by omega) (by omega)]; omega)
    simp only [nm, seval]
    apply VE.cons
    · first | exact Ev.skip (fun _ => rfl) | exact ev_lss (p := false) rfl (fun _ => rfl) rfl rfl (decide_eq_false (by simp only [List.length_cons]; omega))
    simp only [nm, seval]
    apply VE.cons
    · first | exact ev_pick_t rfl (gn rfl) rfl rfl | exact ev_pick_f rfl (gn rfl) rfl rfl
    simp only [nm, seval]
    exact VE.nil _
  · kernel_rfl
  change VOk _ _ _ _ _
  refine vcond_f rfl ?_
  refine vskip ?_
  change VOk _ _ _ _ _
  refine vseq ?_
  apply vrp
  · apply VE.cons
    · exact ev_assign rfl (gn rfl)
    simp only [nm, seval]
    exact VE.nil _
  · kernel_rfl
  change VOk _ _ _ _ _
  refine vseq ?_
  refine vseq ?_
  apply vrp
  · apply VE.cons
    · exact ev_assign rfl (gn rfl)
    simp only [nm, seval]
    exact VE.nil _
  · kernel_rfl
  change VOk _ _ _ _ _
  refine vblock ?_
  refine vloop 2 ?_
  change VOk _ _ _ _ _
  refine vseq ?_
  refine vseq ?_
  apply vrp
  · apply VE.cons
    · exact ev_move rfl (gn rfl)
    simp only [nm, seval]
    apply VE.cons
    · exact ev_move rfl (gn rfl)
    simp only [nm, seval]
    apply VE.cons
    · exact ev_lss (p := true) rfl (gn rfl) rfl rfl (by decide)
    simp only [nm, seval]
    exact VE.nil _
  · kernel_rfl
  change VOk _ _ _ _ _
  refine vcond_t rfl ?_
  refine vskip ?_
  change VOk _ _ _ _ _
  refine vseq ?_
  refine vblock ?_
  apply vrp
  · apply VE.cons
    · exact ev_move rfl (gn rfl)
    simp only [nm, seval]
    apply VE.cons
    · exact ev_bin rfl (gn rfl) rfl rfl (fun w => shl_sm (v := 0) (u := 0) (by decide) rfl _ _ w)
    simp only [nm, seval]
    apply VE.cons
    · exact ev_move rfl (gn rfl)
    simp only [nm, seval]
    apply VE.cons
    · exact ev_move rfl (gn rfl)
    simp only [nm, seval]
    apply VE.cons
    · exact ev_add (c := ((2 : Nat) : Int)) rfl (gn rfl) rfl rfl (by rw [i64w (by omega) (by omega)]; omega)
    simp only [nm, seval]
    apply VE.cons
    · exact ev_idxb (k := 2) rfl (gn rfl) rfl rfl Tryd.underlying9 (rfl) (hx)
    simp only [nm, seval]
    apply VE.cons
    · exact ev_conv rfl (gn rfl) rfl (fun w => cv53 hx w)
    simp only [nm, seval]
    apply VE.cons
    · exact ev_add (c := ((x : Nat) : Int)) rfl (gn rfl) rfl rfl (by rw [i64w (by omega) (by omega)]; omega)
    simp only [nm, seval]
    apply VE.cons
    · exact ev_assign rfl (gn rfl)
    simp only [nm, seval]
    exact VE.nil _
  · kernel_rfl
  change VOk _ _ _ _ _
  apply vrp
  · apply VE.cons
    · exact ev_move rfl (gn rfl)
    simp only [nm, seval]
    apply VE.cons
    · exact ev_add (c := ((1 : Nat) : Int)) rfl (gn rfl) rfl rfl (by rw [i64w (by omega) (by omega)]; omega)
    simp only [nm, seval]
    apply VE.cons
    · exact ev_assign rfl (gn rfl)
    simp only [nm, seval]
    exact VE.nil _
  · kernel_rfl
  change VOk _ _ _ _ _
  refine vseq ?_
  refine vseq ?_
  apply vrp
  · apply VE.cons
    · exact ev_move rfl (gn rfl)
    simp only [nm, seval]
    apply VE.cons
    · exact ev_move rfl (gn rfl)
    simp only [nm, seval]
    apply VE.cons
    · exact ev_lss (p := false) rfl (gn rfl) rfl rfl (by decide)
    simp only [nm, seval]
    exact VE.nil _
  · kernel_rfl
  change VOk _ _ _ _ _
  refine vcond_f rfl ?_
  refine vexit ?_
  change VOk _ _ _ _ _
  apply vrp
  · apply VE.cons
    · exact ev_move rfl (gn rfl)
    simp only [nm, seval]
    apply VE.cons
    · exact ev_add (c := ((3 : Nat) : Int)) rfl (gn rfl) rfl rfl (by rw [i64w (by omega) (by omega)]; omega)
    simp only [nm, seval]
    apply VE.cons
    · exact ev_assign rfl (gn rfl)
    simp only [nm, seval]
    exact VE.nil _
  · kernel_rfl
  change VOk _ _ _ _ _
  exact vforget (fun i => i == 0 || i == 1 || i == 4 || i == 7 || i == 8 || i == 9) [] htail
theorem one_h2 {t x y : Nat} {r : List Nat} {d : Nat} {R : Ending → World → Prop} (w : World) (ht : t < 256) (hx : x < 256) (hy : y < 256) (hbl : r.length ≤ 1048576) (hd : d ≤ 8) (htail : ∀ f : Nat → Value, VOk Tryd.prog w ⟨[.v (.string (bstr (t :: 130 :: x :: y :: r))), .v (.int .i64 (d : Nat)), .v (f 2), .v (f 3), .p 4 0, .v (f 5), .v (f 6), .p 7 0, .v (.int .i64 (x * 256 + y : Nat)), .v (.int .i64 (4 : Nat)), .v (f 10), .v (f 11), .v (f 12), .v (f 13), .v (f 14), .v (f 15), .v (f 16), .v (f 17), .v (f 18), .v (f 19), .v (f 20), .v (f 21), .v (f 22), .v (f 23), .v (f 24), .v (f 25), .v (f 26), .v (f 27), .v (f 28), .v (f 29), .v (f 30), .v (f 31), .v (f 32), .v (f 33), .v (f 34), .v (f 35), .v (f 36), .v (f 37), .v (f 38), .v (f 39), .v (f 40), .v (f 41), .v (f 42), .v (f 43), .v (f 44), .v (f 45), .v (f 46), .v (f 47), .v (f 48), .v (f 49), .v (f 50), .v (f 51), .v (f 52), .v (f 53), .v (f 54), .v (f 55), .v (f 56), .v (f 57), .v (f 58), .v (f 59), .v (f 60), .v (f 61), .v (f 62), .v (f 63), .v (f 64), .v (f 65), .v (f 66), .v (f 67), .v (f 68), .v (f 69), .v (f 70), .v (f 71), .v (f 72), .v (f 73), .v (f 74), .v (f 75), .v (f 76), .v (f 77), .v (f 78), .v (f 79), .v (f 80), .v (f 81), .v (f 82), .v (f 83), .v (f 84), .v (f 85), .v (f 86), .v (f 87), .v (f 88), .v (f 89), .v (f 90), .v (f 91), .v (f 92), .v (f 93), .v (f 94), .v (f 95), .v (f 96), .v (f 97), .v (f 98), .v (f 99), .v (f 100), .v (f 101), .v (f 102), .v (f 103), .v (f 104), .v (f 105), .v (f 106), .v (f 107), .v (f 108), .v (f 109), .v (f 110), .v (f 111), .v (f 112), .v (f 113), .v (f 114), .v (f 115)], memOf [(7, .cells [.v (.int .i64 (t : Nat)), .v (.string (ByteArray.mk #[])), .v (.slice none 0 0)] 24), (4, .cells [.v (.int .i64 0), .v (.string (ByteArray.mk #[])), .v (.slice none 0 0)] 24)]⟩ (dropSeq 5 (bodyOf Tryd.f40)) (QB Tryd.prog Tryd.f40 w R)) : Calls Tryd.prog 40 #[.string (bstr (t :: 130 :: x :: y :: r)), .int .i64 (d : Nat)] w R := by
  have hc : 130 < 256 := by decide
  go_enter Tryd.func40, Tryd.ntmps40
  refine ve_go ?_
  simp only [List.map_cons, List.map_nil]
  refine vseq ?_
  apply vrp
  · apply VE.cons
    · exact ev_alloc rfl rfl (gn rfl) Tryd.zeroValue24
    simp only [nm, seval]
    apply VE.cons
    · exact ev_assign rfl (gn rfl)
    simp only [nm, seval]
    apply VE.cons
    · exact ev_assign rfl (gn rfl)
    simp only [nm, seval]
    exact VE.nil _
  · kernel_rfl
  change VOk _ _ _ _ _
  refine vseq ?_
  refine vseq ?_
  apply vrp
  · apply VE.cons
    · exact ev_move rfl (gn rfl)
    simp only [nm, seval]
    apply VE.cons
    · exact ev_lenb rfl (gn rfl) rfl Tryd.underlying9
    simp only [nm, seval]
    apply VE.cons
    · exact ev_lss (p := false) rfl (gn rfl) rfl rfl (decide_eq_false (by simp only [List.length_cons]; omega))
    simp only [nm, seval]
    apply VE.cons
    · exact ev_move rfl (gn rfl)
    simp only [nm, seval]
    apply VE.cons
    · first | exact Ev.skip (fun _ => rfl) | exact ev_move rfl (fun _ => rfl)
    simp only [nm, seval]
    apply VE.cons
    · first | exact Ev.skip (fun _ => rfl) | exact ev_gtr (p := false) rfl (fun _ => rfl) rfl rfl (decide_eq_false (by omega))
    simp only [nm, seval]
    apply VE.cons
    · first | exact ev_pick_t rfl (gn rfl) rfl rfl | exact ev_pick_f rfl (gn rfl) rfl rfl
    simp only [nm, seval]
    exact VE.nil _
  · kernel_rfl
  change VOk _ _ _ _ _
  refine vcond_f rfl ?_
  refine vskip ?_
  change VOk _ _ _ _ _
  refine vseq ?_
  apply vrp
  · apply VE.cons
    · exact ev_move rfl (gn rfl)
    simp only [nm, seval]
    apply VE.cons
    · exact ev_idxb (k := 0) rfl (gn rfl) rfl rfl Tryd.underlying9 (rfl) (ht)
    simp only [nm, seval]
    apply VE.cons
    · exact ev_conv rfl (gn rfl) rfl (fun w => cv53 ht w)
    simp only [nm, seval]
    apply VE.cons
    · exact ev_build (cells := #[.int .i64 (t : Nat), .string (ByteArray.mk #[]), .slice none 0 0]) rfl (gn rfl) rfl (built24_t _)
    simp only [nm, seval]
    apply VE.cons
    · exact ev_alloc rfl rfl (gn rfl) Tryd.zeroValue24
    simp only [nm, seval]
    apply VE.cons
    · exact ev_store rfl (gn rfl) rfl rfl rfl Tryd.sizeOf24 rfl (by simp) rfl
    simp only [nm, seval]
    exact VE.nil _
  · kernel_rfl
  change VOk _ _ _ _ _
  refine vseq ?_
  apply vrp
  · apply VE.cons
    · exact ev_move rfl (gn rfl)
    simp only [nm, seval]
    apply VE.cons
    · exact ev_idxb (k := 1) rfl (gn rfl) rfl rfl Tryd.underlying9 (rfl) (hc)
    simp only [nm, seval]
    apply VE.cons
    · exact ev_conv rfl (gn rfl) rfl (fun w => cv53 hc w)
    simp only [nm, seval]
    apply VE.cons
    · exact ev_assign rfl (gn rfl)
    simp only [nm, seval]
    apply VE.cons
    · exact ev_assign rfl (gn rfl)
    simp only [nm, seval]
    exact VE.nil _
  · kernel_rfl
  change VOk _ _ _ _ _
  refine vseq ?_
  refine vseq ?_
  apply vrp
  · apply VE.cons
    · exact ev_move rfl (gn rfl)
    simp only [nm, seval]
    apply VE.cons
    · exact ev_geq (p := true) rfl (gn rfl) rfl rfl (by decide)
    simp only [nm, seval]
    exact VE.nil _
  · kernel_rfl
  change VOk _ _ _ _ _
  refine vcond_t rfl ?_
  refine vseq ?_
  apply vrp
  · apply VE.cons
    · exact ev_move rfl (gn rfl)
    simp only [nm, seval]
    apply VE.cons
    · exact ev_sub (c := 2) rfl (gn rfl) rfl rfl (by decide)
    simp only [nm, seval]
    apply VE.cons
    · exact ev_assign rfl (gn rfl)
    simp only [nm, seval]
    exact VE.nil _
  · kernel_rfl
  change VOk _ _ _ _ _
  refine vseq ?_
  refine vseq ?_
  apply vrp
  · apply VE.cons
    · exact ev_move rfl (gn rfl)
    simp only [nm, seval]
    apply VE.cons
    · exact ev_lss (p := false) rfl (gn rfl) rfl rfl (by decide)
    simp only [nm, seval]
    apply VE.cons
    · exact ev_move rfl (gn rfl)
    simp only [nm, seval]
    apply VE.cons
    · first | exact Ev.skip (fun _ => rfl) | exact ev_move rfl (fun _ => rfl)
    simp only [nm, seval]
    apply VE.cons
    · first | exact Ev.skip (fun _ => rfl) | exact ev_gtr (p := false) rfl (fun _ => rfl) rfl rfl (by decide)
    simp only [nm, seval]
    apply VE.cons
    · first | exact ev_pick_t rfl (gn rfl) rfl rfl | exact ev_pick_f rfl (gn rfl) rfl rfl
    simp only [nm, seval]
    apply VE.cons
    · exact ev_move rfl (gn rfl)
    simp only [nm, seval]
    apply VE.cons
    · first | exact Ev.skip (fun _ => rfl) | exact ev_move rfl (fun _ => rfl)
    simp only [nm, seval]
    apply VE.cons
    · first | exact Ev.skip (fun _ => rfl) | exact ev_lenb rfl (fun _ => rfl) rfl Tryd.underlying9
    simp only [nm, seval]
    apply VE.cons
    · first | exact Ev.skip (fun _ => rfl) | exact ev_move rfl (fun _ => rfl)
    simp only [nm, seval]
    apply VE.cons
    · first | exact Ev.skip (fun _ => rfl) | exact ev_add (c := ((4 : Nat) : Int)) rfl (fun _ => rfl) rfl rfl (by rw [i64w (by omega) (by omega)]; omega)
    simp only [nm, seval]
    apply VE.cons
    · first | exact Ev.skip (fun _ => rfl) | exact ev_lss (p := false) rfl (fun _ => rfl) rfl rfl (decide_eq_false (by simp only [List.length_cons]; omega))
    simp only [nm, seval]
    apply VE.cons
    · first | exact ev_pick_t rfl (gn rfl) rfl rfl | exact ev_pick_f rfl (gn rfl) rfl rfl
    simp only [nm, seval]
    exact VE.nil _
  · kernel_rfl
  change VOk _ _ _ _ _
  refine vcond_f rfl ?_
  refine vskip ?_
  change VOk _ _ _ _ _
  refine vseq ?_
  apply vrp
  · apply VE.cons
    · exact ev_assign rfl (gn rfl)
    simp only [nm, seval]
    exact VE.nil _
  · kernel_rfl
  change VOk _ _ _ _ _
  refine vseq ?_
  refine vseq ?_
  apply vrp
  · apply VE.cons
    · exact ev_assign rfl (gn rfl)
    simp only [nm, seval]
    exact VE.nil _
  · kernel_rfl
  change VOk _ _ _ _ _
  refine vblock ?_
  refine vloop 3 ?_
  change VOk _ _ _ _ _
  refine vseq ?_
  refine vseq ?_
  apply vrp
  · apply VE.cons
    · exact ev_move rfl (gn rfl)
    simp only [nm, seval]
    apply VE.cons
    · exact ev_move rfl (gn rfl)
    simp only [nm, seval]
    apply VE.cons
    · exact ev_lss (p := true) rfl (gn rfl) rfl rfl (by decide)
    simp only [nm, seval]
    exact VE.nil _
  · kernel_rfl
  change VOk _ _ _ _ _
  refine vcond_t rfl ?_
  refine vskip ?_
  change VOk _ _ _ _ _
  refine vseq ?_
  refine vblock ?_
  apply vrp
  · apply VE.cons
    · exact ev_move rfl (gn rfl)
    simp only [nm, seval]
    apply VE.cons
    · exact ev_bin rfl (gn rfl) rfl rfl (fun w => shl_sm (v := 0) (u := 0) (by decide) rfl _ _ w)
    simp only [nm, seval]
    apply VE.cons
    · exact ev_move rfl (gn rfl)
    simp only [nm, seval]
    apply VE.cons
    · exact ev_move rfl (gn rfl)
    simp only [nm, seval]
    apply VE.cons
    · exact ev_add (c := ((2 : Nat) : Int)) rfl (gn rfl) rfl rfl (by rw [i64w (by omega) (by omega)]; omega)
    simp only [nm, seval]
    apply VE.cons
    · exact ev_idxb (k := 2) rfl (gn rfl) rfl rfl Tryd.underlying9 (rfl) (hx)
    simp only [nm, seval]
    apply VE.cons
    · exact ev_conv rfl (gn rfl) rfl (fun w => cv53 hx w)
    simp only [nm, seval]
    apply VE.cons
    · exact ev_add (c := ((x : Nat) : Int)) rfl (gn rfl) rfl rfl (by rw [i64w (by omega) (by omega)]; omega)
    simp only [nm, seval]
    apply VE.cons
    · exact ev_assign rfl (gn rfl)
    simp only [nm, seval]
    exact VE.nil _
  · kernel_rfl
  change VOk _ _ _ _ _
  apply vrp
  · apply VE.cons
    · exact ev_move rfl (gn rfl)
    simp only [nm, seval]
    apply VE.cons
    · exact ev_add (c := ((1 : Nat) : Int)) rfl (gn rfl) rfl rfl (by rw [i64w (by omega) (by omega)]; omega)
    simp only [nm, seval]
    apply VE.cons
    · exact ev_assign rfl (gn rfl)
    simp only [nm, seval]
    exact VE.nil _
  · kernel_rfl
  change VOk _ _ _ _ _
  refine vseq ?_
  refine vseq ?_
  apply vrp
  · apply VE.cons
    · exact ev_move rfl (gn rfl)
    simp only [nm, seval]
    apply VE.cons
    · exact ev_move rfl (gn rfl)
    simp only [nm, seval]
    apply VE.cons
    · exact ev_lss (p := true) rfl (gn rfl) rfl rfl (by decide)
    simp only [nm, seval]
    exact VE.nil _
  · kernel_rfl
  change VOk _ _ _ _ _
  refine vcond_t rfl ?_
  refine vskip ?_
  change VOk _ _ _ _ _
  refine vseq ?_
  refine vblock ?_
  apply vrp
  · apply VE.cons
    · exact ev_move rfl (gn rfl)
    simp only [nm, seval]
    apply VE.cons
    · exact ev_bin rfl (gn rfl) rfl rfl (fun w => shl_sm (v := x) (u := x * 256) (by omega) rfl _ _ w)
    simp only [nm, seval]
    apply VE.cons
    · exact ev_move rfl (gn rfl)
    simp only [nm, seval]
    apply VE.cons
    · exact ev_move rfl (gn rfl)
    simp only [nm, seval]
    apply VE.cons
    · exact ev_add (c := ((3 : Nat) : Int)) rfl (gn rfl) rfl rfl (by rw [i64w (by omega) (by omega)]; omega)
    simp only [nm, seval]
    apply VE.cons
    · exact ev_idxb (k := 3) rfl (gn rfl) rfl rfl Tryd.underlying9 (rfl) (hy)
    simp only [nm, seval]
    apply VE.cons
    · exact ev_conv rfl (gn rfl) rfl (fun w => cv53 hy w)
    simp only [nm, seval]
    apply VE.cons
    · exact ev_add (c := ((x * 256 + y : Nat) : Int)) rfl (gn rfl) rfl rfl (by rw [i64w (by omega) (by omega)]; omega)
    simp only [nm, seval]
    apply VE.cons
    · exact ev_assign rfl (gn rfl)
    simp only [nm, seval]
    exact VE.nil _
  · kernel_rfl
  change VOk _ _ _ _ _
  apply vrp
  · apply VE.cons
    · exact ev_move rfl (gn rfl)
    simp only [nm, seval]
    apply VE.cons
    · exact ev_add (c := ((2 : Nat) : Int)) rfl (gn rfl) rfl rfl (by rw [i64w (by omega) (by omega)]; omega)
    simp only [nm, seval]
    apply VE.cons
    · exact ev_assign rfl (gn rfl)
    simp only [nm, seval]
    exact VE.nil _
  · kernel_rfl
  change VOk _ _ _ _ _
  refine vseq ?_
  refine vseq ?_
  apply vrp
  · apply VE.cons
    · exact ev_move rfl (gn rfl)
    simp only [nm, seval]
    apply VE.cons
    · exact ev_move rfl (gn rfl)
    simp only [nm, seval]
    apply VE.cons
    · exact ev_lss (p := false) rfl (gn rfl) rfl rfl (by decide)
    simp only [nm, seval]
    exact VE.nil _
  · kernel_rfl
  change VOk _ _ _ _ _
  refine vcond_f rfl ?_
  refine vexit ?_
  change VOk _ _ _ _ _
  apply vrp
  · apply VE.cons
    · exact ev_move rfl (gn rfl)
    simp only [nm, seval]
    apply VE.cons
    · exact ev_add (c := ((4 : Nat) : Int)) rfl (gn rfl) rfl rfl (by rw [i64w (by omega) (by omega)]; omega)
    simp only [nm, seval]
    apply VE.cons
    · exact ev_assign rfl (gn rfl)
    simp only [nm, seval]
    exact VE.nil _
  · kernel_rfl
  change VOk _ _ _ _ _
  exact vforget (fun i => i == 0 || i == 1 || i == 4 || i == 7 || i == 8 || i == 9) [] htail
/-- the head, in one: there is none, or the rest goes on with it. -/
theorem one_head {b : List Nat} {d : Nat} {R : Ending → World → Prop} (w : World) (h8 : ∀ x ∈ b, x < 256) (hbl : b.length ≤ 1048576) (hd9 : d ≤ 9)
    (hno : (d > 8 ∨ (headR b).2.2 = 0) → ∀ e w', (∃ v', e = .returned (.tuple #[v', .string (bstr []), .bool false]) ∧ RetD w w' v' (datR (noT)) ∧ Bw w w') → R e w')
    (hyes : d ≤ 8 → (headR b).2.2 ≠ 0 → ∀ tg n k, headR b = (tg, n, k) → (n < 65536 ∧ k ≤ 4 ∧ tg < 256 ∧ d ≤ 8 ∧ k ≤ b.length) → ∀ f : Nat → Value, VOk Tryd.prog w ⟨[.v (.string (bstr b)), .v (.int .i64 (d : Nat)), .v (f 2), .v (f 3), .p 4 0, .v (f 5), .v (f 6), .p 7 0, .v (.int .i64 (n : Nat)), .v (.int .i64 (k : Nat)), .v (f 10), .v (f 11), .v (f 12), .v (f 13), .v (f 14), .v (f 15), .v (f 16), .v (f 17), .v (f 18), .v (f 19), .v (f 20), .v (f 21), .v (f 22), .v (f 23), .v (f 24), .v (f 25), .v (f 26), .v (f 27), .v (f 28), .v (f 29), .v (f 30), .v (f 31), .v (f 32), .v (f 33), .v (f 34), .v (f 35), .v (f 36), .v (f 37), .v (f 38), .v (f 39), .v (f 40), .v (f 41), .v (f 42), .v (f 43), .v (f 44), .v (f 45), .v (f 46), .v (f 47), .v (f 48), .v (f 49), .v (f 50), .v (f 51), .v (f 52), .v (f 53), .v (f 54), .v (f 55), .v (f 56), .v (f 57), .v (f 58), .v (f 59), .v (f 60), .v (f 61), .v (f 62), .v (f 63), .v (f 64), .v (f 65), .v (f 66), .v (f 67), .v (f 68), .v (f 69), .v (f 70), .v (f 71), .v (f 72), .v (f 73), .v (f 74), .v (f 75), .v (f 76), .v (f 77), .v (f 78), .v (f 79), .v (f 80), .v (f 81), .v (f 82), .v (f 83), .v (f 84), .v (f 85), .v (f 86), .v (f 87), .v (f 88), .v (f 89), .v (f 90), .v (f 91), .v (f 92), .v (f 93), .v (f 94), .v (f 95), .v (f 96), .v (f 97), .v (f 98), .v (f 99), .v (f 100), .v (f 101), .v (f 102), .v (f 103), .v (f 104), .v (f 105), .v (f 106), .v (f 107), .v (f 108), .v (f 109), .v (f 110), .v (f 111), .v (f 112), .v (f 113), .v (f 114), .v (f 115)], memOf [(7, .cells [.v (.int .i64 (tg : Nat)), .v (.string (ByteArray.mk #[])), .v (.slice none 0 0)] 24), (4, .cells [.v (.int .i64 0), .v (.string (ByteArray.mk #[])), .v (.slice none 0 0)] 24)]⟩ (dropSeq 5 (bodyOf Tryd.f40)) (QB Tryd.prog Tryd.f40 w R)) : Calls Tryd.prog 40 #[.string (bstr b), .int .i64 (d : Nat)] w R := by
  by_cases hl : b.length < 2
  · have e : (headR b).2.2 = 0 := by
      match b, hl with
      | [], _ => rfl
      | [_], _ => rfl
      | _ :: _ :: r, hl => simp only [List.length_cons] at hl; omega
    exact (one_short w h8 hbl hd9 hl).mono (hno (.inr e))
  by_cases hd : 8 < d
  · exact (one_deep w h8 hbl hd9 (by omega) hd).mono (hno (.inl hd))
  obtain ⟨t, c, r, rfl⟩ : ∃ t c r, b = t :: c :: r := by
    match b, hl with
    | t :: c :: r, _ => exact ⟨t, c, r, rfl⟩
    | [], hl => simp at hl
    | [_], hl => simp at hl
  have ht := h8 t (by simp)
  have hc := h8 c (by simp)
  simp only [List.length_cons] at hbl
  have hrl : r.length ≤ 1048576 := by omega
  by_cases h1 : c < 128
  · have e : headR (t :: c :: r) = (t, c, 2) := by simp only [headR, decide_eq_true h1, cond_true]
    exact one_ha w ht hc hrl (by omega) h1 (hyes (by omega) (by rw [e]; simp) _ _ _ e ⟨by omega, by omega, ht, by omega, by simp⟩)
  · have e : headR (t :: c :: r) = bif decide (c = 129) && decide (1 ≤ r.length) then (t, r.getD 0 0, 3) else bif decide (c = 130) && decide (2 ≤ r.length) then (t, r.getD 0 0 * 256 + r.getD 1 0, 4) else (0, 0, 0) := by
      simp only [headR, decide_eq_false h1, cond_false]
    by_cases h2 : c = 129
    · subst h2
      match r, h8, hrl, e, hno, hyes with
      | [], _, hrl, e, hno, _ => exact (one_hn2 w ht hc hrl (by omega) (by decide) (by decide) (by simp)).mono (hno (.inr (by rw [e]; rfl)))
      | x :: r, h8, hrl, e, _, hyes =>
        have hx := h8 x (by simp)
        have e' : headR (t :: 129 :: x :: r) = (t, x, 3) := by rw [e, decide_eq_true (p := 1 ≤ (x :: r).length) (by simp)]; rfl
        simp only [List.length_cons] at hrl
        exact one_h1 w ht hx (by omega) (by omega) (hyes (by omega) (by rw [e']; simp) _ _ _ e' ⟨by omega, by omega, ht, by omega, by simp⟩)
    · by_cases h3 : c = 130
      · subst h3
        match r, h8, hrl, e, hno, hyes with
        | [], _, hrl, e, hno, _ => exact (one_hn2 w ht hc hrl (by omega) (by decide) (by decide) (by simp)).mono (hno (.inr (by rw [e]; rfl)))
        | [x], _, hrl, e, hno, _ => exact (one_hn2 w ht hc hrl (by omega) (by decide) (by decide) (by simp)).mono (hno (.inr (by rw [e]; rfl)))
        | x :: y :: r, h8, hrl, e, _, hyes =>
          have hx := h8 x (by simp)
          have hy := h8 y (by simp)
          have e' : headR (t :: 130 :: x :: y :: r) = (t, x * 256 + y, 4) := by rw [e, decide_eq_true (p := 2 ≤ (x :: y :: r).length) (by simp)]; rfl
          simp only [List.length_cons] at hrl
          exact one_h2 w ht hx hy (by omega) (by omega) (hyes (by omega) (by rw [e']; simp) _ _ _ e' ⟨by omega, by omega, ht, by omega, by simp⟩)
      · have e0 : (headR (t :: c :: r)).2.2 = 0 := by rw [e, decide_eq_false h2, decide_eq_false h3]; rfl
        by_cases h4 : c = 128
        · exact (one_hn0 w ht hc hrl (by omega) h4).mono (hno (.inr e0))
        · exact (one_hn1 w ht hc hrl (by omega) (by omega)).mono (hno (.inr e0))
theorem one_ok : ∀ f, OneOK f
  | 0 => fun b d w hd h8 hbl => by
    refine one_head w h8 hbl (by omega) (fun _ e w' h => ?_) (fun h => by omega)
    simp only [oneF]; exact h
  | f + 1 => fun b d w hd h8 hbl => by
    refine one_head w h8 hbl (by omega) (fun h0 e w' h => ?_) (fun hd8 hk0 tg n k hh hb6 g => ?_)
    · have h0' : (headR b).2.2 = 0 := h0.resolve_left (by omega)
      simp only [oneF, decide_eq_true h0', Bool.true_or, cond_true]; exact h
    · have hk : k ≠ 0 := by rw [hh] at hk0; exact hk0
      simp only [oneF, hh, decide_eq_false hk, Bool.false_or]
      by_cases hn : n + k > b.length
      · rw [decide_eq_true hn]; exact one_over w h8 hbl hb6 hn g
      · rw [decide_eq_false hn]
        simp only [cond_false]
        cases hm : madeT tg with
        | false => exact one_leaf w h8 hbl hb6 (by omega) hm g
        | true =>
          obtain ⟨K, hK⟩ : ∃ K, kidsU (oneF f) n ((b.drop k).take n) [] = K := ⟨_, rfl⟩
          have := one_node w h8 hbl hb6 (by omega) hm (one_ok f) (by omega) hK g
          simp only [Bool.not_true, cond_false]
          rw [hK]
          cases K <;> exact this
end Go.Proofs.YtmgmiiongleaeaaDoor
