import Derived.Test.YtdhklekkpkbfeaaDoorSo
namespace Go.Proofs.YtdhklekkpkbfeaaDoor
open Go.RowKit Go.Vx
open Go.Toll (Gw)
open TollSha
set_option maxHeartbeats 4000000
set_option maxRecDepth 100000
theorem flat_le {ls : List (List Nat)} {b : Nat} (h : ∀ l ∈ ls, l.length ≤ b) : ls.flatten.length ≤ b * ls.length := by
  induction ls with
  | nil => simp
  | cons a t ih =>
    have h1 := h a (by simp)
    have h2 := ih fun l hl => h l (by simp [hl])
    simp only [List.flatten_cons, List.length_append, List.length_cons, Nat.mul_add]
    omega
theorem few_le {ls : List (List Nat)} : ∀ l ∈ few ls, l.length ≤ 60 := fun l hl => by
  unfold few at hl
  obtain ⟨m, _, rfl⟩ := List.mem_map.1 hl
  rw [List.length_take]; omega
theorem take_flat {ls : List (List Nat)} {i : Nat} {l : List Nat} (h : ls[i]? = some l) : (ls.take (i + 1)).flatten = (ls.take i).flatten ++ [l].flatten := by
  rw [take_get h, List.flatten_append]
theorem take_flat_le (ls : List (List Nat)) (i : Nat) : (ls.take i).flatten.length ≤ ls.flatten.length := by
  have : ls.flatten = (ls.take i).flatten ++ (ls.drop i).flatten := by rw [← List.flatten_append, List.take_append_drop]
  rw [this, List.length_append]; omega
theorem bytes_empty : ByteArray.mk #[] = bstr [] := rfl
theorem law_tail {v x0 : Value} {lab : List Nat} {ls : List (List Nat)} {F : Nat → Prop} (f : Nat → Value) (w : World) (hL : LaidK w) (hH : LaidH w) (hb1 : 1 < w.heap.size) (hp : PartsAt w v ls F) (hF : ∀ k, F k → k < w.heap.size) (hf8 : ∀ x ∈ ls.flatten, x < 256) (hls : ∀ l ∈ ls, l.length ≤ 60) (hln : ls.length ≤ 6) (hl8 : ∀ x ∈ lab, x < 256) : VOk Tryd.prog w ⟨[.v x0, .v (.string (bstr lab)), .v (f 2), .v (f 3), .v (.bool false), .v v, .v (f 6), .v (f 7), .v (f 8), .v (f 9), .v (f 10), .v (f 11), .v (f 12), .v x0, .v v, .v (f 15), .v (f 16), .v (f 17), .v (f 18), .v (f 19), .v (f 20), .v (f 21), .v (f 22), .v (f 23), .v (f 24), .v (f 25), .v (f 26), .v (f 27), .v (f 28), .v (f 29), .v (f 30), .v (f 31), .v (f 32), .v (f 33), .v (f 34), .v (f 35), .v (f 36), .v (f 37), .v (f 38), .v (f 39), .v (f 40), .v (f 41), .v (f 42), .v (f 43), .v (f 44), .v (f 45), .v (f 46), .v (f 47), .v (f 48), .v (f 49), .v (f 50), .v (f 51), .v (f 52), .v (f 53), .v (f 54), .v (f 55), .v (f 56), .v (f 57), .v (f 58), .v (f 59), .v (f 60), .v (f 61), .v (f 62), .v (f 63), .v (f 64), .v (f 65), .v (f 66), .v (f 67), .v (f 68)], memOf []⟩ (dropSeq 2 (bodyOf Tryd.f3)) (QB Tryd.prog Tryd.f3 w fun e w' => e = .returned (.bool true) ∧ Bw w w') := by
  obtain ⟨vs, hvs, hel⟩ := hp
  obtain ⟨L, hLe⟩ : ∃ L, lab.take 100 = L := ⟨_, rfl⟩
  have hLl : L.length ≤ 100 := by rw [← hLe, List.length_take]; omega
  have hL8 : ∀ x ∈ L, x < 256 := by rw [← hLe]; exact fun x hx => hl8 x (List.mem_of_mem_take hx)
  have hfl : ls.flatten.length ≤ 360 := by have := flat_le hls; omega
  refine vseq ?_
  apply vrp
  · apply VE.cons
    · exact ev_move rfl (gn rfl)
    simp only [nm, seval]
    apply VE.cons
    · exact ev_move rfl (gn rfl)
    simp only [nm, seval]
    apply VE.cons
    · exact ev_lenb rfl (gn rfl) rfl Tryd.underlying9
    simp only [nm, seval]
    apply VE.cons
    · exact ev_min (c := min lab.length 100) (b := 100) rfl (gn rfl) rfl rfl rfl
    simp only [nm, seval]
    apply VE.cons
    · exact ev_cutstr2 (k := min lab.length 100) (a' := L) rfl (gn rfl) rfl rfl Tryd.underlying9 (by omega) (by rw [take100]; exact hLe)
    simp only [nm, seval]
    apply VE.cons
    · exact ev_assign rfl (gn rfl)
    simp only [nm, seval]
    exact VE.nil _
  · kernel_rfl
  change VOk _ _ _ _ _
  refine vseq ?_
  apply vrp
  · apply VE.cons
    · exact ev_callnewst 700 (by decide) hH (fun w h => New_ok w h) rfl rfl (gn rfl) (en_of Tryd.func5 (by kernel_rfl) rfl)
    simp only [nm, seval]
    apply VE.cons
    · exact ev_assign rfl (gn rfl)
    simp only [nm, seval]
    exact VE.nil _
  · kernel_rfl
  change VOk _ _ _ _ _
  refine vseq ?_
  apply vrp
  · apply VE.cons
    · exact ev_assign rfl (gn rfl)
    simp only [nm, seval]
    exact VE.nil _
  · kernel_rfl
  change VOk _ _ _ _ _
  refine vseq ?_
  refine vseq ?_
  apply vrp
  · apply VE.cons
    · exact ev_assign rfl (gn rfl)
    simp only [nm, seval]
    exact VE.nil _
  · kernel_rfl
  change VOk _ _ _ _ _
  refine vblock ?_
  refine vloop_w (α := {x : Nat // x ≤ ls.length}) (fun (x : {x : Nat // x ≤ ls.length}) f => ⟨[.v x0, .v (.string (bstr L)), .v (f 2), .v (f 3), .v (f 4), .v v, .p 801 0, .v (.string (bstr (ls.take x.1).flatten)), .v (.int .i64 (x.1 : Nat)), .v (f 9), .v (f 10), .v (f 11), .v (f 12), .v (f 13), .v (f 14), .v (f 15), .v (f 16), .v (f 17), .v (f 18), .v (f 19), .v (f 20), .v (f 21), .v (f 22), .v (f 23), .v (f 24), .v (f 25), .v (f 26), .v (f 27), .v (f 28), .v (f 29), .v (f 30), .v (f 31), .v (f 32), .v (f 33), .v (f 34), .v (f 35), .v (f 36), .v (f 37), .v (f 38), .v (f 39), .v (f 40), .v (f 41), .v (f 42), .v (f 43), .v (f 44), .v (f 45), .v (f 46), .v (f 47), .v (f 48), .v (f 49), .v (f 50), .v (f 51), .v (f 52), .v (f 53), .v (f 54), .v (f 55), .v (f 56), .v (f 57), .v (f 58), .v (f 59), .v (f 60), .v (f 61), .v (f 62), .v (f 63), .v (f 64), .v (f 65), .v (f 66), .v (f 67), .v (f 68)], memOf [(801, .cells (stL (stH (ls.take x.1).flatten) 802 ((ls.take x.1).flatten).length) 42), (802, .row (stW (ls.take x.1).flatten).length 1 5 (.exact ((stW (ls.take x.1).flatten).map b8)))]⟩) (fun x => ls.length - x.1) ?_ (⟨0, Nat.zero_le _⟩) ?_
  · rintro ⟨i, hi⟩ f
    obtain ⟨q, h_q⟩ : ∃ q, decide (i < ls.length) = q := ⟨_, rfl⟩
    have h_q' := (nat_lt i ls.length).trans h_q
    obtain ⟨a, ha⟩ : ∃ a, (ls.take i).flatten = a := ⟨_, rfl⟩
    have hal : a.length ≤ 360 := by have := take_flat_le ls i; rw [ha] at this; omega
    have ha8 : ∀ x ∈ a, x < 256 := fun x hx => hf8 x (by rw [← ha] at hx; obtain ⟨l, h1, h2⟩ := List.mem_flatten.1 hx; exact List.mem_flatten.2 ⟨l, List.mem_of_mem_take h1, h2⟩)
    rw [ha]
    change VOk _ _ _ _ _
    refine vseq ?_
    refine vseq ?_
    apply vrp
    · apply VE.cons
      · exact ev_move rfl (gn rfl)
      simp only [nm, seval]
      apply VE.cons
      · exact ev_move rfl (gn rfl)
      simp only [nm, seval]
      apply VE.cons
      · exact ev_len rfl (gn rfl) rfl Tryd.underlying22 (rdg_arg hvs)
      simp only [nm, seval]
      apply VE.cons
      · exact ev_lss rfl (gn rfl) rfl rfl h_q'
      simp only [nm, seval]
      exact VE.nil _
    · kernel_rfl
    change VOk _ _ _ _ _
    cases q
    · refine vcond_f rfl ?_
      have hie : i = ls.length := by have := of_decide_eq_false h_q; omega
      refine vexit ?_
      change VOk _ _ _ _ _
      refine vseq ?_
      apply vrp
      · apply VE.cons
        · exact ev_callb (v := .bool true) rfl (gn rfl) rfl (en_of Tryd.func13 (by kernel_rfl) rfl) (fun w' hb => stands_ok w' (hL.bw hb) (hH.bw hb) (Nat.lt_of_lt_of_le hb1 hb.size))
        simp only [nm, seval]
        apply VE.cons
        · exact ev_assign rfl (gn rfl)
        simp only [nm, seval]
        exact VE.nil _
      · kernel_rfl
      change VOk _ _ _ _ _
      refine vret ?_
      refine post_ret (res1 Tryd.results3 (rv_tmp rfl)) ?_
      intro ρ w' hr
      exact ⟨rfl, hr.1⟩
    · refine vcond_t rfl ?_
      have hlt : i < ls.length := of_decide_eq_true h_q
      obtain ⟨l, hl⟩ : ∃ l, ls[i]? = some l := ⟨ls[i], List.getElem?_eq_getElem hlt⟩
      obtain ⟨u, hu1, hu2, hu8⟩ := hel i l hl
      have hll : l.length ≤ 60 := hls l (List.mem_of_getElem? hl)
      obtain ⟨A, hA⟩ : ∃ A, a ++ [l].flatten = A := ⟨_, rfl⟩
      have hAe : A = a ++ l := by rw [← hA, flat1]
      have hAl : A.length ≤ 420 := by rw [hAe, List.length_append]; omega
      have hA8 : ∀ x ∈ A, x < 256 := by rw [hAe]; exact fun x hx => (List.mem_append.1 hx).elim (ha8 x) (hu8 x)
      have hD8 : ∀ x ∈ expand (hmac [] l) (hkinfo L (sha A) 32) 32, x < 256 := expand_lt _ _ _
      refine vskip ?_
      change VOk _ _ _ _ _
      refine vseq ?_
      refine vblock ?_
      refine vseq ?_
      apply vrp
      · apply VE.cons
        · exact ev_move rfl (gn rfl)
        simp only [nm, seval]
        apply VE.cons
        · exact ev_move rfl (gn rfl)
        simp only [nm, seval]
        apply VE.cons
        · exact ev_move rfl (gn rfl)
        simp only [nm, seval]
        apply VE.cons
        · exact ev_idx (k := i) rfl (gn rfl) rfl rfl Tryd.underlying22 Tryd.sizeOf27 (rdg_arg hvs) hlt (by decide)
        simp only [nm, seval]
        apply VE.cons
        · exact ev_loadi rfl (gn rfl) rfl Tryd.underlying27 rfl (rdg_arg hvs) hu1
        simp only [nm, seval]
        apply VE.cons
        · exact ev_buildsl1 (n := 1) (l := [.v u]) [] rfl rfl (gn rfl) rfl (fun ρ S w' hR => by obtain ⟨_, _, rfl, _⟩ := hu2; rfl) rfl rfl bsl1
        simp only [nm, seval]
        apply VE.cons
        · exact (ev_callput (id := 801) (r := 802) (a := a) (ls := [l]) 803 [801, 802, 32] (by decide) hL hb1 rfl (gn rfl) (en_of Tryd.func6 (by kernel_rfl) rfl) rfl rfl rfl rfl rfl rfl (by simp) (by simp) (partsf_put [32] (partsf_own (id := 32) (n := 1) (ls := [l]) (by simp) (by rfl) rfl (by exact ⟨⟨rdgf_arg hu2 hF, hu8⟩, trivial⟩)) (by simp) (by simp) (by simp) (by decide) (by decide) rfl rfl) ha8 (by rw [hA]; omega) (by simp))
        simp only [nm, seval]
        exact VE.nil _
      · kernel_rfl
      change VOk _ _ _ _ _
      refine vseq ?_
      apply vrp
      · apply VE.cons
        · exact ev_move rfl (gn rfl)
        simp only [nm, seval]
        apply VE.cons
        · exact ev_move rfl (gn rfl)
        simp only [nm, seval]
        apply VE.cons
        · exact ev_move rfl (gn rfl)
        simp only [nm, seval]
        apply VE.cons
        · exact ev_idx (k := i) rfl (gn rfl) rfl rfl Tryd.underlying22 Tryd.sizeOf27 (rdg_arg hvs) hlt (by decide)
        simp only [nm, seval]
        apply VE.cons
        · exact ev_loadi rfl (gn rfl) rfl Tryd.underlying27 rfl (rdg_arg hvs) hu1
        simp only [nm, seval]
        apply VE.cons
        · exact ev_convb (bs := l) rfl (gn rfl) rfl Tryd.underlying27 Tryd.underlying5 Tryd.underlying9 (rdg_arg hu2)
        simp only [nm, seval]
        apply VE.cons
        · exact ev_bin (a := .string (bstr a)) (b := .string (bstr l)) (c := .string (bstr A)) rfl (gn rfl) rfl rfl (fun w => by rw [hAe]; exact str_add _ _ (by omega) _ _ w)
        simp only [nm, seval]
        apply VE.cons
        · exact ev_assign rfl (gn rfl)
        simp only [nm, seval]
        exact VE.nil _
      · kernel_rfl
      change VOk _ _ _ _ _
      refine vseq ?_
      apply vrp
      · apply VE.cons
        · exact ev_move rfl (gn rfl)
        simp only [nm, seval]
        apply VE.cons
        · exact ev_move rfl (gn rfl)
        simp only [nm, seval]
        apply VE.cons
        · exact ev_idx (k := i) rfl (gn rfl) rfl rfl Tryd.underlying22 Tryd.sizeOf27 (rdg_arg hvs) hlt (by decide)
        simp only [nm, seval]
        apply VE.cons
        · exact ev_loadi rfl (gn rfl) rfl Tryd.underlying27 rfl (rdg_arg hvs) hu1
        simp only [nm, seval]
        apply VE.cons
        · exact ev_callp (v := .agg ((hmac [] l).map b8).toArray) [] rfl (gn rfl) rfl (en_of Tryd.func7 (by kernel_rfl) rfl) (fun ρ S w' hb hR => Extract_ok (key := []) w' (hL.bw hb) (hH.bw hb) (Nat.lt_of_lt_of_le hb1 hb.size) (F := F) (G := fun _ => False) ⟨none, 0, rfl, Nat.le_refl _, rfl, .inl rfl⟩ (by decide) (by simp) (sl_bw hu2 hb) hu8 (by omega))
        simp only [nm, seval]
        apply VE.cons
        · exact ev_allocr (l := OL []) rfl rfl (gn rfl) Tryd.zeroValue28 rfl
        simp only [nm, seval]
        apply VE.cons
        · first | exact ev_storer (l' := (hmac [] l).map b8) rfl (gn rfl) rfl rfl rfl Tryd.sizeOf28 (by simp [Value.cells, hmac_len]) (by rw [OL_len (by simp)]; decide) (by show ((hmac [] l).map b8).toArray.toList.all _ = true; exact b8_all _) (by rw [List.take_zero, List.nil_append, List.drop_of_length_le (by rw [OL_len (by simp)]; decide), List.append_nil]; simp [Value.cells]) | exact ev_storer (l' := (expand (hmac [] l) (hkinfo L (sha A) 32) 32).map b8) rfl (gn rfl) rfl rfl rfl Tryd.sizeOf28 (by simp [Value.cells, expand_len]) (by rw [OL_len (by simp)]; decide) (by show ((expand (hmac [] l) (hkinfo L (sha A) 32) 32).map b8).toArray.toList.all _ = true; exact b8_all _) (by rw [List.take_zero, List.nil_append, List.drop_of_length_le (by rw [OL_len (by simp)]; decide), List.append_nil]; simp [Value.cells])
        simp only [nm, seval]
        exact VE.nil _
      · kernel_rfl
      change VOk _ _ _ _ _
      refine vseq ?_
      apply vrd (by kernel_rfl)
      · apply VE.cons
        · exact ev_loadr (vs := (hmac [] l).map b8) rfl (gn rfl) rfl rfl Tryd.underlying28 rfl Tryd.sizeOf28 (List.take_of_length_le (by simp [hmac_len])) (by simp [hmac_len])
        simp only [nm, seval]
        apply VE.cons
        · exact ev_move rfl (gn rfl)
        simp only [nm, seval]
        apply VE.cons
        · exact ev_move rfl (gn rfl)
        simp only [nm, seval]
        apply VE.cons
        · exact ev_callp (v := .agg ((sha A).map b8).toArray) [801, 803] rfl (gn rfl) rfl (en_of Tryd.func9 (by kernel_rfl) rfl) (fun ρ S w' hb hR => by subst hA; exact c_sum (id := 801) (r := 803) (a := a ++ [l].flatten) hR (by simp) (by simp) rfl rfl rfl rfl (hL.bw hb) hA8 (by omega))
        simp only [nm, seval]
        apply VE.cons
        · exact ev_callp (v := .agg ((expand (hmac [] l) (hkinfo L (sha A) 32) 32).map b8).toArray) [] rfl (gn rfl) rfl (en_of Tryd.func8 (by kernel_rfl) rfl) (fun ρ S w' hb hR => Derive_ok w' (hL.bw hb) (hH.bw hb) (Nat.lt_of_lt_of_le hb1 hb.size) (hmac_len _ _) (hmac_lt _ _) (sha_lt A) (sha_len A) hL8 (by omega))
        simp only [nm, seval]
        apply VE.cons
        · exact ev_allocr (l := OL []) rfl rfl (gn rfl) Tryd.zeroValue28 rfl
        simp only [nm, seval]
        apply VE.cons
        · first | exact ev_storer (l' := (hmac [] l).map b8) rfl (gn rfl) rfl rfl rfl Tryd.sizeOf28 (by simp [Value.cells]) (by rw [OL_len (by simp)]; decide) (by show ((hmac [] l).map b8).toArray.toList.all _ = true; exact b8_all _) (by rw [List.take_zero, List.nil_append, List.drop_of_length_le (by rw [OL_len (by simp)]; decide), List.append_nil]; simp [Value.cells]) | exact ev_storer (l' := (expand (hmac [] l) (hkinfo L (sha A) 32) 32).map b8) rfl (gn rfl) rfl rfl rfl Tryd.sizeOf28 (by simp [Value.cells, expand_len]) (by rw [OL_len (by simp)]; decide) (by show ((expand (hmac [] l) (hkinfo L (sha A) 32) 32).map b8).toArray.toList.all _ = true; exact b8_all _) (by rw [List.take_zero, List.nil_append, List.drop_of_length_le (by rw [OL_len (by simp)]; decide), List.append_nil]; simp [Value.cells])
        simp only [nm, seval]
        exact VE.nil _
      · kernel_rfl
      change VOk _ _ _ _ _
      refine vseq ?_
      apply vrp
      · apply VE.cons
        · exact ev_move rfl (gn rfl)
        simp only [nm, seval]
        apply VE.cons
        · exact ev_move rfl (gn rfl)
        simp only [nm, seval]
        apply VE.cons
        · exact ev_idx (k := i) rfl (gn rfl) rfl rfl Tryd.underlying22 Tryd.sizeOf27 (rdg_arg hvs) hlt (by decide)
        simp only [nm, seval]
        apply VE.cons
        · exact ev_loadi rfl (gn rfl) rfl Tryd.underlying27 rfl (rdg_arg hvs) hu1
        simp only [nm, seval]
        apply VE.cons
        · exact ev_convb (bs := l) rfl (gn rfl) rfl Tryd.underlying27 Tryd.underlying5 Tryd.underlying9 (rdg_arg hu2)
        simp only [nm, seval]
        apply VE.cons
        · exact ev_callb (v := .string (bstr (hmac [] l))) rfl (gn rfl) rfl (en_of Tryd.func11 (by kernel_rfl) rfl) (fun w' hb => by have := rOf_ok (key := []) (s := l) w' (by decide) (by simp) hu8 (by omega); exact this)
        simp only [nm, seval]
        apply VE.cons
        · exact ev_move rfl (gn rfl)
        simp only [nm, seval]
        apply VE.cons
        · exact ev_move rfl (gn rfl)
        simp only [nm, seval]
        apply VE.cons
        · exact ev_callb (v := .string (bstr (sha A))) rfl (gn rfl) rfl (en_of Tryd.func12 (by kernel_rfl) rfl) (fun w' hb => rSum_ok w' hA8 (by omega))
        simp only [nm, seval]
        apply VE.cons
        · exact ev_callb (v := .tuple #[.string (bstr (expand (hmac [] l) (hkinfo L (sha A) 32) 32)), .int .i64 0]) rfl (gn rfl) rfl (en_of Tryd.func10 (by kernel_rfl) rfl) (fun w' hb => rLabel_ok (n := 32) w' (by rw [hmac_len]; decide) (hmac_lt _ _) (sha_lt A) (by rw [sha_len]; decide) hL8 (by omega) (by decide))
        simp only [nm, seval]
        apply VE.cons
        · exact ev_move rfl (gn rfl)
        simp only [nm, seval]
        apply VE.cons
        · first | exact ev_extract rfl (gn rfl) rfl rfl | exact ev_extractt rfl (gn rfl) rfl rfl
        simp only [nm, seval]
        apply VE.cons
        · first | exact ev_extract rfl (gn rfl) rfl rfl | exact ev_extractt rfl (gn rfl) rfl rfl
        simp only [nm, seval]
        apply VE.cons
        · exact ev_assign rfl (gn rfl)
        simp only [nm, seval]
        apply VE.cons
        · exact ev_assign rfl (gn rfl)
        simp only [nm, seval]
        exact VE.nil _
      · kernel_rfl
      change VOk _ _ _ _ _
      refine vseq ?_
      apply vrp
      · apply VE.cons
        · exact ev_slicea rfl (gn rfl) rfl Tryd.underlying28 Tryd.sizeOf5
        simp only [nm, seval]
        apply VE.cons
        · exact ev_convb (bs := expand (hmac [] l) (hkinfo L (sha A) 32) 32) rfl (gn rfl) rfl Tryd.underlying27 Tryd.underlying5 Tryd.underlying9 (rdg_arr rfl rfl (by simp [expand_len]) (by decide))
        simp only [nm, seval]
        apply VE.cons
        · exact ev_move rfl (gn rfl)
        simp only [nm, seval]
        apply VE.cons
        · exact ev_bin (c := .bool false) rfl (gn rfl) rfl rfl (fun w => str_ne (decide_eq_false (fun h => h rfl)) hD8 hD8 _ _ w)
        simp only [nm, seval]
        exact VE.nil _
      · kernel_rfl
      change VOk _ _ _ _ _
      refine vcond_f rfl ?_
      refine vskip ?_
      change VOk _ _ _ _ _
      apply vrp
      · apply VE.cons
        · exact ev_move rfl (gn rfl)
        simp only [nm, seval]
        apply VE.cons
        · exact ev_add (c := ((i + 1 : Nat) : Int)) rfl (gn rfl) rfl rfl (by rw [i64w (by omega) (by omega)]; omega)
        simp only [nm, seval]
        apply VE.cons
        · exact ev_assign rfl (gn rfl)
        simp only [nm, seval]
        exact VE.nil _
      · kernel_rfl
      refine ⟨⟨i + 1, by omega⟩, by show ls.length - (i + 1) < ls.length - i; omega, ?_⟩
      show Weaker w _ (fun f => ⟨[.v x0, .v (.string (bstr L)), .v (f 2), .v (f 3), .v (f 4), .v v, .p 801 0, .v (.string (bstr (ls.take (i + 1)).flatten)), .v (.int .i64 ((i + 1 : Nat) : Nat)), .v (f 9), .v (f 10), .v (f 11), .v (f 12), .v (f 13), .v (f 14), .v (f 15), .v (f 16), .v (f 17), .v (f 18), .v (f 19), .v (f 20), .v (f 21), .v (f 22), .v (f 23), .v (f 24), .v (f 25), .v (f 26), .v (f 27), .v (f 28), .v (f 29), .v (f 30), .v (f 31), .v (f 32), .v (f 33), .v (f 34), .v (f 35), .v (f 36), .v (f 37), .v (f 38), .v (f 39), .v (f 40), .v (f 41), .v (f 42), .v (f 43), .v (f 44), .v (f 45), .v (f 46), .v (f 47), .v (f 48), .v (f 49), .v (f 50), .v (f 51), .v (f 52), .v (f 53), .v (f 54), .v (f 55), .v (f 56), .v (f 57), .v (f 58), .v (f 59), .v (f 60), .v (f 61), .v (f 62), .v (f 63), .v (f 64), .v (f 65), .v (f 66), .v (f 67), .v (f 68)], memOf [(801, .cells (stL (stH ((ls.take (i + 1)).flatten)) 802 (((ls.take (i + 1)).flatten)).length) 42), (802, .row (stW ((ls.take (i + 1)).flatten)).length 1 5 (.exact ((stW ((ls.take (i + 1)).flatten)).map b8)))]⟩)
      rw [take_flat hl, ha, hA]
      exact (weaker_forget (fun i => i == 0 || i == 1 || i == 5 || i == 6 || i == 7 || i == 8) [32, 9, 10]).trans2 (fun f => weaker_ren 803 802 (by decide) rfl)
  · show Weaker w _ (fun f => ⟨[.v x0, .v (.string (bstr L)), .v (f 2), .v (f 3), .v (f 4), .v v, .p 801 0, .v (.string (bstr (ls.take 0).flatten)), .v (.int .i64 0), .v (f 9), .v (f 10), .v (f 11), .v (f 12), .v (f 13), .v (f 14), .v (f 15), .v (f 16), .v (f 17), .v (f 18), .v (f 19), .v (f 20), .v (f 21), .v (f 22), .v (f 23), .v (f 24), .v (f 25), .v (f 26), .v (f 27), .v (f 28), .v (f 29), .v (f 30), .v (f 31), .v (f 32), .v (f 33), .v (f 34), .v (f 35), .v (f 36), .v (f 37), .v (f 38), .v (f 39), .v (f 40), .v (f 41), .v (f 42), .v (f 43), .v (f 44), .v (f 45), .v (f 46), .v (f 47), .v (f 48), .v (f 49), .v (f 50), .v (f 51), .v (f 52), .v (f 53), .v (f 54), .v (f 55), .v (f 56), .v (f 57), .v (f 58), .v (f 59), .v (f 60), .v (f 61), .v (f 62), .v (f 63), .v (f 64), .v (f 65), .v (f 66), .v (f 67), .v (f 68)], memOf [(801, .cells (stL (stH (ls.take 0).flatten) 802 ((ls.take 0).flatten).length) 42), (802, .row (stW (ls.take 0).flatten).length 1 5 (.exact ((stW (ls.take 0).flatten).map b8)))]⟩)
    rw [List.take_zero, List.flatten_nil]
    show Weaker w _ (fun f => ⟨[.v x0, .v (.string (bstr L)), .v (f 2), .v (f 3), .v (f 4), .v v, .p 801 0, .v (.string (bstr [])), .v (.int .i64 0), .v (f 9), .v (f 10), .v (f 11), .v (f 12), .v (f 13), .v (f 14), .v (f 15), .v (f 16), .v (f 17), .v (f 18), .v (f 19), .v (f 20), .v (f 21), .v (f 22), .v (f 23), .v (f 24), .v (f 25), .v (f 26), .v (f 27), .v (f 28), .v (f 29), .v (f 30), .v (f 31), .v (f 32), .v (f 33), .v (f 34), .v (f 35), .v (f 36), .v (f 37), .v (f 38), .v (f 39), .v (f 40), .v (f 41), .v (f 42), .v (f 43), .v (f 44), .v (f 45), .v (f 46), .v (f 47), .v (f 48), .v (f 49), .v (f 50), .v (f 51), .v (f 52), .v (f 53), .v (f 54), .v (f 55), .v (f 56), .v (f 57), .v (f 58), .v (f 59), .v (f 60), .v (f 61), .v (f 62), .v (f 63), .v (f 64), .v (f 65), .v (f 66), .v (f 67), .v (f 68)], memOf [(801, .cells (stL H0 802 0) 42), (802, .row 0 1 5 (.exact []))]⟩)
    refine (weaker_forget (fun i => i == 0 || i == 1 || i == 5 || i == 6 || i == 7 || i == 8) []).trans2 (fun f => (weaker_ren 20 801 (by decide) rfl).trans2 (fun _ => weaker_ren 700 802 (by decide) rfl))
theorem law_ok {v : Value} {lab : List Nat} {ls : List (List Nat)} {F : Nat → Prop} (w : World) (hL : LaidK w) (hH : LaidH w) (hb1 : 1 < w.heap.size) (hp : PartsAt w v ls F) (hl8 : ∀ x ∈ lab, x < 256) : Calls Tryd.prog 3 #[v, .string (bstr lab)] w fun e w' => e = .returned (.bool true) ∧ Bw w w' := by
  go_enter Tryd.func3, Tryd.ntmps3
  refine wgo ?_
  simp only [List.map_cons, List.map_nil]
  refine wseq ?_
  apply vrp
  · apply VE.cons
    · exact ev_assign rfl (gn rfl)
    simp only [nm, seval]
    exact VE.nil _
  · kernel_rfl
  refine ⟨rfl, ?_⟩
  refine wseq ?_
  apply vrp
  · apply VE.cons
    · exact ev_move rfl (gn rfl)
    simp only [nm, seval]
    apply VE.cons
    · exact ev_calld (D := partsD (few ls)) [] rfl rfl (gn rfl) rfl (en_of Tryd.func4 (by kernel_rfl) rfl) (fun ρ S w' hb hR => Few_ok w' (partsAt_bw hp hb))
    simp only [nm, seval]
    apply VE.cons
    · exact ev_assign rfl (gn rfl)
    simp only [nm, seval]
    exact VE.nil _
  · kernel_rfl
  refine ⟨rfl, ?_⟩
  refine wrebase fun ρ w1 hr => ?_
  obtain ⟨hb, S, hR⟩ := hr
  obtain ⟨v', e1, hp'⟩ := hR.good 14 _ rfl
  simp only [List.cons.injEq, and_true] at e1
  subst e1
  refine wend (R := fun e w' => e = .returned (.bool true) ∧ Bw w1 w') (fun e w' h => ⟨h.1, hb.trans h.2⟩) ?_
  exact law_tail (fun _ => undef) w1 (hL.bw hb) (hH.bw hb) (Nat.lt_of_lt_of_le hb1 hb.size) hp' (fun k hk => hR.lt 14 k rfl hk) (fun x hx => flat_lt hp' x hx) few_le (by rw [few_len]; omega) hl8
end Go.Proofs.YtdhklekkpkbfeaaDoor
