import Derived.Lib.BufferMore
import Derived.Test.YtiidceljhmpgcaaDoorY5
section
namespace Go.Proofs.YtiidceljhmpgcaaDoor
open Go.RowKit Go.Vx
open Go.Toll (Gw)
open TollSha
set_option maxHeartbeats 4000000
set_option maxRecDepth 100000
def KeyAt (w : World) (p : Value) (kf : Nat → Nat) (S : Nat → Prop) : Prop :=
  ∃ g kv, p = .pointer (some ⟨g, 0, none⟩) ∧ S g ∧ w.heap[g]? = some (.cells (tb 512 tT ++ [kv]).toArray 91 (0, 0)) ∧ SlAt w kv 11 16 (tb 176 (keyW kf)) S
theorem KeyAt.keep {w w' : World} {p : Value} {kf : Nat → Nat} {S : Nat → Prop} (h : KeyAt w p kf S) (hk : ∀ k, S k → w'.heap[k]? = w.heap[k]?) : KeyAt w' p kf S := by
  obtain ⟨g, kv, h1, h2, h3, h4⟩ := h
  exact ⟨g, kv, h1, h2, (hk g h2).trans h3, h4.keep hk⟩
def datK (kf : Nat → Nat) : Dat := ⟨fun xs w S => ∃ p, xs = [p] ∧ KeyAt w p kf S, fun ⟨p, e, h⟩ hk => ⟨p, e, h.keep hk⟩⟩
theorem ret_K {w w' : World} {s : VS} {ρ : Nat → Nm} {kf : Nat → Nat} (hr : Rel w ρ s w') (h1 : s.mem 20 = some (.cells (TS tT ++ [.d 902]) 91)) (h2 : s.mem 902 = some (.row 11 16 67 (.exact (tb (16 * 11) (keyW kf))))) : RetD w w' (.pointer (some ⟨(ρ 20).g, 0, none⟩)) (datK kf) := by
  obtain ⟨hb, S, hR⟩ := hr
  have a1 := hR.good 20 _ h1
  obtain ⟨xs, x1, x2, x3⟩ := hR.good 902 _ h2
  have x2' : xs = tb (16 * 11) (keyW kf) := x2
  subst x2'
  have hs := row_sl x3 x1
  have g1 := a1.own True.intro
  have g2 : w.heap.size ≤ (ρ 902).g ∧ (ρ 902).g < w'.heap.size := by
    rcases x3 with ⟨_, h⟩ | ⟨off, cap, cur, fz, _, h3, h4, _⟩
    · cases h
    · exact ⟨h3, (Array.getElem?_eq_some_iff.1 h4).1⟩
  refine ⟨fun k => k = (ρ 20).g ∨ k = (ρ 902).g, ⟨_, rfl, (ρ 20).g, (ρ 902).val, rfl, .inl rfl, ?_, sl_mono hs fun k hk => .inr hk⟩, fun k hk => ?_⟩
  · rw [a1.2, cellsObj, cs_TSx]; rfl
  · rcases hk with rfl | rfl
    · exact g1
    · exact g2
theorem remc {a b c : Nat} (h : a % b = c) (hb : 0 < b) (_hc : a < 4611686018427387904) (p q : Operand) (w : World) : (do eqGuard .rem 3 p q (.int .i64 (a : Nat)) (.int .i64 (b : Nat)); binOp .rem 3 (.int .i64 (a : Nat)) (.int .i64 (b : Nat)) : Sem Value).run Tryd.prog w = .ok (.int .i64 (c : Nat)) w := by
  have e : Int.tmod (a : Int) (b : Int) = (c : Int) := by rw [← h]; rfl
  have e0 : ¬ (b : Int) = 0 := by omega
  generalize (a : Int) = x at e
  generalize (b : Int) = y at e e0
  go_simp
theorem bNew_ok {v : Value} {kf : Nat → Nat} {F : Nat → Prop} (w : World) (hv : SlAt w v 16 1 (tb 16 kf) F) (hf : By kf) : Calls Tryd.prog 26 #[v] w fun e w' => ∃ p, e = .returned (.tuple #[p, .int .i64 0]) ∧ RetD w w' p (datK kf) ∧ Bw w w' := by
  go_enter Tryd.func26, Tryd.ntmps26
  refine ve_go ?_
  simp only [List.map_cons, List.map_nil]
  refine vseq ?_
  apply vrp
  · apply VE.cons
    · exact ev_assign rfl (gn rfl)
    simp only [nm, seval]
    apply VE.cons
    · exact ev_assign rfl (gn rfl)
    simp only [nm, seval]
    exact VE.nil _
  · kernel_rfl
  change VOk _ _ _ _ _
  refine vseq ?_
  refine vseq ?_
  apply vrp
  · apply VE.cons
    · exact ev_move rfl (gn rfl)
    simp only [nm, seval]
    apply VE.cons
    · exact ev_len rfl (gn rfl) rfl Tryd.underlying28 (rdg_arg hv)
    simp only [nm, seval]
    exact VE.nil _
  · kernel_rfl
  change VOk _ _ _ _ _
  refine vblock ?_
  refine vseq ?_
  refine vseq ?_
  apply vrp
  · apply VE.cons
    · exact ev_eql (p := true) rfl (gn rfl) rfl rfl (by decide)
    simp only [nm, seval]
    apply VE.cons
    · exact ev_assign rfl (gn rfl)
    simp only [nm, seval]
    exact VE.nil _
  · kernel_rfl
  change VOk _ _ _ _ _
  refine vcond_t rfl ?_
  refine vskip ?_
  change VOk _ _ _ _ _
  refine vcond_t rfl ?_
  refine vskip ?_
  change VOk _ _ _ _ _
  refine vseq ?_
  apply vrp
  · apply VE.cons
    · exact ev_build (cells := (tb 512 (fun _ => 0) ++ [nilS]).toArray) rfl (gn rfl) rfl built91
    simp only [nm, seval]
    apply VE.cons
    · exact ev_boxk rfl rfl (gn rfl) rfl
    simp only [nm, seval]
    apply VE.cons
    · exact ev_assign rfl (gn rfl)
    simp only [nm, seval]
    exact VE.nil _
  · kernel_rfl
  change VOk _ _ _ _ _
  refine vseq ?_
  apply vrp
  · apply VE.cons
    · exact ev_move rfl (gn rfl)
    simp only [nm, seval]
    apply VE.cons
    · first | exact ev_nil rfl (gn rfl) rfl | exact ev_nilx rfl (gn rfl) rfl
    simp only [nm, seval]
    apply VE.cons
    · first | exact ev_field rfl (gn rfl) rfl Tryd.underlying91 rfl Tryd.sizeOf88 | exact ev_fieldx rfl (gn rfl) rfl Tryd.underlying91 rfl Tryd.sizeOf88
    simp only [nm, seval]
    apply VE.cons
    · exact ev_turnc (L' := TS tT ++ [.v nilS]) [20] rfl (gn rfl) rfl rfl rfl (en_of Tryd.func38 (by kernel_rfl) rfl) (fun ρ S w' hb hR hg => by rw [cs_TS]; exact ready_ok (by rw [hg, cellsObj, cs_TS]))
    simp only [nm, seval]
    exact VE.nil _
  · kernel_rfl
  change VOk _ _ _ _ _
  refine vseq ?_
  apply vrp
  · apply VE.cons
    · exact ev_move rfl (gn rfl)
    simp only [nm, seval]
    apply VE.cons
    · exact ev_len rfl (gn rfl) rfl Tryd.underlying28 (rdg_arg hv)
    simp only [nm, seval]
    apply VE.cons
    · exact ev_bin (c := .int .i64 4) rfl (gn rfl) rfl rfl (fun w => by kernel_rfl)
    simp only [nm, seval]
    apply VE.cons
    · exact ev_assign rfl (gn rfl)
    simp only [nm, seval]
    exact VE.nil _
  · kernel_rfl
  change VOk _ _ _ _ _
  refine vseq ?_
  apply vrp
  · apply VE.cons
    · exact ev_assign rfl (gn rfl)
    simp only [nm, seval]
    exact VE.nil _
  · kernel_rfl
  change VOk _ _ _ _ _
  refine vseq ?_
  apply vrp
  · apply VE.cons
    · exact ev_move rfl (gn rfl)
    simp only [nm, seval]
    apply VE.cons
    · exact ev_move rfl (gn rfl)
    simp only [nm, seval]
    apply VE.cons
    · exact ev_append0 rfl rfl (gn rfl) rfl rfl (rdg_arg hv) Tryd.underlying28 el5 (by decide) tb_one (by simp only [maxLen]; omega) (by omega) tb_len
    simp only [nm, seval]
    apply VE.cons
    · exact ev_assign rfl (gn rfl)
    simp only [nm, seval]
    exact VE.nil _
  · kernel_rfl
  change VOk _ _ _ _ _
  refine vseq ?_
  apply vrp
  · apply VE.cons
    · exact ev_assign rfl (gn rfl)
    simp only [nm, seval]
    exact VE.nil _
  · kernel_rfl
  change VOk _ _ _ _ _
  refine vseq ?_
  apply vrp
  · apply VE.cons
    · exact ev_move rfl (gn rfl)
    simp only [nm, seval]
    apply VE.cons
    · refine ev_pure' (gn rfl) (fun ρ w => by simp only [VS.act, SV.c, List.map_cons, List.map_nil]; go_simp; exact rfl) (fun _ _ => rfl)
    simp only [nm, seval]
    apply VE.cons
    · refine ev_pure' (gn rfl) (fun ρ w => by simp only [VS.act, SV.c, List.map_cons, List.map_nil]; go_simp; exact rfl) (fun _ _ => rfl)
    simp only [nm, seval]
    apply VE.cons
    · refine ev_pure' (gn rfl) (fun ρ w => by simp only [VS.act, SV.c, List.map_cons, List.map_nil]; go_simp; exact rfl) (fun _ _ => rfl)
    simp only [nm, seval]
    apply VE.cons
    · exact ev_assign rfl (gn rfl)
    simp only [nm, seval]
    exact VE.nil _
  · kernel_rfl
  change VOk _ _ _ _ _
  refine vseq ?_
  refine vseq ?_
  apply vrp
  · apply VE.cons
    · exact ev_move rfl (gn rfl)
    simp only [nm, seval]
    apply VE.cons
    · exact ev_assign rfl (gn rfl)
    simp only [nm, seval]
    exact VE.nil _
  · kernel_rfl
  change VOk _ _ _ _ _
  refine vblock ?_
  refine vloop_w (α := {r : Nat // r ≤ 40}) (fun (x : {r : Nat // r ≤ 40}) g => ⟨.v v :: .v (g 1) :: .v (g 2) :: .v (g 3) :: .p 20 0 :: .v (.int .i64 4) :: .d 901 :: .v (b8 (ks kf x.1).2) :: .v (.int .i64 176) :: .v (.int .i64 ((4 + x.1 : Nat) : Int)) :: .v (g 10) :: .v (g 11) :: .v (g 12) :: .v (g 13) :: .v (g 14) :: .v (g 15) :: .v (g 16) :: .v (g 17) :: .v (g 18) :: .v (g 19) :: .v (g 20) :: .v (g 21) :: .v (g 22) :: .v (g 23) :: .v (g 24) :: .v (g 25) :: .v (g 26) :: .v (g 27) :: .v (g 28) :: .v (g 29) :: .v (g 30) :: .v (g 31) :: .v (g 32) :: .v (g 33) :: .v (g 34) :: .v (g 35) :: .v (g 36) :: .v (g 37) :: .v (g 38) :: .v (g 39) :: .v (g 40) :: .v (g 41) :: .v (g 42) :: .v (g 43) :: .v (g 44) :: .v (g 45) :: .v (g 46) :: .v (g 47) :: .v (g 48) :: .v (g 49) :: .v (g 50) :: .v (g 51) :: .v (g 52) :: .v (g 53) :: .v (g 54) :: .v (g 55) :: .v (g 56) :: .v (g 57) :: .v (g 58) :: .v (g 59) :: .v (g 60) :: .v (g 61) :: .v (g 62) :: .v (g 63) :: .v (g 64) :: .v (g 65) :: .v (g 66) :: .v (g 67) :: .v (g 68) :: .v (g 69) :: .v (g 70) :: .v (g 71) :: .v (g 72) :: .v (g 73) :: .v (g 74) :: .v (g 75) :: .v (g 76) :: .v (g 77) :: .v (g 78) :: .v (g 79) :: .v (g 80) :: .v (g 81) :: .v (g 82) :: .v (g 83) :: .v (g 84) :: .v (g 85) :: .v (g 86) :: .v (g 87) :: .v (g 88) :: .v (g 89) :: .v (g 90) :: .v (g 91) :: .v (g 92) :: .v (g 93) :: .v (g 94) :: .v (g 95) :: .v (g 96) :: .v (g 97) :: .v (g 98) :: .v (g 99) :: .v (g 100) :: .v (g 101) :: .v (g 102) :: .v (g 103) :: .v (g 104) :: .v (g 105) :: .v (g 106) :: .v (g 107) :: .v (g 108) :: .v (g 109) :: .v (g 110) :: .v (g 111) :: .v (g 112) :: .v (g 113) :: .v (g 114) :: .v (g 115) :: .v (g 116) :: .v (g 117) :: .v (g 118) :: .v (g 119) :: .v (g 120) :: .v (g 121) :: .v (g 122) :: .v (g 123) :: .v (g 124) :: .v (g 125) :: .v (g 126) :: .v (g 127) :: .v (g 128) :: .v (g 129) :: .v (g 130) :: .v (g 131) :: .v (g 132) :: .v (g 133) :: .v (g 134) :: .v (g 135) :: .v (g 136) :: .v (g 137) :: .v (g 138) :: .v (g 139) :: .v (g 140) :: .v (g 141) :: .v (g 142) :: .v (g 143) :: .v (g 144) :: .v (g 145) :: .v (g 146) :: .v (g 147) :: .v (g 148) :: .v (g 149) :: .v (g 150) :: .v (g 151) :: .v (g 152) :: .v (g 153) :: .v (g 154) :: .v (g 155) :: .v (g 156) :: .v (g 157) :: .v (g 158) :: .v (g 159) :: .v (g 160) :: .v (g 161) :: .v (g 162) :: .v (g 163) :: .v (g 164) :: .v (g 165) :: .v (g 166) :: .v (g 167) :: .v (g 168) :: .v (g 169) :: .v (g 170) :: .v (g 171) :: .v (g 172) :: .v (g 173) :: [], memOf [(901, .row (16 + 4 * x.1) 1 5 (.exact (tb (16 + 4 * x.1) (ks kf x.1).1))), (20, .cells (TS tT ++ [.v nilS]) 91)]⟩) (fun x => 40 - x.1) ?_ (⟨0, Nat.zero_le _⟩) ?_
  · rintro ⟨r, hr⟩ g
    obtain ⟨q, hq⟩ : ∃ q, decide (((16 + 4 * r : Nat) : Int) < 176) = q := ⟨_, rfl⟩
    obtain ⟨q4, hq4⟩ : ∃ q, decide (((r % 4 : Nat) : Int) = 0) = q := ⟨_, rfl⟩
    have hby := ks_by hf r
    have hWb := ks_by hf (r + 1)
    have hold : ∀ k, k < 16 + 4 * r → (ks kf (r + 1)).1 k = (ks kf r).1 k := fun k hk => ks_old kf hk
    have hnew := ks_new kf r
    have hc1 := ks_c1 kf (r := r)
    have hc0 := ks_c0 kf (r := r)
    obtain ⟨Wn, hW⟩ : ∃ z, (ks kf (r + 1)).1 = z := ⟨_, rfl⟩
    obtain ⟨cn, hcn⟩ : ∃ z, (ks kf (r + 1)).2 = z := ⟨_, rfl⟩
    obtain ⟨f, hfr⟩ : ∃ z, (ks kf r).1 = z := ⟨_, rfl⟩
    obtain ⟨c, hcr⟩ : ∃ z, (ks kf r).2 = z := ⟨_, rfl⟩
    rw [hfr, hcr] at hby
    rw [hW, hcn] at hWb
    rw [hW, hfr] at hold
    rw [hW, hfr, hcr] at hnew
    rw [hcn, hcr] at hc1 hc0
    obtain ⟨hfb, hcb⟩ := hby
    obtain ⟨hWb, hcnb⟩ := hWb
    simp only [hfr, hcr]
    obtain ⟨X, hX⟩ : ∃ z : Nat → Nat, (fun j => f (12 + 4 * r + j)) = z := ⟨_, rfl⟩
    have hXb : By X := by rw [← hX]; exact fun j => hfb _
    change VOk _ _ _ _ _
    refine vseq ?_
    refine vseq ?_
    apply vrp
    · apply VE.cons
      · exact ev_move rfl (gn rfl)
      simp only [nm, seval]
      apply VE.cons
      · exact ev_len rfl (gn rfl) rfl Tryd.underlying28 (rdg_row rfl)
      simp only [nm, seval]
      apply VE.cons
      · exact ev_move rfl (gn rfl)
      simp only [nm, seval]
      apply VE.cons
      · exact ev_lss rfl (gn rfl) rfl rfl hq
      simp only [nm, seval]
      exact VE.nil _
    · kernel_rfl
    change VOk _ _ _ _ _
    cases q
    · refine vcond_f rfl ?_
      have hN : r = 40 := by have := of_decide_eq_false hq; omega
      subst hN
      refine vexit ?_
      change VOk _ _ _ _ _
      refine vseq ?_
      refine vblock ?_
      refine vloop_w (α := {m : Nat // m ≤ 11}) (fun (x : {m : Nat // m ≤ 11}) g => ⟨.v v :: .v (g 1) :: .v (g 2) :: .v (g 3) :: .p 20 0 :: .v (g 5) :: .d 901 :: .v (g 7) :: .v (g 8) :: .v (g 9) :: .v (g 10) :: .v (g 11) :: .v (g 12) :: .v (g 13) :: .v (g 14) :: .v (g 15) :: .v (g 16) :: .v (g 17) :: .v (g 18) :: .v (g 19) :: .v (g 20) :: .v (g 21) :: .v (g 22) :: .v (g 23) :: .v (g 24) :: .v (g 25) :: .v (g 26) :: .v (g 27) :: .v (g 28) :: .v (g 29) :: .v (g 30) :: .v (g 31) :: .v (g 32) :: .v (g 33) :: .v (g 34) :: .v (g 35) :: .v (g 36) :: .v (g 37) :: .v (g 38) :: .v (g 39) :: .v (g 40) :: .v (g 41) :: .v (g 42) :: .v (g 43) :: .v (g 44) :: .v (g 45) :: .v (g 46) :: .v (g 47) :: .v (g 48) :: .v (g 49) :: .v (g 50) :: .v (g 51) :: .v (g 52) :: .v (g 53) :: .v (g 54) :: .v (g 55) :: .v (g 56) :: .v (g 57) :: .v (g 58) :: .v (g 59) :: .v (g 60) :: .v (g 61) :: .v (g 62) :: .v (g 63) :: .v (g 64) :: .v (g 65) :: .v (g 66) :: .v (g 67) :: .v (g 68) :: .v (g 69) :: .v (g 70) :: .v (g 71) :: .v (g 72) :: .v (g 73) :: .v (g 74) :: .v (g 75) :: .v (g 76) :: .v (g 77) :: .v (g 78) :: .v (g 79) :: .v (g 80) :: .v (g 81) :: .v (g 82) :: .v (g 83) :: .v (g 84) :: .v (g 85) :: .v (g 86) :: .v (g 87) :: .v (g 88) :: .v (g 89) :: .v (g 90) :: .v (g 91) :: .v (g 92) :: .v (g 93) :: .v (g 94) :: .v (g 95) :: .v (g 96) :: .v (g 97) :: .v (g 98) :: .v (g 99) :: .v (g 100) :: .v (g 101) :: .v (g 102) :: .v (g 103) :: .v (g 104) :: .v (g 105) :: .v (g 106) :: .v (g 107) :: .v (g 108) :: .v (g 109) :: .v (g 110) :: .v (g 111) :: .v (g 112) :: .v (g 113) :: .v (g 114) :: .v (g 115) :: .v (g 116) :: .v (g 117) :: .v (g 118) :: .v (g 119) :: .v (g 120) :: .v (g 121) :: .v (g 122) :: .v (g 123) :: .v (g 124) :: .v (g 125) :: .v (g 126) :: .v (g 127) :: .v (g 128) :: .v (g 129) :: .v (g 130) :: .v (g 131) :: .v (g 132) :: .v (g 133) :: .v (g 134) :: .v (g 135) :: .v (g 136) :: .v (g 137) :: .v (g 138) :: .v (g 139) :: .v (g 140) :: .v (g 141) :: .v (g 142) :: .v (g 143) :: .v (g 144) :: .v (g 145) :: .v (g 146) :: .v (g 147) :: .v (g 148) :: .v (g 149) :: .v (g 150) :: .v (g 151) :: .v (g 152) :: .v (g 153) :: .v (g 154) :: .v (g 155) :: .v (g 156) :: .v (g 157) :: .v (g 158) :: .v (g 159) :: .v (g 160) :: .v (g 161) :: .v (g 162) :: .v (g 163) :: .v (g 164) :: .v (g 165) :: .v (g 166) :: .v (g 167) :: .v (g 168) :: .v (g 169) :: .v (g 170) :: .v (g 171) :: .v (g 172) :: .v (g 173) :: [], memOf [(901, .row (176 - 16 * x.1) 1 5 (.exact (tb (176 - 16 * x.1) fun k => keyW kf (16 * x.1 + k)))), (902, .row x.1 16 67 (.exact (tb (16 * x.1) (keyW kf)))), (20, .cells (TS tT ++ [.d 902]) 91)]⟩) (fun x => 11 - x.1) ?_ (⟨0, Nat.zero_le _⟩) ?_
      · rintro ⟨m, hm⟩ g
        obtain ⟨q6, hq6⟩ : ∃ q, decide (((176 - 16 * m : Nat) : Int) > 0) = q := ⟨_, rfl⟩
        change VOk _ _ _ _ _
        refine vseq ?_
        refine vseq ?_
        apply vrp
        · apply VE.cons
          · exact ev_move rfl (gn rfl)
          simp only [nm, seval]
          apply VE.cons
          · exact ev_len rfl (gn rfl) rfl Tryd.underlying28 (rdg_row rfl)
          simp only [nm, seval]
          apply VE.cons
          · exact ev_gtr rfl (gn rfl) rfl rfl hq6
          simp only [nm, seval]
          exact VE.nil _
        · kernel_rfl
        change VOk _ _ _ _ _
        cases q6
        · refine vcond_f rfl ?_
          have hN : m = 11 := by have := of_decide_eq_false hq6; omega
          subst hN
          refine vexit ?_
          change VOk _ _ _ _ _
          refine vseq ?_
          apply vrp
          · apply VE.cons
            · exact ev_move rfl (gn rfl)
            simp only [nm, seval]
            apply VE.cons
            · exact ev_assign rfl (gn rfl)
            simp only [nm, seval]
            apply VE.cons
            · exact ev_assign rfl (gn rfl)
            simp only [nm, seval]
            exact VE.nil _
          · kernel_rfl
          change VOk _ _ _ _ _
          refine vret ?_
          refine post_ret (res2 Tryd.results26 (rv_tmp rfl) (rv_tmp rfl)) ?_
          intro ρ w' hr
          exact ⟨_, rfl, ret_K hr rfl rfl, hr.1⟩
        · refine vcond_t rfl ?_
          have hlm : m < 11 := by have := of_decide_eq_true hq6; omega
          refine vskip ?_
          change VOk _ _ _ _ _
          refine vseq ?_
          refine vblock ?_
          apply vrd (by kernel_rfl)
          · apply VE.cons
            · exact ev_move rfl (gn rfl)
            simp only [nm, seval]
            apply VE.cons
            · exact ev_move rfl (gn rfl)
            simp only [nm, seval]
            apply VE.cons
            · first | exact ev_nil rfl (gn rfl) rfl | exact ev_nilx rfl (gn rfl) rfl
            simp only [nm, seval]
            apply VE.cons
            · first | exact ev_field rfl (gn rfl) rfl Tryd.underlying91 rfl Tryd.sizeOf89 | exact ev_fieldx rfl (gn rfl) rfl Tryd.underlying91 rfl Tryd.sizeOf89
            simp only [nm, seval]
            apply VE.cons
            · exact ev_load1 rfl (gn rfl) rfl rfl Tryd.underlying89 rfl TS_get2
            simp only [nm, seval]
            apply VE.cons
            · exact ev_move rfl (gn rfl)
            simp only [nm, seval]
            apply VE.cons
            · exact ev_cut (a := 0) (b := 16) rfl (gn rfl) rfl Tryd.underlying28 Tryd.sizeOf5 (rdg_row rfl) rfl rfl (by omega) (by omega)
            simp only [nm, seval]
            apply VE.cons
            · exact ev_arrs rfl (gn rfl) rfl Tryd.underlying67 (rdg_sub (lo := 0) (hi := 16) (n' := 16) (l' := tb 16 (fun k => keyW kf (16 * m + k))) (rdg_row rfl) (by omega) (by omega) (by rw [Nat.zero_mul, List.drop_zero]; exact tb_take _ _ _ (by omega)) rfl) (by omega)
            simp only [nm, seval]
            apply VE.cons
            · exact ev_loadarr (vs := tb 16 (fun k => keyW kf (16 * m + k))) rfl (gn rfl) rfl Tryd.underlying67 rfl Tryd.sizeOf67 (rdg_sub (lo := 0) (hi := 16) (n' := 16) (l' := tb 16 (fun k => keyW kf (16 * m + k))) (rdg_row rfl) (by omega) (by omega) (by rw [Nat.zero_mul, List.drop_zero]; exact tb_take _ _ _ (by omega)) rfl) (List.take_of_length_le (by rw [tb_len]; omega)) tb_len (by decide)
            simp only [nm, seval]
            apply VE.cons
            · exact ev_bsl (size := 16) (ys := [.v (A16 (fun k => keyW kf (16 * m + k)))]) (ls := [(tb 16 (fun k => keyW kf (16 * m + k))).map .v]) (l := (tb 16 (fun k => keyW kf (16 * m + k))).map .v) [] rfl rfl (gn rfl) rfl rfl rfl (fun ρ S w' hb hR j y lj hy hl => by rcases j with _ | j <;> simp at hy hl; subst hy hl; rw [cs_vs]; simp [SV.c, Value.cells]) (fun lj hl => by simp at hl; subst hl; simp [tb_len]) (by simp) (hasL_vs _ _) Tryd.underlying89 (by kernel_rfl) (by kernel_rfl) (by decide) (by decide)
            simp only [nm, seval]
            apply VE.cons
            · exact ev_append (size := 16) rfl rfl (gn rfl) rfl rfl rfl (rdg_cells (size := 16) (l := tb 16 (fun k => keyW kf (16 * m + k))) rfl (unV_tb _ True.intro) tb_len (Nat.le_refl _)) Tryd.underlying89 el67 (by decide) (by rw [tb_len]; omega) tb_one (by simp only [maxLen]; omega) (by omega) tb_len
            simp only [nm, seval]
            apply VE.cons
            · first | exact ev_nil rfl (gn rfl) rfl | exact ev_nilx rfl (gn rfl) rfl
            simp only [nm, seval]
            apply VE.cons
            · first | exact ev_field rfl (gn rfl) rfl Tryd.underlying91 rfl Tryd.sizeOf89 | exact ev_fieldx rfl (gn rfl) rfl Tryd.underlying91 rfl Tryd.sizeOf89
            simp only [nm, seval]
            apply VE.cons
            · exact ev_storeR (vl := [.d 170]) [20, 170] rfl (gn rfl) rfl rfl rfl Tryd.sizeOf89 rfl (fun ρ S w' hb hR => by obtain ⟨_, ao, cap, h3, _⟩ := rdg_mono (rdg_row (id := 170) rfl) (by decide) ρ S w' hb hR; show (SV.c ρ (.d 170)).cells.toList = SV.cs ρ [.d 170] ∧ (SV.cs ρ [.d 170]).all (·.oneCell') = true; simp only [SV.cs, h3]; exact ⟨rfl, rfl⟩) rfl (by rw [List.length_append, TS_len]; decide)
            simp only [nm, seval]
            exact VE.nil _
          · kernel_rfl
          change VOk _ _ _ _ _
          apply vrp
          · apply VE.cons
            · exact ev_move rfl (gn rfl)
            simp only [nm, seval]
            apply VE.cons
            · exact ev_cuttail (a := 16) (m := 176 - 16 * (m + 1)) (l' := tb (176 - 16 * (m + 1)) fun k => keyW kf (16 * (m + 1) + k)) rfl rfl (gn rfl) rfl rfl Tryd.underlying28 Tryd.sizeOf5 rfl (by omega) (by rw [Nat.mul_one, tb_drop _ 16 _ (176 - 16 * (m + 1)) (by omega)]; exact tb_ext fun k _ => by rw [show 16 * m + (16 + k) = 16 * (m + 1) + k by omega]) (by rw [tb_len]; omega) (by omega)
            simp only [nm, seval]
            apply VE.cons
            · exact ev_assign rfl (gn rfl)
            simp only [nm, seval]
            exact VE.nil _
          · kernel_rfl
          rw [TS_put, tb_app, show 16 * m + 16 = 16 * (m + 1) by omega]
          exact ⟨⟨m + 1, by omega⟩, by show 11 - (m + 1) < 11 - m; omega, (weaker_forget (fun i => i == 0 || i == 4 || i == 6) [169, 901, 902]).trans2 (fun _ => (weaker_ren 159 901 (by decide) rfl).trans2 (fun _ => weaker_ren 170 902 (by decide) rfl))⟩
      · have eK : tb (16 + 4 * 40) f = tb (176 - 16 * 0) (fun k => keyW kf (16 * 0 + k)) := by rw [← hfr]; exact tb_ext (fun k _ => by rw [Nat.mul_zero, Nat.zero_add]; rfl)
        rw [eK]
        refine (weaker_forget (fun i => i == 0 || i == 4 || i == 6) []).trans2 (fun _ => (weaker_name 902 16 67 (.exact []) (fun w => rfl) (m' := [(901, .row (176 - 16 * 0) 1 5 (.exact (tb (176 - 16 * 0) fun k => keyW kf (16 * 0 + k)))), (20, .cells (TS tT ++ [.d 902]) 91)]) rfl rfl (fun _ _ => rfl) (fun ρ hv => ?_)).trans2 (fun _ => weaker_swap (a := (902, _)) (b := (901, _)) (show (902 : Nat) ≠ 901 by decide)))
        simp [memSim, memDel, Blk.sim, cs_TSx, SV.c, hv, nilV]
    · refine vcond_t rfl ?_
      have hlt : r < 40 := by have := of_decide_eq_true hq; omega
      refine vskip ?_
      change VOk _ _ _ _ _
      refine vseq ?_
      refine vblock ?_
      refine vseq ?_
      apply vrp
      · apply VE.cons
        · exact ev_move rfl (gn rfl)
        simp only [nm, seval]
        apply VE.cons
        · exact ev_move rfl (gn rfl)
        simp only [nm, seval]
        apply VE.cons
        · exact ev_len rfl (gn rfl) rfl Tryd.underlying28 (rdg_row rfl)
        simp only [nm, seval]
        apply VE.cons
        · exact ev_sub (c := ((12 + 4 * r : Nat) : Int)) rfl (gn rfl) rfl rfl (by rw [i64w (by omega) (by omega)]; omega)
        simp only [nm, seval]
        apply VE.cons
        · exact ev_cut (a := 12 + 4 * r) (b := 16 + 4 * r) rfl (gn rfl) rfl Tryd.underlying28 Tryd.sizeOf5 (rdg_row rfl) rfl rfl (by omega) (by omega)
        simp only [nm, seval]
        apply VE.cons
        · exact ev_arrs rfl (gn rfl) rfl Tryd.underlying92 (rdg_sub (lo := 12 + 4 * r) (hi := 16 + 4 * r) (n' := 4) (l' := tb 4 X) (rdg_row rfl) (by omega) (by omega) (by rw [Nat.mul_one, Nat.mul_one, tb_drop (16 + 4 * r) (12 + 4 * r) f 4 (by omega), hX]; exact List.take_of_length_le (by rw [tb_len]; omega)) (by omega)) (by omega)
        simp only [nm, seval]
        apply VE.cons
        · exact ev_loadarr (vs := tb 4 X) rfl (gn rfl) rfl Tryd.underlying92 rfl Tryd.sizeOf92 (rdg_sub (lo := 12 + 4 * r) (hi := 16 + 4 * r) (n' := 4) (l' := tb 4 X) (rdg_row rfl) (by omega) (by omega) (by rw [Nat.mul_one, Nat.mul_one, tb_drop (16 + 4 * r) (12 + 4 * r) f 4 (by omega), hX]; exact List.take_of_length_le (by rw [tb_len]; omega)) (by omega)) (List.take_of_length_le (by rw [tb_len]; omega)) tb_len (by decide)
        simp only [nm, seval]
        apply VE.cons
        · exact ev_allocr (l := tb 4 fun _ => 0) rfl rfl (gn rfl) Tryd.zeroValue92 rfl
        simp only [nm, seval]
        apply VE.cons
        · exact ev_sta rfl (gn rfl) rfl rfl rfl Tryd.sizeOf92
        simp only [nm, seval]
        exact VE.nil _
      · kernel_rfl
      change VOk _ _ _ _ _
      refine vseq ?_
      refine vblock ?_
      refine vseq ?_
      apply vrp
      · apply VE.cons
        · exact ev_move rfl (gn rfl)
        simp only [nm, seval]
        apply VE.cons
        · exact ev_move rfl (gn rfl)
        simp only [nm, seval]
        apply VE.cons
        · exact ev_bin rfl (gn rfl) rfl rfl (fun w => remc (a := 4 + r) (b := 4) (c := r % 4) (by omega) (by decide) (by omega) _ _ w)
        simp only [nm, seval]
        apply VE.cons
        · exact ev_eql rfl (gn rfl) rfl rfl hq4
        simp only [nm, seval]
        apply VE.cons
        · exact ev_assign rfl (gn rfl)
        simp only [nm, seval]
        exact VE.nil _
      · kernel_rfl
      change VOk _ _ _ _ _
      cases q4
      · refine vcond_f rfl ?_
        have hr4 : ¬ r % 4 = 0 := by have := of_decide_eq_false hq4; omega
        have hXe : tb 4 X = tb 4 (xr f c r) := tb_ext fun j _ => by rw [← hX]; unfold xr; rw [if_neg hr4]
        have hcc := hc0 hr4
        rw [hXe]
        refine vseq ?_
        apply vrp
        · apply VE.cons
          · exact ev_move rfl (gn rfl)
          simp only [nm, seval]
          apply VE.cons
          · exact ev_eql (p := false) rfl (gn rfl) rfl rfl (by decide)
          simp only [nm, seval]
          apply VE.cons
          · exact ev_move rfl (gn rfl)
          simp only [nm, seval]
          apply VE.cons
          · first | exact Ev.skip (fun _ => rfl) | exact ev_move rfl (fun _ => rfl)
          simp only [nm, seval]
          apply VE.cons
          · first | exact Ev.skip (fun _ => rfl) | exact ev_move rfl (fun _ => rfl)
          simp only [nm, seval]
          apply VE.cons
          · first | exact Ev.skip (fun _ => rfl) | refine ev_pure' (fun _ => rfl) (fun ρ w => by simp only [VS.act, SV.c, List.map_cons, List.map_nil]; go_simp; exact rfl) (fun _ _ => rfl)
          simp only [nm, seval]
          apply VE.cons
          · first | exact Ev.skip (fun _ => rfl) | refine ev_pure' (fun _ => rfl) (fun ρ w => by simp only [VS.act, SV.c, List.map_cons, List.map_nil]; go_simp; exact rfl) (fun _ _ => rfl)
          simp only [nm, seval]
          apply VE.cons
          · first | exact ev_pick_t rfl (gn rfl) rfl rfl | exact ev_pick_f rfl (gn rfl) rfl rfl
          simp only [nm, seval]
          apply VE.cons
          · exact ev_assign rfl (gn rfl)
          simp only [nm, seval]
          exact VE.nil _
        · kernel_rfl
        change VOk _ _ _ _ _
        refine vcond_f rfl ?_
        refine vskip ?_
        change VOk _ _ _ _ _
        refine vseq ?_
        apply vrp
        · apply VE.cons
          · exact ev_move rfl (gn rfl)
          simp only [nm, seval]
          apply VE.cons
          · exact ev_len rfl (gn rfl) rfl Tryd.underlying28 (rdg_row rfl)
          simp only [nm, seval]
          apply VE.cons
          · exact ev_move rfl (gn rfl)
          simp only [nm, seval]
          apply VE.cons
          · exact ev_bin rfl (gn rfl) rfl rfl (fun w => mulc (a := 4) (b := 4) (c := 16) rfl (by decide) _ _ w)
          simp only [nm, seval]
          apply VE.cons
          · exact ev_sub (c := ((4 * r : Nat) : Int)) rfl (gn rfl) rfl rfl (by rw [i64w (by omega) (by omega)]; omega)
          simp only [nm, seval]
          apply VE.cons
          · exact ev_assign rfl (gn rfl)
          simp only [nm, seval]
          exact VE.nil _
        · kernel_rfl
        change VOk _ _ _ _ _
        refine vseq ?_
        apply vrp
        · apply VE.cons
          · exact ev_ldt rfl (gn rfl) rfl rfl Tryd.underlying92 rfl Tryd.sizeOf92
          simp only [nm, seval]
          apply VE.cons
          · exact ev_move rfl (gn rfl)
          simp only [nm, seval]
          exact VE.nil _
        · kernel_rfl
        change VOk _ _ _ _ _
        refine vblock ?_
        refine vloop_w (α := {j : Nat // j ≤ 4}) (fun (x : {j : Nat // j ≤ 4}) g => ⟨.v v :: .v (g 1) :: .v (g 2) :: .v (g 3) :: .p 20 0 :: .v (.int .i64 4) :: .d 901 :: .v (b8 cn) :: .v (.int .i64 176) :: .v (.int .i64 ((4 + r : Nat) : Int)) :: .p 10 0 :: .v (.int .i64 ((4 * r : Nat) : Int)) :: .v (g 12) :: .v (g 13) :: .v (g 14) :: .v (g 15) :: .v (g 16) :: .v (g 17) :: .v (g 18) :: .v (g 19) :: .v (g 20) :: .v (g 21) :: .v (g 22) :: .v (g 23) :: .v (g 24) :: .v (g 25) :: .v (g 26) :: .v (g 27) :: .v (g 28) :: .v (g 29) :: .v (g 30) :: .v (g 31) :: .v (g 32) :: .v (g 33) :: .v (g 34) :: .v (g 35) :: .v (g 36) :: .v (g 37) :: .v (g 38) :: .v (g 39) :: .v (g 40) :: .v (g 41) :: .v (g 42) :: .v (g 43) :: .v (g 44) :: .v (g 45) :: .v (g 46) :: .v (g 47) :: .v (g 48) :: .v (g 49) :: .v (g 50) :: .v (g 51) :: .v (g 52) :: .v (g 53) :: .v (g 54) :: .v (g 55) :: .v (g 56) :: .v (g 57) :: .v (g 58) :: .v (g 59) :: .v (g 60) :: .v (g 61) :: .v (g 62) :: .v (g 63) :: .v (g 64) :: .v (g 65) :: .v (g 66) :: .v (g 67) :: .v (g 68) :: .v (g 69) :: .v (g 70) :: .v (g 71) :: .v (g 72) :: .v (g 73) :: .v (g 74) :: .v (g 75) :: .v (g 76) :: .v (g 77) :: .v (g 78) :: .v (g 79) :: .v (g 80) :: .v (g 81) :: .v (g 82) :: .v (g 83) :: .v (g 84) :: .v (g 85) :: .v (g 86) :: .v (g 87) :: .v (g 88) :: .v (g 89) :: .v (g 90) :: .v (g 91) :: .v (g 92) :: .v (g 93) :: .v (g 94) :: .v (g 95) :: .v (g 96) :: .v (g 97) :: .v (g 98) :: .v (g 99) :: .v (g 100) :: .v (g 101) :: .v (g 102) :: .v (g 103) :: .v (g 104) :: .v (g 105) :: .v (g 106) :: .v (g 107) :: .v (g 108) :: .v (g 109) :: .v (g 110) :: .v (g 111) :: .v (g 112) :: .v (g 113) :: .v (g 114) :: .v (g 115) :: .v (g 116) :: .v (g 117) :: .v (g 118) :: .v (g 119) :: .v (g 120) :: .v (g 121) :: .v (g 122) :: .v (g 123) :: .v (g 124) :: .v (g 125) :: .v (g 126) :: .v (g 127) :: .v (g 128) :: .v (g 129) :: .v (g 130) :: .v (g 131) :: .v (g 132) :: .v (g 133) :: .v (g 134) :: .v (g 135) :: .v (g 136) :: .v (g 137) :: .v (A4 (xr f c r)) :: .v (.int .i64 (x.1 : Nat)) :: .v (g 140) :: .v (g 141) :: .v (g 142) :: .v (g 143) :: .v (g 144) :: .v (g 145) :: .v (g 146) :: .v (g 147) :: .v (g 148) :: .v (g 149) :: .v (g 150) :: .v (g 151) :: .v (g 152) :: .v (g 153) :: .v (g 154) :: .v (g 155) :: .v (g 156) :: .v (g 157) :: .v (g 158) :: .v (g 159) :: .v (g 160) :: .v (g 161) :: .v (g 162) :: .v (g 163) :: .v (g 164) :: .v (g 165) :: .v (g 166) :: .v (g 167) :: .v (g 168) :: .v (g 169) :: .v (g 170) :: .v (g 171) :: .v (g 172) :: .v (g 173) :: [], memOf [(901, .row (16 + 4 * r + x.1) 1 5 (.exact (tb (16 + 4 * r + x.1) Wn))), (10, .arr (tb 4 (xr f c r)) 92), (20, .cells (TS tT ++ [.v nilS]) 91)]⟩) (fun x => 4 - x.1) ?_ (⟨0, Nat.zero_le _⟩) ?_
        · rintro ⟨j, hj⟩ g2
          obtain ⟨q5, hq5⟩ : ∃ q, decide (((j : Nat) : Int) < 4) = q := ⟨_, rfl⟩
          change VOk _ _ _ _ _
          refine vseq ?_
          apply vrp
          · apply VE.cons
            · exact ev_lss rfl (gn rfl) rfl rfl hq5
            simp only [nm, seval]
            exact VE.nil _
          · kernel_rfl
          change VOk _ _ _ _ _
          refine vseq ?_
          cases q5
          · refine vcond_f rfl ?_
            have hN : j = 4 := by have := of_decide_eq_false hq5; omega
            subst hN
            refine vexit ?_
            change VOk _ _ _ _ _
            apply vrp
            · apply VE.cons
              · exact ev_move rfl (gn rfl)
              simp only [nm, seval]
              apply VE.cons
              · exact ev_add (c := ((4 + (r + 1) : Nat) : Int)) rfl (gn rfl) rfl rfl (by rw [i64w (by omega) (by omega)]; omega)
              simp only [nm, seval]
              apply VE.cons
              · exact ev_assign rfl (gn rfl)
              simp only [nm, seval]
              exact VE.nil _
            · kernel_rfl
            have e4 : 16 + 4 * r + 4 = 16 + 4 * (r + 1) := by omega
            rw [e4]
            refine ⟨⟨r + 1, by omega⟩, by show 40 - (r + 1) < 40 - r; omega, ?_⟩
            simp only [hW, hcn]
            exact weaker_forget (fun i => i == 0 || i == 4 || i == 5 || i == 6 || i == 7 || i == 8 || i == 9) [10]
          · refine vcond_t rfl ?_
            have hlj : j < 4 := by have := of_decide_eq_true hq5; omega
            refine vskip ?_
            change VOk _ _ _ _ _
            refine vseq ?_
            refine vblock ?_
            refine vseq ?_
            apply vrp
            · apply VE.cons
              · exact ev_move rfl (gn rfl)
              simp only [nm, seval]
              apply VE.cons
              · exact ev_indexv (k := j) (v := b8 (xr f c r j)) rfl (gn rfl) rfl rfl Tryd.underlying92 Tryd.sizeOf5 Tryd.underlying5 rfl hlj (tb_get hlj)
              simp only [nm, seval]
              apply VE.cons
              · exact ev_assign rfl (gn rfl)
              simp only [nm, seval]
              apply VE.cons
              · exact ev_assign rfl (gn rfl)
              simp only [nm, seval]
              exact VE.nil _
            · kernel_rfl
            change VOk _ _ _ _ _
            apply vrp
            · apply VE.cons
              · exact ev_move rfl (gn rfl)
              simp only [nm, seval]
              apply VE.cons
              · exact ev_move rfl (gn rfl)
              simp only [nm, seval]
              apply VE.cons
              · exact ev_move rfl (gn rfl)
              simp only [nm, seval]
              apply VE.cons
              · exact ev_move rfl (gn rfl)
              simp only [nm, seval]
              apply VE.cons
              · exact ev_add (c := ((4 * r + j : Nat) : Int)) rfl (gn rfl) rfl rfl (by rw [i64w (by omega) (by omega)]; omega)
              simp only [nm, seval]
              apply VE.cons
              · exact ev_idx (k := 4 * r + j) rfl (gn rfl) rfl rfl Tryd.underlying28 Tryd.sizeOf5 (rdg_row rfl) (by omega) (by decide)
              simp only [nm, seval]
              apply VE.cons
              · exact ev_loadi rfl (gn rfl) rfl Tryd.underlying5 rfl (rdg_row rfl) (tb_get (by omega))
              simp only [nm, seval]
              apply VE.cons
              · exact ev_move rfl (gn rfl)
              simp only [nm, seval]
              apply VE.cons
              · exact ev_bin (c := b8 (Wn (16 + 4 * r + j))) rfl (gn rfl) rfl rfl (fun w => by rw [hnew j, ← hold (4 * r + j) (by omega)]; exact xor8 (hWb _) (xr_by hfb hcb r j) _ _ w)
              simp only [nm, seval]
              apply VE.cons
              · exact ev_buildslice rfl rfl (gn rfl) rfl (e := 5) (l := [b8 (Wn (16 + 4 * r + j))]) rfl (by decide) (fun _ => by kernel_rfl)
              simp only [nm, seval]
              apply VE.cons
              · exact ev_append rfl rfl (gn rfl) rfl rfl rfl (rdg_row rfl) Tryd.underlying28 el5 (by decide) (by rw [tb_len]; omega) rfl (by simp only [maxLen]; omega) (by omega) rfl
              simp only [nm, seval]
              apply VE.cons
              · exact ev_assign rfl (gn rfl)
              simp only [nm, seval]
              exact VE.nil _
            · kernel_rfl
            change VOk _ _ _ _ _
            apply vrp
            · apply VE.cons
              · exact ev_add (c := ((j + 1 : Nat) : Int)) rfl (gn rfl) rfl rfl (by rw [i64w (by omega) (by omega)]; omega)
              simp only [nm, seval]
              apply VE.cons
              · exact ev_move rfl (gn rfl)
              simp only [nm, seval]
              exact VE.nil _
            · kernel_rfl
            rw [tb_snoc]
            exact ⟨⟨j + 1, by omega⟩, by show 4 - (j + 1) < 4 - j; omega, (weaker_forget (fun i => i == 0 || i == 4 || i == 5 || i == 6 || i == 7 || i == 8 || i == 9 || i == 10 || i == 11 || i == 138 || i == 139) [901, 152]).trans2 (fun _ => weaker_ren 153 901 (by decide) rfl)⟩
        · have eW : tb (16 + 4 * r) f = tb (16 + 4 * r + 0) Wn := tb_ext fun k hk => (hold k hk).symm
          rw [eW]
          first | exact (weaker_forget (fun i => i == 0 || i == 4 || i == 5 || i == 6 || i == 7 || i == 8 || i == 9 || i == 10 || i == 11 || i == 138 || i == 139) []).trans2 (fun _ => weaker_swap (a := (10, _)) (b := (901, _)) (show (10 : Nat) ≠ 901 by decide)) | (rw [hcc]; exact (weaker_forget (fun i => i == 0 || i == 4 || i == 5 || i == 6 || i == 7 || i == 8 || i == 9 || i == 10 || i == 11 || i == 138 || i == 139) []).trans2 (fun _ => weaker_swap (a := (10, _)) (b := (901, _)) (show (10 : Nat) ≠ 901 by decide)))
      · refine vcond_t rfl ?_
        have hr4 : r % 4 = 0 := by have := of_decide_eq_true hq4; omega
        have hx0 : xr f c r 0 = tT (X 1) ^^^ c := by rw [← hX]; unfold xr; rw [if_pos hr4, if_pos rfl]; show _ = tT (f (12 + 4 * r + 1)) ^^^ c; rw [show 12 + 4 * r + 1 = 13 + 4 * r by omega]
        have hx1 : xr f c r 1 = tT (X 2) := by rw [← hX]; unfold xr; rw [if_pos hr4, if_neg (by decide), if_pos rfl]; show _ = tT (f (12 + 4 * r + 2)); rw [show 12 + 4 * r + 2 = 14 + 4 * r by omega]
        have hx2 : xr f c r 2 = tT (X 3) := by rw [← hX]; unfold xr; rw [if_pos hr4, if_neg (by decide), if_neg (by decide), if_pos rfl]; show _ = tT (f (12 + 4 * r + 3)); rw [show 12 + 4 * r + 3 = 15 + 4 * r by omega]
        have hx3 : xr f c r 3 = tT (X 0) := by rw [← hX]; unfold xr; rw [if_pos hr4, if_neg (by decide), if_neg (by decide), if_neg (by decide)]; rfl
        have hcc := hc1 hr4
        refine vseq ?_
        apply vrd (by kernel_rfl)
        · apply VE.cons
          · exact ev_move rfl (gn rfl)
          simp only [nm, seval]
          apply VE.cons
          · exact ev_indexn (k := 1) (j := 1) rfl (gn rfl) rfl rfl Tryd.underlying92 Tryd.sizeOf5 (by decide) (rfl)
          simp only [nm, seval]
          apply VE.cons
          · exact ev_load1r rfl (gn rfl) rfl rfl Tryd.underlying5 rfl (tb_get (by decide))
          simp only [nm, seval]
          apply VE.cons
          · first | exact ev_nil rfl (gn rfl) rfl | exact ev_nilx rfl (gn rfl) rfl
          simp only [nm, seval]
          apply VE.cons
          · first | exact ev_field rfl (gn rfl) rfl Tryd.underlying91 rfl Tryd.sizeOf88 | exact ev_fieldx rfl (gn rfl) rfl Tryd.underlying91 rfl Tryd.sizeOf88
          simp only [nm, seval]
          apply VE.cons
          · first | exact ev_field rfl (gn rfl) rfl Tryd.underlying88 rfl Tryd.sizeOf86 | exact ev_fieldx rfl (gn rfl) rfl Tryd.underlying88 rfl Tryd.sizeOf86
          simp only [nm, seval]
          apply VE.cons
          · exact ev_indexn (k := X 1) (j := X 1) rfl (gn rfl) rfl rfl Tryd.underlying86 Tryd.sizeOf5 (hXb _) (Nat.zero_add _)
          simp only [nm, seval]
          apply VE.cons
          · exact ev_load1 rfl (gn rfl) rfl rfl Tryd.underlying5 rfl (TS_get (Nat.lt_trans (hXb _) (by decide)))
          simp only [nm, seval]
          apply VE.cons
          · exact ev_move rfl (gn rfl)
          simp only [nm, seval]
          apply VE.cons
          · exact ev_bin rfl (gn rfl) rfl rfl (fun w => xor8 (tT_by _) hcb _ _ w)
          simp only [nm, seval]
          apply VE.cons
          · exact ev_move rfl (gn rfl)
          simp only [nm, seval]
          apply VE.cons
          · exact ev_indexn (k := 2) (j := 2) rfl (gn rfl) rfl rfl Tryd.underlying92 Tryd.sizeOf5 (by decide) (rfl)
          simp only [nm, seval]
          apply VE.cons
          · exact ev_load1r rfl (gn rfl) rfl rfl Tryd.underlying5 rfl (tb_get (by decide))
          simp only [nm, seval]
          apply VE.cons
          · first | exact ev_nil rfl (gn rfl) rfl | exact ev_nilx rfl (gn rfl) rfl
          simp only [nm, seval]
          apply VE.cons
          · first | exact ev_field rfl (gn rfl) rfl Tryd.underlying91 rfl Tryd.sizeOf88 | exact ev_fieldx rfl (gn rfl) rfl Tryd.underlying91 rfl Tryd.sizeOf88
          simp only [nm, seval]
          apply VE.cons
          · first | exact ev_field rfl (gn rfl) rfl Tryd.underlying88 rfl Tryd.sizeOf86 | exact ev_fieldx rfl (gn rfl) rfl Tryd.underlying88 rfl Tryd.sizeOf86
          simp only [nm, seval]
          apply VE.cons
          · exact ev_indexn (k := X 2) (j := X 2) rfl (gn rfl) rfl rfl Tryd.underlying86 Tryd.sizeOf5 (hXb _) (Nat.zero_add _)
          simp only [nm, seval]
          apply VE.cons
          · exact ev_load1 rfl (gn rfl) rfl rfl Tryd.underlying5 rfl (TS_get (Nat.lt_trans (hXb _) (by decide)))
          simp only [nm, seval]
          apply VE.cons
          · exact ev_move rfl (gn rfl)
          simp only [nm, seval]
          apply VE.cons
          · exact ev_indexn (k := 3) (j := 3) rfl (gn rfl) rfl rfl Tryd.underlying92 Tryd.sizeOf5 (by decide) (rfl)
          simp only [nm, seval]
          apply VE.cons
          · exact ev_load1r rfl (gn rfl) rfl rfl Tryd.underlying5 rfl (tb_get (by decide))
          simp only [nm, seval]
          apply VE.cons
          · first | exact ev_nil rfl (gn rfl) rfl | exact ev_nilx rfl (gn rfl) rfl
          simp only [nm, seval]
          apply VE.cons
          · first | exact ev_field rfl (gn rfl) rfl Tryd.underlying91 rfl Tryd.sizeOf88 | exact ev_fieldx rfl (gn rfl) rfl Tryd.underlying91 rfl Tryd.sizeOf88
          simp only [nm, seval]
          apply VE.cons
          · first | exact ev_field rfl (gn rfl) rfl Tryd.underlying88 rfl Tryd.sizeOf86 | exact ev_fieldx rfl (gn rfl) rfl Tryd.underlying88 rfl Tryd.sizeOf86
          simp only [nm, seval]
          apply VE.cons
          · exact ev_indexn (k := X 3) (j := X 3) rfl (gn rfl) rfl rfl Tryd.underlying86 Tryd.sizeOf5 (hXb _) (Nat.zero_add _)
          simp only [nm, seval]
          apply VE.cons
          · exact ev_load1 rfl (gn rfl) rfl rfl Tryd.underlying5 rfl (TS_get (Nat.lt_trans (hXb _) (by decide)))
          simp only [nm, seval]
          apply VE.cons
          · exact ev_move rfl (gn rfl)
          simp only [nm, seval]
          apply VE.cons
          · exact ev_indexn (k := 0) (j := 0) rfl (gn rfl) rfl rfl Tryd.underlying92 Tryd.sizeOf5 (by decide) (rfl)
          simp only [nm, seval]
          apply VE.cons
          · exact ev_load1r rfl (gn rfl) rfl rfl Tryd.underlying5 rfl (tb_get (by decide))
          simp only [nm, seval]
          apply VE.cons
          · first | exact ev_nil rfl (gn rfl) rfl | exact ev_nilx rfl (gn rfl) rfl
          simp only [nm, seval]
          apply VE.cons
          · first | exact ev_field rfl (gn rfl) rfl Tryd.underlying91 rfl Tryd.sizeOf88 | exact ev_fieldx rfl (gn rfl) rfl Tryd.underlying91 rfl Tryd.sizeOf88
          simp only [nm, seval]
          apply VE.cons
          · first | exact ev_field rfl (gn rfl) rfl Tryd.underlying88 rfl Tryd.sizeOf86 | exact ev_fieldx rfl (gn rfl) rfl Tryd.underlying88 rfl Tryd.sizeOf86
          simp only [nm, seval]
          apply VE.cons
          · exact ev_indexn (k := X 0) (j := X 0) rfl (gn rfl) rfl rfl Tryd.underlying86 Tryd.sizeOf5 (hXb _) (Nat.zero_add _)
          simp only [nm, seval]
          apply VE.cons
          · exact ev_load1 rfl (gn rfl) rfl rfl Tryd.underlying5 rfl (TS_get (Nat.lt_trans (hXb _) (by decide)))
          simp only [nm, seval]
          apply VE.cons
          · exact ev_build (cells := (tb 4 (xr f c r)).toArray) rfl (gn rfl) rfl (by rw [tb4, hx0, hx1, hx2, hx3]; exact built92 _ _ _ _)
          simp only [nm, seval]
          apply VE.cons
          · exact ev_sta rfl (gn rfl) rfl rfl rfl Tryd.sizeOf92
          simp only [nm, seval]
          exact VE.nil _
        · kernel_rfl
        change VOk _ _ _ _ _
        apply vrp
        · apply VE.cons
          · exact ev_move rfl (gn rfl)
          simp only [nm, seval]
          apply VE.cons
          · exact ev_callb (v := b8 cn) rfl (gn rfl) rfl (en_of Tryd.func39 (by kernel_rfl) rfl) (fun w' hb => by rw [hcc]; exact dbl_ok hcb w')
          simp only [nm, seval]
          apply VE.cons
          · exact ev_assign rfl (gn rfl)
          simp only [nm, seval]
          exact VE.nil _
        · kernel_rfl
        change VOk _ _ _ _ _
        refine vseq ?_
        apply vrp
        · apply VE.cons
          · exact ev_move rfl (gn rfl)
          simp only [nm, seval]
          apply VE.cons
          · exact ev_len rfl (gn rfl) rfl Tryd.underlying28 (rdg_row rfl)
          simp only [nm, seval]
          apply VE.cons
          · exact ev_move rfl (gn rfl)
          simp only [nm, seval]
          apply VE.cons
          · exact ev_bin rfl (gn rfl) rfl rfl (fun w => mulc (a := 4) (b := 4) (c := 16) rfl (by decide) _ _ w)
          simp only [nm, seval]
          apply VE.cons
          · exact ev_sub (c := ((4 * r : Nat) : Int)) rfl (gn rfl) rfl rfl (by rw [i64w (by omega) (by omega)]; omega)
          simp only [nm, seval]
          apply VE.cons
          · exact ev_assign rfl (gn rfl)
          simp only [nm, seval]
          exact VE.nil _
        · kernel_rfl
        change VOk _ _ _ _ _
        refine vseq ?_
        apply vrp
        · apply VE.cons
          · exact ev_ldt rfl (gn rfl) rfl rfl Tryd.underlying92 rfl Tryd.sizeOf92
          simp only [nm, seval]
          apply VE.cons
          · exact ev_move rfl (gn rfl)
          simp only [nm, seval]
          exact VE.nil _
        · kernel_rfl
        change VOk _ _ _ _ _
        refine vblock ?_
        refine vloop_w (α := {j : Nat // j ≤ 4}) (fun (x : {j : Nat // j ≤ 4}) g => ⟨.v v :: .v (g 1) :: .v (g 2) :: .v (g 3) :: .p 20 0 :: .v (.int .i64 4) :: .d 901 :: .v (b8 cn) :: .v (.int .i64 176) :: .v (.int .i64 ((4 + r : Nat) : Int)) :: .p 10 0 :: .v (.int .i64 ((4 * r : Nat) : Int)) :: .v (g 12) :: .v (g 13) :: .v (g 14) :: .v (g 15) :: .v (g 16) :: .v (g 17) :: .v (g 18) :: .v (g 19) :: .v (g 20) :: .v (g 21) :: .v (g 22) :: .v (g 23) :: .v (g 24) :: .v (g 25) :: .v (g 26) :: .v (g 27) :: .v (g 28) :: .v (g 29) :: .v (g 30) :: .v (g 31) :: .v (g 32) :: .v (g 33) :: .v (g 34) :: .v (g 35) :: .v (g 36) :: .v (g 37) :: .v (g 38) :: .v (g 39) :: .v (g 40) :: .v (g 41) :: .v (g 42) :: .v (g 43) :: .v (g 44) :: .v (g 45) :: .v (g 46) :: .v (g 47) :: .v (g 48) :: .v (g 49) :: .v (g 50) :: .v (g 51) :: .v (g 52) :: .v (g 53) :: .v (g 54) :: .v (g 55) :: .v (g 56) :: .v (g 57) :: .v (g 58) :: .v (g 59) :: .v (g 60) :: .v (g 61) :: .v (g 62) :: .v (g 63) :: .v (g 64) :: .v (g 65) :: .v (g 66) :: .v (g 67) :: .v (g 68) :: .v (g 69) :: .v (g 70) :: .v (g 71) :: .v (g 72) :: .v (g 73) :: .v (g 74) :: .v (g 75) :: .v (g 76) :: .v (g 77) :: .v (g 78) :: .v (g 79) :: .v (g 80) :: .v (g 81) :: .v (g 82) :: .v (g 83) :: .v (g 84) :: .v (g 85) :: .v (g 86) :: .v (g 87) :: .v (g 88) :: .v (g 89) :: .v (g 90) :: .v (g 91) :: .v (g 92) :: .v (g 93) :: .v (g 94) :: .v (g 95) :: .v (g 96) :: .v (g 97) :: .v (g 98) :: .v (g 99) :: .v (g 100) :: .v (g 101) :: .v (g 102) :: .v (g 103) :: .v (g 104) :: .v (g 105) :: .v (g 106) :: .v (g 107) :: .v (g 108) :: .v (g 109) :: .v (g 110) :: .v (g 111) :: .v (g 112) :: .v (g 113) :: .v (g 114) :: .v (g 115) :: .v (g 116) :: .v (g 117) :: .v (g 118) :: .v (g 119) :: .v (g 120) :: .v (g 121) :: .v (g 122) :: .v (g 123) :: .v (g 124) :: .v (g 125) :: .v (g 126) :: .v (g 127) :: .v (g 128) :: .v (g 129) :: .v (g 130) :: .v (g 131) :: .v (g 132) :: .v (g 133) :: .v (g 134) :: .v (g 135) :: .v (g 136) :: .v (g 137) :: .v (A4 (xr f c r)) :: .v (.int .i64 (x.1 : Nat)) :: .v (g 140) :: .v (g 141) :: .v (g 142) :: .v (g 143) :: .v (g 144) :: .v (g 145) :: .v (g 146) :: .v (g 147) :: .v (g 148) :: .v (g 149) :: .v (g 150) :: .v (g 151) :: .v (g 152) :: .v (g 153) :: .v (g 154) :: .v (g 155) :: .v (g 156) :: .v (g 157) :: .v (g 158) :: .v (g 159) :: .v (g 160) :: .v (g 161) :: .v (g 162) :: .v (g 163) :: .v (g 164) :: .v (g 165) :: .v (g 166) :: .v (g 167) :: .v (g 168) :: .v (g 169) :: .v (g 170) :: .v (g 171) :: .v (g 172) :: .v (g 173) :: [], memOf [(901, .row (16 + 4 * r + x.1) 1 5 (.exact (tb (16 + 4 * r + x.1) Wn))), (10, .arr (tb 4 (xr f c r)) 92), (20, .cells (TS tT ++ [.v nilS]) 91)]⟩) (fun x => 4 - x.1) ?_ (⟨0, Nat.zero_le _⟩) ?_
        · rintro ⟨j, hj⟩ g2
          obtain ⟨q5, hq5⟩ : ∃ q, decide (((j : Nat) : Int) < 4) = q := ⟨_, rfl⟩
          change VOk _ _ _ _ _
          refine vseq ?_
          apply vrp
          · apply VE.cons
            · exact ev_lss rfl (gn rfl) rfl rfl hq5
            simp only [nm, seval]
            exact VE.nil _
          · kernel_rfl
          change VOk _ _ _ _ _
          refine vseq ?_
          cases q5
          · refine vcond_f rfl ?_
            have hN : j = 4 := by have := of_decide_eq_false hq5; omega
            subst hN
            refine vexit ?_
            change VOk _ _ _ _ _
            apply vrp
            · apply VE.cons
              · exact ev_move rfl (gn rfl)
              simp only [nm, seval]
              apply VE.cons
              · exact ev_add (c := ((4 + (r + 1) : Nat) : Int)) rfl (gn rfl) rfl rfl (by rw [i64w (by omega) (by omega)]; omega)
              simp only [nm, seval]
              apply VE.cons
              · exact ev_assign rfl (gn rfl)
              simp only [nm, seval]
              exact VE.nil _
            · kernel_rfl
            have e4 : 16 + 4 * r + 4 = 16 + 4 * (r + 1) := by omega
            rw [e4]
            refine ⟨⟨r + 1, by omega⟩, by show 40 - (r + 1) < 40 - r; omega, ?_⟩
            simp only [hW, hcn]
            exact weaker_forget (fun i => i == 0 || i == 4 || i == 5 || i == 6 || i == 7 || i == 8 || i == 9) [10]
          · refine vcond_t rfl ?_
            have hlj : j < 4 := by have := of_decide_eq_true hq5; omega
            refine vskip ?_
            change VOk _ _ _ _ _
            refine vseq ?_
            refine vblock ?_
            refine vseq ?_
            apply vrp
            · apply VE.cons
              · exact ev_move rfl (gn rfl)
              simp only [nm, seval]
              apply VE.cons
              · exact ev_indexv (k := j) (v := b8 (xr f c r j)) rfl (gn rfl) rfl rfl Tryd.underlying92 Tryd.sizeOf5 Tryd.underlying5 rfl hlj (tb_get hlj)
              simp only [nm, seval]
              apply VE.cons
              · exact ev_assign rfl (gn rfl)
              simp only [nm, seval]
              apply VE.cons
              · exact ev_assign rfl (gn rfl)
              simp only [nm, seval]
              exact VE.nil _
            · kernel_rfl
            change VOk _ _ _ _ _
            apply vrp
            · apply VE.cons
              · exact ev_move rfl (gn rfl)
              simp only [nm, seval]
              apply VE.cons
              · exact ev_move rfl (gn rfl)
              simp only [nm, seval]
              apply VE.cons
              · exact ev_move rfl (gn rfl)
              simp only [nm, seval]
              apply VE.cons
              · exact ev_move rfl (gn rfl)
              simp only [nm, seval]
              apply VE.cons
              · exact ev_add (c := ((4 * r + j : Nat) : Int)) rfl (gn rfl) rfl rfl (by rw [i64w (by omega) (by omega)]; omega)
              simp only [nm, seval]
              apply VE.cons
              · exact ev_idx (k := 4 * r + j) rfl (gn rfl) rfl rfl Tryd.underlying28 Tryd.sizeOf5 (rdg_row rfl) (by omega) (by decide)
              simp only [nm, seval]
              apply VE.cons
              · exact ev_loadi rfl (gn rfl) rfl Tryd.underlying5 rfl (rdg_row rfl) (tb_get (by omega))
              simp only [nm, seval]
              apply VE.cons
              · exact ev_move rfl (gn rfl)
              simp only [nm, seval]
              apply VE.cons
              · exact ev_bin (c := b8 (Wn (16 + 4 * r + j))) rfl (gn rfl) rfl rfl (fun w => by rw [hnew j, ← hold (4 * r + j) (by omega)]; exact xor8 (hWb _) (xr_by hfb hcb r j) _ _ w)
              simp only [nm, seval]
              apply VE.cons
              · exact ev_buildslice rfl rfl (gn rfl) rfl (e := 5) (l := [b8 (Wn (16 + 4 * r + j))]) rfl (by decide) (fun _ => by kernel_rfl)
              simp only [nm, seval]
              apply VE.cons
              · exact ev_append rfl rfl (gn rfl) rfl rfl rfl (rdg_row rfl) Tryd.underlying28 el5 (by decide) (by rw [tb_len]; omega) rfl (by simp only [maxLen]; omega) (by omega) rfl
              simp only [nm, seval]
              apply VE.cons
              · exact ev_assign rfl (gn rfl)
              simp only [nm, seval]
              exact VE.nil _
            · kernel_rfl
            change VOk _ _ _ _ _
            apply vrp
            · apply VE.cons
              · exact ev_add (c := ((j + 1 : Nat) : Int)) rfl (gn rfl) rfl rfl (by rw [i64w (by omega) (by omega)]; omega)
              simp only [nm, seval]
              apply VE.cons
              · exact ev_move rfl (gn rfl)
              simp only [nm, seval]
              exact VE.nil _
            · kernel_rfl
            rw [tb_snoc]
            exact ⟨⟨j + 1, by omega⟩, by show 4 - (j + 1) < 4 - j; omega, (weaker_forget (fun i => i == 0 || i == 4 || i == 5 || i == 6 || i == 7 || i == 8 || i == 9 || i == 10 || i == 11 || i == 138 || i == 139) [901, 152]).trans2 (fun _ => weaker_ren 153 901 (by decide) rfl)⟩
        · have eW : tb (16 + 4 * r) f = tb (16 + 4 * r + 0) Wn := tb_ext fun k hk => (hold k hk).symm
          rw [eW]
          first | exact (weaker_forget (fun i => i == 0 || i == 4 || i == 5 || i == 6 || i == 7 || i == 8 || i == 9 || i == 10 || i == 11 || i == 138 || i == 139) []).trans2 (fun _ => weaker_swap (a := (10, _)) (b := (901, _)) (show (10 : Nat) ≠ 901 by decide)) | (rw [hcc]; exact (weaker_forget (fun i => i == 0 || i == 4 || i == 5 || i == 6 || i == 7 || i == 8 || i == 9 || i == 10 || i == 11 || i == 138 || i == 139) []).trans2 (fun _ => weaker_swap (a := (10, _)) (b := (901, _)) (show (10 : Nat) ≠ 901 by decide)))
  · exact (weaker_forget (fun i => i == 0 || i == 4 || i == 5 || i == 6 || i == 7 || i == 8 || i == 9) []).trans2 (fun _ => weaker_ren 30 901 (by decide) rfl)
end Go.Proofs.YtiidceljhmpgcaaDoor
end
section
namespace Go.Proofs.YtiidceljhmpgcaaDoor
open Go.RowKit Go.Vx
open Go.Toll (Gw)
open TollSha
set_option maxHeartbeats 4000000
set_option maxRecDepth 100000
theorem ptr64 (a : Addr) (p q : Operand) (w : World) : (do eqGuard .eql 64 p q (.pointer (some a)) (.pointer none); binOp .eql 64 (.pointer (some a)) (.pointer none) : Sem Value).run Tryd.prog w = .ok (.bool false) w := by
  go_simp
theorem ptr42 (a : Addr) (p q : Operand) (w : World) : (do eqGuard .eql 42 p q (.pointer (some a)) (.pointer none); binOp .eql 42 (.pointer (some a)) (.pointer none) : Sem Value).run Tryd.prog w = .ok (.bool false) w := by
  go_simp
theorem ptr26 (a : Addr) (p q : Operand) (w : World) : (do eqGuard .eql 26 p q (.pointer (some a)) (.pointer none); binOp .eql 26 (.pointer (some a)) (.pointer none) : Sem Value).run Tryd.prog w = .ok (.bool false) w := by
  go_simp
def kw (kf : Nat → Nat) (r : Nat) : Nat → Nat := fun k => keyW kf (r * 16 + k)
theorem kw_by {kf : Nat → Nat} (h : By kf) (r : Nat) : By (kw kf r) := fun _ => keyW_by h _
theorem kw_get {kf : Nat → Nat} {r : Nat} (h : r ≤ 10) : ((tb 176 (keyW kf)).drop (r * 16)).take 16 = tb 16 (kw kf r) := by
  rw [tb_drop 176 (r * 16) _ (176 - r * 16) rfl, tb_take _ _ _ (by omega)]; rfl
def subT (s : Nat → Nat) : Nat → Nat := fun i => tT (s ((i + 4 * (i % 4)) % 16))
def subI (s : Nat → Nat) (i : Nat) : Nat → Nat := fun k => if k < i then subT s k else 0
theorem subT_by (s : Nat → Nat) : By (subT s) := fun _ => tT_by _
theorem subI_0 (s : Nat → Nat) : subI s 0 = fun _ => 0 := by funext k; exact if_neg (Nat.not_lt_zero k)
theorem subI_s (s : Nat → Nat) (i k : Nat) : up (subI s i) i (tT (s ((i + 4 * (i % 4)) % 16))) k = subI s (i + 1) k := by
  unfold up subI
  by_cases h : k = i
  · subst h; rw [if_pos rfl, if_pos (by omega)]; rfl
  · rw [if_neg h]
    by_cases h2 : k < i
    · rw [if_pos h2, if_pos (by omega)]
    · rw [if_neg h2, if_neg (by omega)]
theorem subI_16 (s : Nat → Nat) : tb 16 (subI s 16) = tb 16 (subT s) := tb_ext fun _ hk => if_pos hk
def rowF : Nat → Nat := fun j => [2, 3, 1, 1].getD j 0
theorem rowF_by : By rowF := fun j => by
  rcases j with _ | _ | _ | _ | j <;> simp [rowF]
def sealR (kf : Nat → Nat) (j : Nat) (s : Nat → Nat) : Nat → Nat := addT (if j + 1 < 10 then mixT (subT s) rowF else subT s) (kw kf (j + 1))
def sealS (kf b : Nat → Nat) : Nat → Nat → Nat
  | 0 => addT b (kw kf 0)
  | j + 1 => sealR kf j (sealS kf b j)
def sealT (kf b : Nat → Nat) : Nat → Nat := sealS kf b 10
theorem mixT_by {b r : Nat → Nat} (hb : By b) : By (mixT b r) := mixI_by hb _ _
theorem sealS_by {kf b : Nat → Nat} (hk : By kf) (hb : By b) : ∀ j, By (sealS kf b j)
  | 0 => addT_by hb (kw_by hk 0)
  | j + 1 => addT_by (by split; exact mixT_by (subT_by _); exact subT_by _) (kw_by hk _)
theorem sealT_by {kf b : Nat → Nat} (hk : By kf) (hb : By b) : By (sealT kf b) := sealS_by hk hb 10
theorem cell_blk {w : World} {g : Nat} {l : List Value} {ty : TypeId} (h : w.heap[g]? = some (.cells l.toArray ty (0, 0))) {i : Nat} {x : Value} (hx : l[i]? = some x) : w.cell? ⟨g, i, none⟩ = some x := cell_arr h hx
theorem kSeal_ok {p : Value} {kf b : Nat → Nat} {F : Nat → Prop} (w : World) (hK : KeyAt w p kf F) (hkf : By kf) (hbb : By b) : Calls Tryd.prog 27 #[p, A16 b] w fun e w' => e = .returned (A16 (sealT kf b)) ∧ Bw w w' := by
  obtain ⟨gk, kv, rfl, _, hg, hkv⟩ := hK
  have hc5 : w.cell? ⟨gk, 512, none⟩ = some kv := cell_blk hg (by rw [List.getElem?_append_right (by rw [tb_len]; exact Nat.le_refl _), tb_len]; rfl)
  have hcT : ∀ k, k < 512 → w.cell? ⟨gk, k, none⟩ = some (b8 (tT k)) := fun k hk => cell_blk hg (tbr_get hk)
  go_enter Tryd.func27, Tryd.ntmps27
  refine ve_go ?_
  simp only [List.map_cons, List.map_nil]
  refine vseq ?_
  apply vrp
  · apply VE.cons
    · exact ev_boxr rfl rfl (gn rfl) rfl (cells_tb 16 b)
    simp only [nm, seval]
    apply VE.cons
    · exact ev_allocr (l := tb 16 fun _ => 0) rfl rfl (gn rfl) Tryd.zeroValue67 rfl
    simp only [nm, seval]
    exact VE.nil _
  · kernel_rfl
  change VOk _ _ _ _ _
  refine vseq ?_
  refine vseq ?_
  apply vrp
  · apply VE.cons
    · exact ev_move rfl (gn rfl)
    simp only [nm, seval]
    apply VE.cons
    · exact ev_bin rfl (gn rfl) rfl rfl (fun w => ptr64 _ _ _ w)
    simp only [nm, seval]
    exact VE.nil _
  · kernel_rfl
  change VOk _ _ _ _ _
  refine vcond_f rfl ?_
  refine vskip ?_
  change VOk _ _ _ _ _
  refine vseq ?_
  apply vrp
  · apply VE.cons
    · exact ev_move rfl (gn rfl)
    simp only [nm, seval]
    apply VE.cons
    · first | exact ev_nil rfl (gn rfl) rfl | exact ev_nilx rfl (gn rfl) rfl
    simp only [nm, seval]
    apply VE.cons
    · first | exact ev_field rfl (gn rfl) rfl Tryd.underlying91 rfl Tryd.sizeOf89 | exact ev_fieldx rfl (gn rfl) rfl Tryd.underlying91 rfl Tryd.sizeOf89
    simp only [nm, seval]
    apply VE.cons
    · exact ev_loadx1 rfl (gn rfl) rfl Tryd.underlying89 rfl hc5
    simp only [nm, seval]
    apply VE.cons
    · exact ev_len rfl (gn rfl) rfl Tryd.underlying89 (rdg_arg hkv)
    simp only [nm, seval]
    apply VE.cons
    · exact ev_sub (c := 10) rfl (gn rfl) rfl rfl (by decide)
    simp only [nm, seval]
    apply VE.cons
    · exact ev_assign rfl (gn rfl)
    simp only [nm, seval]
    exact VE.nil _
  · kernel_rfl
  change VOk _ _ _ _ _
  refine vseq ?_
  apply vrd (by kernel_rfl)
  · apply VE.cons
    · exact ev_ldt rfl (gn rfl) rfl rfl Tryd.underlying67 rfl Tryd.sizeOf67
    simp only [nm, seval]
    apply VE.cons
    · exact ev_move rfl (gn rfl)
    simp only [nm, seval]
    apply VE.cons
    · first | exact ev_nil rfl (gn rfl) rfl | exact ev_nilx rfl (gn rfl) rfl
    simp only [nm, seval]
    apply VE.cons
    · first | exact ev_field rfl (gn rfl) rfl Tryd.underlying91 rfl Tryd.sizeOf89 | exact ev_fieldx rfl (gn rfl) rfl Tryd.underlying91 rfl Tryd.sizeOf89
    simp only [nm, seval]
    apply VE.cons
    · exact ev_loadx1 rfl (gn rfl) rfl Tryd.underlying89 rfl hc5
    simp only [nm, seval]
    apply VE.cons
    · exact ev_idx (k := 0) rfl (gn rfl) rfl rfl Tryd.underlying89 Tryd.sizeOf67 (rdg_arg hkv) (by decide) (by decide)
    simp only [nm, seval]
    apply VE.cons
    · exact ev_loadp (vs := tb 16 (kw kf (0))) rfl (gn rfl) rfl Tryd.underlying67 rfl Tryd.sizeOf67 (rdg_arg hkv) (kw_get (r := 0) (by decide)) tb_len (by decide)
    simp only [nm, seval]
    apply VE.cons
    · exact ev_callb rfl (gn rfl) rfl (en_of Tryd.func40 (by kernel_rfl) rfl) (fun w' hb => add_ok hbb (kw_by hkf 0) w')
    simp only [nm, seval]
    apply VE.cons
    · exact ev_sta rfl (gn rfl) rfl rfl rfl Tryd.sizeOf67
    simp only [nm, seval]
    exact VE.nil _
  · kernel_rfl
  change VOk _ _ _ _ _
  refine vseq ?_
  refine vseq ?_
  apply vrp
  · apply VE.cons
    · exact ev_assign rfl (gn rfl)
    simp only [nm, seval]
    exact VE.nil _
  · kernel_rfl
  change VOk _ _ _ _ _
  refine vblock ?_
  refine vloop_w (α := {j : Nat // j ≤ 10}) (fun (x : {j : Nat // j ≤ 10}) f => ⟨.v (.pointer (some ⟨gk, 0, none⟩)) :: .v (f 1) :: .v (f 2) :: .p 3 0 :: .p 4 0 :: .v (.int .i64 10) :: .v (.int .i64 ((x.1 + 1 : Nat) : Int)) :: .v (f 7) :: .v (f 8) :: .v (f 9) :: .v (f 10) :: .v (f 11) :: .v (f 12) :: .v (f 13) :: .v (f 14) :: .v (f 15) :: .v (f 16) :: .v (f 17) :: .v (f 18) :: .v (f 19) :: .v (f 20) :: .v (f 21) :: .v (f 22) :: .v (f 23) :: .v (f 24) :: .v (f 25) :: .v (f 26) :: .v (f 27) :: .v (f 28) :: .v (f 29) :: .v (f 30) :: .v (f 31) :: .v (f 32) :: .v (f 33) :: .v (f 34) :: .v (f 35) :: .v (f 36) :: .v (f 37) :: .v (f 38) :: .v (f 39) :: .v (f 40) :: .v (f 41) :: .v (f 42) :: .v (f 43) :: .v (f 44) :: .v (f 45) :: .v (f 46) :: .v (f 47) :: .v (f 48) :: .v (f 49) :: .v (f 50) :: .v (f 51) :: .v (f 52) :: .v (f 53) :: .v (f 54) :: .v (f 55) :: .v (f 56) :: .v (f 57) :: .v (f 58) :: .v (f 59) :: .v (f 60) :: .v (f 61) :: .v (f 62) :: .v (f 63) :: .v (f 64) :: .v (f 65) :: .v (f 66) :: [], memOf [(4, .arr (tb 16 fun _ => 0) 67), (3, .arr (tb 16 (sealS kf b x.1)) 67)]⟩) (fun x => 10 - x.1) ?_ (⟨0, Nat.zero_le _⟩) ?_
  · rintro ⟨j, hj⟩ f
    obtain ⟨q, hq⟩ : ∃ q, decide (((j + 1 : Nat) : Int) ≤ 10) = q := ⟨_, rfl⟩
    obtain ⟨q3, hq3⟩ : ∃ q, decide (((j + 1 : Nat) : Int) < 10) = q := ⟨_, rfl⟩
    have hsb := sealS_by hkf hbb j
    have hss : sealS kf b (j + 1) = sealR kf j (sealS kf b j) := rfl
    obtain ⟨s, hs⟩ : ∃ z, sealS kf b j = z := ⟨_, rfl⟩
    rw [hs] at hsb hss
    simp only [hs]
    change VOk _ _ _ _ _
    refine vseq ?_
    refine vseq ?_
    apply vrp
    · apply VE.cons
      · exact ev_move rfl (gn rfl)
      simp only [nm, seval]
      apply VE.cons
      · exact ev_move rfl (gn rfl)
      simp only [nm, seval]
      apply VE.cons
      · exact ev_leq (p := q) rfl (gn rfl) rfl rfl hq
      simp only [nm, seval]
      exact VE.nil _
    · kernel_rfl
    change VOk _ _ _ _ _
    cases q
    · refine vcond_f rfl ?_
      have hN : j = 10 := by have := of_decide_eq_false hq; omega
      subst hN
      have hs2 : sealT kf b = s := hs
      rw [← hs2]
      refine vexit ?_
      change VOk _ _ _ _ _
      refine vseq ?_
      apply vrp
      · apply VE.cons
        · exact ev_ldt rfl (gn rfl) rfl rfl Tryd.underlying67 rfl Tryd.sizeOf67
        simp only [nm, seval]
        apply VE.cons
        · exact ev_sta rfl (gn rfl) rfl rfl rfl Tryd.sizeOf67
        simp only [nm, seval]
        exact VE.nil _
      · kernel_rfl
      change VOk _ _ _ _ _
      refine vret ?_
      refine post_ret (res1 Tryd.results27 (rv_tb rfl rfl Tryd.underlying67 rfl Tryd.sizeOf67)) ?_
      intro ρ w' hr
      exact ⟨rfl, hr.1⟩
    · refine vcond_t rfl ?_
      have hlt : j < 10 := by have := of_decide_eq_true hq; omega
      refine vskip ?_
      change VOk _ _ _ _ _
      refine vseq ?_
      refine vblock ?_
      refine vseq ?_
      apply vrp
      · apply VE.cons
        · exact ev_allocr (l := tb 16 (subI s 0)) rfl rfl (gn rfl) Tryd.zeroValue67 (by rw [subI_0]; rfl)
        simp only [nm, seval]
        exact VE.nil _
      · kernel_rfl
      change VOk _ _ _ _ _
      refine vseq ?_
      refine vseq ?_
      apply vrp
      · apply VE.cons
        · exact ev_move rfl (gn rfl)
        simp only [nm, seval]
        exact VE.nil _
      · kernel_rfl
      change VOk _ _ _ _ _
      refine vblock ?_
      refine vloop_w (α := {i : Nat // i ≤ 16}) (fun (x : {i : Nat // i ≤ 16}) g => ⟨.v (.pointer (some ⟨gk, 0, none⟩)) :: .v (g 1) :: .v (g 2) :: .p 3 0 :: .p 4 0 :: .v (.int .i64 10) :: .v (.int .i64 ((j + 1 : Nat) : Int)) :: .p 7 0 :: .v (g 8) :: .v (g 9) :: .v (g 10) :: .v (g 11) :: .v (g 12) :: .v (g 13) :: .v (g 14) :: .v (g 15) :: .v (g 16) :: .v (g 17) :: .v (g 18) :: .v (g 19) :: .v (g 20) :: .v (g 21) :: .v (g 22) :: .v (g 23) :: .v (g 24) :: .v (g 25) :: .v (g 26) :: .v (g 27) :: .v (g 28) :: .v (g 29) :: .v (g 30) :: .v (.int .i64 (x.1 : Nat)) :: .v (g 32) :: .v (g 33) :: .v (g 34) :: .v (g 35) :: .v (g 36) :: .v (g 37) :: .v (g 38) :: .v (g 39) :: .v (g 40) :: .v (g 41) :: .v (g 42) :: .v (g 43) :: .v (g 44) :: .v (g 45) :: .v (g 46) :: .v (g 47) :: .v (g 48) :: .v (g 49) :: .v (g 50) :: .v (g 51) :: .v (g 52) :: .v (g 53) :: .v (g 54) :: .v (g 55) :: .v (g 56) :: .v (g 57) :: .v (g 58) :: .v (g 59) :: .v (g 60) :: .v (g 61) :: .v (g 62) :: .v (g 63) :: .v (g 64) :: .v (g 65) :: .v (g 66) :: [], memOf [(7, .arr (tb 16 (subI s x.1)) 67), (4, .arr (tb 16 fun _ => 0) 67), (3, .arr (tb 16 (s)) 67)]⟩) (fun x => 16 - x.1) ?_ (⟨0, Nat.zero_le _⟩) ?_
      · rintro ⟨i, hi⟩ f2
        obtain ⟨q2, hq2⟩ : ∃ q, decide (((i : Nat) : Int) < 16) = q := ⟨_, rfl⟩
        change VOk _ _ _ _ _
        refine vseq ?_
        apply vrp
        · apply VE.cons
          · exact ev_lss rfl (gn rfl) rfl rfl hq2
          simp only [nm, seval]
          exact VE.nil _
        · kernel_rfl
        change VOk _ _ _ _ _
        refine vseq ?_
        cases q2
        · refine vcond_f rfl ?_
          have hN : i = 16 := by have := of_decide_eq_false hq2; omega
          subst hN
          rw [subI_16]
          refine vexit ?_
          change VOk _ _ _ _ _
          refine vseq ?_
          refine vseq ?_
          apply vrp
          · apply VE.cons
            · exact ev_move rfl (gn rfl)
            simp only [nm, seval]
            apply VE.cons
            · exact ev_move rfl (gn rfl)
            simp only [nm, seval]
            apply VE.cons
            · exact ev_lss rfl (gn rfl) rfl rfl hq3
            simp only [nm, seval]
            exact VE.nil _
          · kernel_rfl
          change VOk _ _ _ _ _
          cases q3
          · refine vcond_f rfl ?_
            have hR : sealR kf j s = addT (subT s) (kw kf (j + 1)) := by have := of_decide_eq_false hq3; unfold sealR; rw [if_neg (by omega)]
            refine vskip ?_
            change VOk _ _ _ _ _
            apply vrd (by kernel_rfl)
            · apply VE.cons
              · exact ev_ldt rfl (gn rfl) rfl rfl Tryd.underlying67 rfl Tryd.sizeOf67
              simp only [nm, seval]
              apply VE.cons
              · exact ev_move rfl (gn rfl)
              simp only [nm, seval]
              apply VE.cons
              · first | exact ev_nil rfl (gn rfl) rfl | exact ev_nilx rfl (gn rfl) rfl
              simp only [nm, seval]
              apply VE.cons
              · first | exact ev_field rfl (gn rfl) rfl Tryd.underlying91 rfl Tryd.sizeOf89 | exact ev_fieldx rfl (gn rfl) rfl Tryd.underlying91 rfl Tryd.sizeOf89
              simp only [nm, seval]
              apply VE.cons
              · exact ev_loadx1 rfl (gn rfl) rfl Tryd.underlying89 rfl hc5
              simp only [nm, seval]
              apply VE.cons
              · exact ev_move rfl (gn rfl)
              simp only [nm, seval]
              apply VE.cons
              · exact ev_idx (k := j + 1) rfl (gn rfl) rfl rfl Tryd.underlying89 Tryd.sizeOf67 (rdg_arg hkv) (by omega) (by decide)
              simp only [nm, seval]
              apply VE.cons
              · exact ev_loadp (vs := tb 16 (kw kf (j + 1))) rfl (gn rfl) rfl Tryd.underlying67 rfl Tryd.sizeOf67 (rdg_arg hkv) (kw_get (r := j + 1) (by omega)) tb_len (by decide)
              simp only [nm, seval]
              apply VE.cons
              · exact ev_callb (v := A16 (sealR kf j s)) rfl (gn rfl) rfl (en_of Tryd.func40 (by kernel_rfl) rfl) (fun w' hb => by rw [hR]; exact add_ok (by first | exact mixT_by (subT_by s) | exact subT_by s) (kw_by hkf (j + 1)) w')
              simp only [nm, seval]
              apply VE.cons
              · exact ev_sta rfl (gn rfl) rfl rfl rfl Tryd.sizeOf67
              simp only [nm, seval]
              exact VE.nil _
            · kernel_rfl
            change VOk _ _ _ _ _
            apply vrp
            · apply VE.cons
              · exact ev_move rfl (gn rfl)
              simp only [nm, seval]
              apply VE.cons
              · exact ev_add (c := (((j + 1) + 1 : Nat) : Int)) rfl (gn rfl) rfl rfl (by rw [i64w (by omega) (by omega)]; omega)
              simp only [nm, seval]
              apply VE.cons
              · exact ev_assign rfl (gn rfl)
              simp only [nm, seval]
              exact VE.nil _
            · kernel_rfl
            refine ⟨⟨j + 1, by omega⟩, by show 10 - (j + 1) < 10 - j; omega, ?_⟩
            simp only [hss, hR]
            exact weaker_forget (fun i => i == 0 || i == 3 || i == 4 || i == 5 || i == 6) [7]
          · refine vcond_t rfl ?_
            have hR : sealR kf j s = addT (mixT (subT s) rowF) (kw kf (j + 1)) := by have := of_decide_eq_true hq3; unfold sealR; rw [if_pos (by omega)]
            apply vrp
            · apply VE.cons
              · exact ev_ldt rfl (gn rfl) rfl rfl Tryd.underlying67 rfl Tryd.sizeOf67
              simp only [nm, seval]
              apply VE.cons
              · exact ev_build (cells := (tb 4 rowF).toArray) rfl (gn rfl) rfl (by kernel_rfl)
              simp only [nm, seval]
              apply VE.cons
              · exact ev_callb rfl (gn rfl) rfl (en_of Tryd.func41 (by kernel_rfl) rfl) (fun w' hb => mix_ok (subT_by s) rowF_by w')
              simp only [nm, seval]
              apply VE.cons
              · exact ev_sta rfl (gn rfl) rfl rfl rfl Tryd.sizeOf67
              simp only [nm, seval]
              exact VE.nil _
            · kernel_rfl
            change VOk _ _ _ _ _
            apply vrd (by kernel_rfl)
            · apply VE.cons
              · exact ev_ldt rfl (gn rfl) rfl rfl Tryd.underlying67 rfl Tryd.sizeOf67
              simp only [nm, seval]
              apply VE.cons
              · exact ev_move rfl (gn rfl)
              simp only [nm, seval]
              apply VE.cons
              · first | exact ev_nil rfl (gn rfl) rfl | exact ev_nilx rfl (gn rfl) rfl
              simp only [nm, seval]
              apply VE.cons
              · first | exact ev_field rfl (gn rfl) rfl Tryd.underlying91 rfl Tryd.sizeOf89 | exact ev_fieldx rfl (gn rfl) rfl Tryd.underlying91 rfl Tryd.sizeOf89
              simp only [nm, seval]
              apply VE.cons
              · exact ev_loadx1 rfl (gn rfl) rfl Tryd.underlying89 rfl hc5
              simp only [nm, seval]
              apply VE.cons
              · exact ev_move rfl (gn rfl)
              simp only [nm, seval]
              apply VE.cons
              · exact ev_idx (k := j + 1) rfl (gn rfl) rfl rfl Tryd.underlying89 Tryd.sizeOf67 (rdg_arg hkv) (by omega) (by decide)
              simp only [nm, seval]
              apply VE.cons
              · exact ev_loadp (vs := tb 16 (kw kf (j + 1))) rfl (gn rfl) rfl Tryd.underlying67 rfl Tryd.sizeOf67 (rdg_arg hkv) (kw_get (r := j + 1) (by omega)) tb_len (by decide)
              simp only [nm, seval]
              apply VE.cons
              · exact ev_callb (v := A16 (sealR kf j s)) rfl (gn rfl) rfl (en_of Tryd.func40 (by kernel_rfl) rfl) (fun w' hb => by rw [hR]; exact add_ok (by first | exact mixT_by (subT_by s) | exact subT_by s) (kw_by hkf (j + 1)) w')
              simp only [nm, seval]
              apply VE.cons
              · exact ev_sta rfl (gn rfl) rfl rfl rfl Tryd.sizeOf67
              simp only [nm, seval]
              exact VE.nil _
            · kernel_rfl
            change VOk _ _ _ _ _
            apply vrp
            · apply VE.cons
              · exact ev_move rfl (gn rfl)
              simp only [nm, seval]
              apply VE.cons
              · exact ev_add (c := (((j + 1) + 1 : Nat) : Int)) rfl (gn rfl) rfl rfl (by rw [i64w (by omega) (by omega)]; omega)
              simp only [nm, seval]
              apply VE.cons
              · exact ev_assign rfl (gn rfl)
              simp only [nm, seval]
              exact VE.nil _
            · kernel_rfl
            refine ⟨⟨j + 1, by omega⟩, by show 10 - (j + 1) < 10 - j; omega, ?_⟩
            simp only [hss, hR]
            exact weaker_forget (fun i => i == 0 || i == 3 || i == 4 || i == 5 || i == 6) [7]
        · refine vcond_t rfl ?_
          have hli : i < 16 := by have := of_decide_eq_true hq2; omega
          refine vskip ?_
          change VOk _ _ _ _ _
          refine vseq ?_
          refine vblock ?_
          refine vseq ?_
          apply vrp
          · apply VE.cons
            · exact ev_move rfl (gn rfl)
            simp only [nm, seval]
            apply VE.cons
            · exact ev_assign rfl (gn rfl)
            simp only [nm, seval]
            exact VE.nil _
          · kernel_rfl
          change VOk _ _ _ _ _
          apply vrd (by kernel_rfl)
          · apply VE.cons
            · exact ev_move rfl (gn rfl)
            simp only [nm, seval]
            apply VE.cons
            · exact ev_move rfl (gn rfl)
            simp only [nm, seval]
            apply VE.cons
            · exact ev_move rfl (gn rfl)
            simp only [nm, seval]
            apply VE.cons
            · exact ev_move rfl (gn rfl)
            simp only [nm, seval]
            apply VE.cons
            · exact ev_bin rfl (gn rfl) rfl rfl (fun w => remc (a := i) (b := 4) (c := i % 4) rfl (by decide) (by omega) _ _ w)
            simp only [nm, seval]
            apply VE.cons
            · exact ev_bin rfl (gn rfl) rfl rfl (fun w => mulc (a := 4) (b := i % 4) (c := 4 * (i % 4)) rfl (by omega) _ _ w)
            simp only [nm, seval]
            apply VE.cons
            · exact ev_add (c := ((i + 4 * (i % 4) : Nat) : Int)) rfl (gn rfl) rfl rfl (by rw [i64w (by omega) (by omega)]; omega)
            simp only [nm, seval]
            apply VE.cons
            · exact ev_bin rfl (gn rfl) rfl rfl (fun w => remc (a := i + 4 * (i % 4)) (b := 16) (c := (i + 4 * (i % 4)) % 16) rfl (by decide) (by omega) _ _ w)
            simp only [nm, seval]
            apply VE.cons
            · exact ev_indexn (k := (i + 4 * (i % 4)) % 16) (j := (i + 4 * (i % 4)) % 16) rfl (gn rfl) rfl rfl Tryd.underlying67 Tryd.sizeOf5 (Nat.mod_lt _ (by decide)) (Nat.zero_add _)
            simp only [nm, seval]
            apply VE.cons
            · exact ev_load1r rfl (gn rfl) rfl rfl Tryd.underlying5 rfl (tb_get (Nat.mod_lt _ (by decide)))
            simp only [nm, seval]
            apply VE.cons
            · first | exact ev_nil rfl (gn rfl) rfl | exact ev_nilx rfl (gn rfl) rfl
            simp only [nm, seval]
            apply VE.cons
            · first | exact ev_field rfl (gn rfl) rfl Tryd.underlying91 rfl Tryd.sizeOf88 | exact ev_fieldx rfl (gn rfl) rfl Tryd.underlying91 rfl Tryd.sizeOf88
            simp only [nm, seval]
            apply VE.cons
            · first | exact ev_field rfl (gn rfl) rfl Tryd.underlying88 rfl Tryd.sizeOf86 | exact ev_fieldx rfl (gn rfl) rfl Tryd.underlying88 rfl Tryd.sizeOf86
            simp only [nm, seval]
            apply VE.cons
            · exact ev_indexxn (k := s ((i + 4 * (i % 4)) % 16)) (j := s ((i + 4 * (i % 4)) % 16)) rfl (gn rfl) rfl rfl Tryd.underlying86 Tryd.sizeOf5 (hsb _) (Nat.zero_add _)
            simp only [nm, seval]
            apply VE.cons
            · exact ev_loadx1 rfl (gn rfl) rfl Tryd.underlying5 rfl (hcT _ (Nat.lt_trans (hsb _) (by decide)))
            simp only [nm, seval]
            apply VE.cons
            · exact ev_indexn (k := i) (j := i) rfl (gn rfl) rfl rfl Tryd.underlying67 Tryd.sizeOf5 (hli) (by omega)
            simp only [nm, seval]
            apply VE.cons
            · exact ev_stt (subI s (i + 1)) rfl (gn rfl) rfl rfl rfl Tryd.sizeOf5 (hli) (fun k _ => subI_s s i k)
            simp only [nm, seval]
            exact VE.nil _
          · kernel_rfl
          change VOk _ _ _ _ _
          apply vrp
          · apply VE.cons
            · exact ev_add (c := ((i + 1 : Nat) : Int)) rfl (gn rfl) rfl rfl (by rw [i64w (by omega) (by omega)]; omega)
            simp only [nm, seval]
            apply VE.cons
            · exact ev_move rfl (gn rfl)
            simp only [nm, seval]
            exact VE.nil _
          · kernel_rfl
          refine ⟨⟨i + 1, by omega⟩, by show 16 - (i + 1) < 16 - i; omega, weaker_forget (fun i => i == 0 || i == 3 || i == 4 || i == 5 || i == 6 || i == 7 || i == 31) []⟩
      · exact weaker_forget (fun i => i == 0 || i == 3 || i == 4 || i == 5 || i == 6 || i == 7 || i == 31) []
  · exact weaker_forget (fun i => i == 0 || i == 3 || i == 4 || i == 5 || i == 6) []
end Go.Proofs.YtiidceljhmpgcaaDoor
end
section
namespace Go.Proofs.YtiidceljhmpgcaaDoor
open Go.RowKit Go.Vx
open Go.Toll (Gw)
open TollSha
set_option maxHeartbeats 4000000
set_option maxRecDepth 100000
theorem eqnil_t (n c : Nat) (p q : Operand) (w : World) : (do eqGuard .eql 28 p q (.slice none n c) (.slice none 0 0); binOp .eql 28 (.slice none n c) (.slice none 0 0) : Sem Value).run Tryd.prog w = .ok (.bool true) w := by
  go_simp
  exact Go.Lib.run_eql_slice_nil_nil w n c Tryd.underlying28
theorem eqnil_f (a : Addr) (n c : Nat) (p q : Operand) (w : World) : (do eqGuard .eql 28 p q (.slice (some a) n c) (.slice none 0 0); binOp .eql 28 (.slice (some a) n c) (.slice none 0 0) : Sem Value).run Tryd.prog w = .ok (.bool false) w := by
  go_simp
  exact Go.Lib.run_eql_slice_some_nil w a n c Tryd.underlying28
theorem cvi8 {n : Nat} (w : World) : (convert 3 5 (.int .i64 (n : Nat))).run Tryd.prog w = .ok (b8 (n % 256)) w := by
  have e2 : IntKind.u8.wrap (n : Int) = ((n % 256 : Nat) : Int) := by rw [IntKind.wrap_u8']; omega
  unfold b8 convert
  go_simp
  try exact e2
theorem cv8i {n : Nat} (h : n < 256) (w : World) : (convert 5 3 (b8 n)).run Tryd.prog w = .ok (.int .i64 (n : Nat)) w := by
  have e2 : IntKind.i64.wrap (n : Int) = (n : Int) := i64w (by omega) (by omega)
  unfold b8 convert
  go_simp
  try exact e2
theorem shrc (n k : Nat) (hk : k < 64) (p q : Operand) (w : World) : (do eqGuard .shr 3 p q (.int .i64 (n : Nat)) (.int .i64 (k : Nat)); binOp .shr 3 (.int .i64 (n : Nat)) (.int .i64 (k : Nat)) : Sem Value).run Tryd.prog w = .ok (.int .i64 ((n / 2 ^ k : Nat) : Int)) w := by
  go_simp
  try rw [Nat.min_eq_left (by omega)]
  try rfl
theorem shr8u (n : Nat) (p q : Operand) (w : World) : (do eqGuard .shr 3 p q (.int .i64 (n : Nat)) (.int .u64 8); binOp .shr 3 (.int .i64 (n : Nat)) (.int .u64 8) : Sem Value).run Tryd.prog w = .ok (.int .i64 ((n / 256 : Nat) : Int)) w := by
  go_simp
  try rfl
theorem xor0 (x : Nat) : x ^^^ x = 0 := Nat.xor_self x
theorem clone_n {n c : Nat} (w : World) : Calls Tryd.prog 17 #[.slice none n c] w fun e w' => ∃ v', e = .returned v' ∧ RetRow w w' v' (0) 1 5 ([]) ∧ Bw w w' := by
  go_enter Tryd.func17, Tryd.ntmps17
  refine ve_go ?_
  simp only [List.map_cons, List.map_nil]
  refine vseq ?_
  apply vrp
  · apply VE.cons
    · exact ev_assign rfl (gn rfl)
    simp only [nm, seval]
    exact VE.nil _
  · kernel_rfl
  change VOk _ _ _ _ _
  refine vseq ?_
  refine vseq ?_
  apply vrp
  · apply VE.cons
    · exact ev_move rfl (gn rfl)
    simp only [nm, seval]
    apply VE.cons
    · exact ev_bin (c := .bool true) rfl (gn rfl) rfl rfl (fun w => eqnil_t _ _ _ _ w)
    simp only [nm, seval]
    exact VE.nil _
  · kernel_rfl
  change VOk _ _ _ _ _
  refine vcond_t rfl ?_
  refine vseq ?_
  apply vrp
  · apply VE.cons
    · exact ev_assign rfl (gn rfl)
    simp only [nm, seval]
    exact VE.nil _
  · kernel_rfl
  change VOk _ _ _ _ _
  refine vret ?_
  refine post_ret (res1 Tryd.results17 (rv_tmp rfl)) ?_
  intro ρ w' hr
  exact ⟨_, rfl, ret_nil _ _ _ _, hr.1⟩
theorem clone_s {a : Addr} {n c m : Nat} {f : Nat → Nat} {F : Nat → Prop} (w : World) (hv : SlAt w (.slice (some a) n c) m 1 (tb m f) F) (hm : m ≤ 1073741824) : Calls Tryd.prog 17 #[.slice (some a) n c] w fun e w' => ∃ v', e = .returned v' ∧ RetRow w w' v' (m) 1 5 (tb m f) ∧ Bw w w' := by
  go_enter Tryd.func17, Tryd.ntmps17
  refine ve_go ?_
  simp only [List.map_cons, List.map_nil]
  refine vseq ?_
  apply vrp
  · apply VE.cons
    · exact ev_assign rfl (gn rfl)
    simp only [nm, seval]
    exact VE.nil _
  · kernel_rfl
  change VOk _ _ _ _ _
  refine vseq ?_
  refine vseq ?_
  apply vrp
  · apply VE.cons
    · exact ev_move rfl (gn rfl)
    simp only [nm, seval]
    apply VE.cons
    · exact ev_bin (c := .bool false) rfl (gn rfl) rfl rfl (fun w => eqnil_f _ _ _ _ _ w)
    simp only [nm, seval]
    exact VE.nil _
  · kernel_rfl
  change VOk _ _ _ _ _
  refine vcond_f rfl ?_
  refine vskip ?_
  change VOk _ _ _ _ _
  refine vseq ?_
  apply vrp
  · apply VE.cons
    · exact ev_buildslice rfl rfl (gn rfl) rfl (e := 5) (l := []) rfl (by decide) (fun _ => by kernel_rfl)
    simp only [nm, seval]
    apply VE.cons
    · exact ev_move rfl (gn rfl)
    simp only [nm, seval]
    apply VE.cons
    · exact ev_append rfl rfl (gn rfl) rfl rfl rfl (rdg_arg hv) Tryd.underlying28 el5 (by decide) rfl tb_one (by simp only [maxLen]; omega) (by omega) (by simp [tb_len])
    simp only [nm, seval]
    apply VE.cons
    · exact ev_assign rfl (gn rfl)
    simp only [nm, seval]
    exact VE.nil _
  · kernel_rfl
  change VOk _ _ _ _ _
  refine vret ?_
  refine post_ret (res1 Tryd.results17 (rv_tmp rfl)) ?_
  intro ρ w' hr
  have h7 := ret_row (id := 7) hr rfl
  simp only [List.nil_append] at h7
  exact ⟨_, rfl, h7, hr.1⟩
theorem clone_ok {v : Value} {m : Nat} {f : Nat → Nat} {F : Nat → Prop} (w : World) (hv : SlAt w v m 1 (tb m f) F) (hm : m ≤ 1073741824) : Calls Tryd.prog 17 #[v] w fun e w' => ∃ v', e = .returned v' ∧ RetRow w w' v' (m) 1 5 (tb m f) ∧ Bw w w' := by
  have hv' := hv
  obtain ⟨ao, cap, rfl, h1, h2, h3⟩ := hv'
  cases ao with
  | none =>
    have hm0 : m = 0 := by
      rcases h3 with h3 | ⟨a, h3, _⟩
      · have := congrArg List.length h3; rwa [tb_len] at this
      · cases h3
    subst hm0
    exact clone_n w
  | some a => exact clone_s w hv hm
theorem same_ok {v u : Value} {n : Nat} {f : Nat → Nat} {F G : Nat → Prop} (w : World) (hv : SlAt w v n 1 (tb n f) F) (hu : SlAt w u n 1 (tb n f) G) (hf : By f) (hn : n ≤ 1073741824) : Calls Tryd.prog 31 #[v, u] w fun e w' => e = .returned (.bool true) ∧ Bw w w' := by
  go_enter Tryd.func31, Tryd.ntmps31
  refine ve_go ?_
  simp only [List.map_cons, List.map_nil]
  refine vseq ?_
  apply vrp
  · apply VE.cons
    · exact ev_assign rfl (gn rfl)
    simp only [nm, seval]
    exact VE.nil _
  · kernel_rfl
  change VOk _ _ _ _ _
  refine vseq ?_
  refine vseq ?_
  apply vrp
  · apply VE.cons
    · exact ev_move rfl (gn rfl)
    simp only [nm, seval]
    apply VE.cons
    · exact ev_len rfl (gn rfl) rfl Tryd.underlying28 (rdg_arg hv)
    simp only [nm, seval]
    apply VE.cons
    · exact ev_move rfl (gn rfl)
    simp only [nm, seval]
    apply VE.cons
    · exact ev_len rfl (gn rfl) rfl Tryd.underlying28 (rdg_arg hu)
    simp only [nm, seval]
    apply VE.cons
    · exact ev_neq (p := false) rfl (gn rfl) rfl rfl (by simp)
    simp only [nm, seval]
    exact VE.nil _
  · kernel_rfl
  change VOk _ _ _ _ _
  refine vcond_f rfl ?_
  refine vskip ?_
  change VOk _ _ _ _ _
  refine vseq ?_
  apply vrp
  · apply VE.cons
    · exact ev_assign rfl (gn rfl)
    simp only [nm, seval]
    exact VE.nil _
  · kernel_rfl
  change VOk _ _ _ _ _
  refine vseq ?_
  refine vseq ?_
  apply vrp
  · apply VE.cons
    · exact ev_move rfl (gn rfl)
    simp only [nm, seval]
    apply VE.cons
    · exact ev_len rfl (gn rfl) rfl Tryd.underlying28 (rdg_arg hv)
    simp only [nm, seval]
    apply VE.cons
    · exact ev_move rfl (gn rfl)
    simp only [nm, seval]
    exact VE.nil _
  · kernel_rfl
  change VOk _ _ _ _ _
  refine vblock ?_
  refine vloop_w (α := {i : Nat // i ≤ n}) (fun (x : {i : Nat // i ≤ n}) g => ⟨.v v :: .v u :: .v (g 2) :: .v (g 3) :: .v (g 4) :: .v (b8 0) :: .v (g 6) :: .v (g 7) :: .v (g 8) :: .v (g 9) :: .v (g 10) :: .v (g 11) :: .v (g 12) :: .v (.int .i64 (n : Nat)) :: .v (.int .i64 (x.1 : Nat)) :: .v (g 15) :: .v (g 16) :: .v (g 17) :: .v (g 18) :: .v (g 19) :: .v (g 20) :: .v (g 21) :: .v (g 22) :: .v (g 23) :: .v (g 24) :: .v (g 25) :: .v (g 26) :: .v (g 27) :: .v (g 28) :: .v (g 29) :: .v (g 30) :: [], memOf []⟩) (fun x => n - x.1) ?_ (⟨0, Nat.zero_le _⟩) ?_
  · rintro ⟨i, hi⟩ g
    obtain ⟨q, hq⟩ : ∃ q, decide (((i : Nat) : Int) < ((n : Nat) : Int)) = q := ⟨_, rfl⟩
    change VOk _ _ _ _ _
    refine vseq ?_
    apply vrp
    · apply VE.cons
      · exact ev_lss rfl (gn rfl) rfl rfl hq
      simp only [nm, seval]
      exact VE.nil _
    · kernel_rfl
    change VOk _ _ _ _ _
    refine vseq ?_
    cases q
    · refine vcond_f rfl ?_
      have hN : i = n := by have := of_decide_eq_false hq; omega
      subst hN
      refine vexit ?_
      change VOk _ _ _ _ _
      refine vseq ?_
      apply vrp
      · apply VE.cons
        · exact ev_move rfl (gn rfl)
        simp only [nm, seval]
        apply VE.cons
        · exact ev_bin (c := .bool true) rfl (gn rfl) rfl rfl (fun w => eql8 (b := 0) (c := 0) _ _ w)
        simp only [nm, seval]
        apply VE.cons
        · exact ev_assign rfl (gn rfl)
        simp only [nm, seval]
        exact VE.nil _
      · kernel_rfl
      change VOk _ _ _ _ _
      refine vret ?_
      refine post_ret (res1 Tryd.results31 (rv_tmp rfl)) ?_
      intro ρ w' hr
      exact ⟨rfl, hr.1⟩
    · refine vcond_t rfl ?_
      have hlt : i < n := by have := of_decide_eq_true hq; omega
      refine vskip ?_
      change VOk _ _ _ _ _
      refine vseq ?_
      refine vblock ?_
      refine vseq ?_
      apply vrp
      · apply VE.cons
        · exact ev_move rfl (gn rfl)
        simp only [nm, seval]
        apply VE.cons
        · exact ev_assign rfl (gn rfl)
        simp only [nm, seval]
        exact VE.nil _
      · kernel_rfl
      change VOk _ _ _ _ _
      apply vrd (by kernel_rfl)
      · apply VE.cons
        · exact ev_move rfl (gn rfl)
        simp only [nm, seval]
        apply VE.cons
        · exact ev_move rfl (gn rfl)
        simp only [nm, seval]
        apply VE.cons
        · exact ev_move rfl (gn rfl)
        simp only [nm, seval]
        apply VE.cons
        · exact ev_idx (k := i) rfl (gn rfl) rfl rfl Tryd.underlying28 Tryd.sizeOf5 (rdg_arg hv) (hlt) (by decide)
        simp only [nm, seval]
        apply VE.cons
        · exact ev_loadi rfl (gn rfl) rfl Tryd.underlying5 rfl (rdg_arg hv) (tb_get hlt)
        simp only [nm, seval]
        apply VE.cons
        · exact ev_move rfl (gn rfl)
        simp only [nm, seval]
        apply VE.cons
        · exact ev_move rfl (gn rfl)
        simp only [nm, seval]
        apply VE.cons
        · exact ev_idx (k := i) rfl (gn rfl) rfl rfl Tryd.underlying28 Tryd.sizeOf5 (rdg_arg hu) (hlt) (by decide)
        simp only [nm, seval]
        apply VE.cons
        · exact ev_loadi rfl (gn rfl) rfl Tryd.underlying5 rfl (rdg_arg hu) (tb_get hlt)
        simp only [nm, seval]
        apply VE.cons
        · exact ev_bin (c := b8 0) rfl (gn rfl) rfl rfl (fun w => by have := xor8 (hf i) (hf i) (.tmp 21) (.tmp 25) w; rw [xor0] at this; exact this)
        simp only [nm, seval]
        apply VE.cons
        · exact ev_bin (c := b8 0) rfl (gn rfl) rfl rfl (fun w => or8 (b := 0) (c := 0) (by decide) (by decide) _ _ w)
        simp only [nm, seval]
        apply VE.cons
        · exact ev_assign rfl (gn rfl)
        simp only [nm, seval]
        exact VE.nil _
      · kernel_rfl
      change VOk _ _ _ _ _
      apply vrp
      · apply VE.cons
        · exact ev_add (c := ((i + 1 : Nat) : Int)) rfl (gn rfl) rfl rfl (by rw [i64w (by omega) (by omega)]; omega)
        simp only [nm, seval]
        apply VE.cons
        · exact ev_move rfl (gn rfl)
        simp only [nm, seval]
        exact VE.nil _
      · kernel_rfl
      refine ⟨⟨i + 1, by omega⟩, by show n - (i + 1) < n - i; omega, weaker_forget (fun i => i == 0 || i == 1 || i == 5 || i == 13 || i == 14) []⟩
  · exact weaker_forget (fun i => i == 0 || i == 1 || i == 5 || i == 13 || i == 14) []
theorem head_ok {n : Nat} (w : World) : Calls Tryd.prog 18 #[.int .i64 23, .int .i64 (n : Nat)] w fun e w' => ∃ v', e = .returned v' ∧ RetRow w w' v' (5) 1 5 ([b8 23, b8 3, b8 3, b8 (n / 256 % 256), b8 (n % 256)]) ∧ Bw w w' := by
  go_enter Tryd.func18, Tryd.ntmps18
  refine ve_go ?_
  simp only [List.map_cons, List.map_nil]
  refine vseq ?_
  apply vrp
  · apply VE.cons
    · exact ev_assign rfl (gn rfl)
    simp only [nm, seval]
    exact VE.nil _
  · kernel_rfl
  change VOk _ _ _ _ _
  refine vseq ?_
  apply vrp
  · apply VE.cons
    · exact ev_move rfl (gn rfl)
    simp only [nm, seval]
    apply VE.cons
    · exact ev_conv (c := b8 23) rfl (gn rfl) rfl (fun w => cvi8 (n := 23) w)
    simp only [nm, seval]
    apply VE.cons
    · exact ev_move rfl (gn rfl)
    simp only [nm, seval]
    apply VE.cons
    · exact ev_bin rfl (gn rfl) rfl rfl (fun w => shr8u n _ _ w)
    simp only [nm, seval]
    apply VE.cons
    · exact ev_conv rfl (gn rfl) rfl (fun w => cvi8 w)
    simp only [nm, seval]
    apply VE.cons
    · exact ev_move rfl (gn rfl)
    simp only [nm, seval]
    apply VE.cons
    · exact ev_conv rfl (gn rfl) rfl (fun w => cvi8 w)
    simp only [nm, seval]
    apply VE.cons
    · exact ev_buildslice rfl rfl (gn rfl) rfl (e := 5) (l := [b8 (23), b8 (3), b8 (3), b8 (n / 256 % 256), b8 (n % 256)]) rfl (by decide) (fun _ => by kernel_rfl)
    simp only [nm, seval]
    apply VE.cons
    · exact ev_assign rfl (gn rfl)
    simp only [nm, seval]
    exact VE.nil _
  · kernel_rfl
  change VOk _ _ _ _ _
  refine vret ?_
  refine post_ret (res1 Tryd.results18 (rv_tmp rfl)) ?_
  intro ρ w' hr
  exact ⟨_, rfl, ret_row hr rfl, hr.1⟩
theorem kind_ok {k : Nat} (h1 : 21 ≤ k) (h2 : k ≤ 23) (w : World) : Calls Tryd.prog 16 #[.int .i64 (k : Nat)] w fun e w' => e = .returned (.bool true) ∧ Bw w w' := by
  go_enter Tryd.func16, Tryd.ntmps16
  refine ve_go ?_
  simp only [List.map_cons, List.map_nil]
  refine vseq ?_
  apply vrp
  · apply VE.cons
    · exact ev_assign rfl (gn rfl)
    simp only [nm, seval]
    exact VE.nil _
  · kernel_rfl
  change VOk _ _ _ _ _
  refine vseq ?_
  apply vrp
  · apply VE.cons
    · exact ev_move rfl (gn rfl)
    simp only [nm, seval]
    apply VE.cons
    · exact ev_geq (p := true) rfl (gn rfl) rfl rfl (decide_eq_true (by omega))
    simp only [nm, seval]
    apply VE.cons
    · exact ev_move rfl (gn rfl)
    simp only [nm, seval]
    apply VE.cons
    · first | exact Ev.skip (fun _ => rfl) | exact ev_move rfl (fun _ => rfl)
    simp only [nm, seval]
    apply VE.cons
    · first | exact Ev.skip (fun _ => rfl) | exact ev_leq (p := true) rfl (fun _ => rfl) rfl rfl (decide_eq_true (by omega))
    simp only [nm, seval]
    apply VE.cons
    · first | exact ev_pick_t rfl (gn rfl) rfl rfl | exact ev_pick_f rfl (gn rfl) rfl rfl
    simp only [nm, seval]
    apply VE.cons
    · exact ev_assign rfl (gn rfl)
    simp only [nm, seval]
    exact VE.nil _
  · kernel_rfl
  change VOk _ _ _ _ _
  refine vret ?_
  refine post_ret (res1 Tryd.results16 (rv_tmp rfl)) ?_
  intro ρ w' hr
  exact ⟨rfl, hr.1⟩
def ncF (iv : Nat → Nat) (n : Nat) : Nat → Nat := fun k => if 4 ≤ k ∧ k < 12 then iv k ^^^ (n / 2 ^ (8 * (11 - k)) % 256) else iv k
def ncI (iv : Nat → Nat) (n i : Nat) : Nat → Nat := fun k => if 11 < k + i ∧ k < 12 then ncF iv n k else iv k
theorem ncF_by {iv : Nat → Nat} (h : By iv) (n : Nat) : By (ncF iv n) := fun k => by
  unfold ncF; split
  · exact xor_lt (h k) (Nat.mod_lt _ (by decide))
  · exact h k
theorem ncI_by {iv : Nat → Nat} (h : By iv) (n i : Nat) : By (ncI iv n i) := fun k => by
  unfold ncI; split
  · exact ncF_by h n k
  · exact h k
theorem ncI_8 (iv : Nat → Nat) (n : Nat) : ncI iv n 8 = ncF iv n := by
  funext k; unfold ncI
  by_cases h : 11 < k + 8 ∧ k < 12
  · rw [if_pos h]
  · rw [if_neg h]; unfold ncF; rw [if_neg (by omega)]
theorem ncI_s (iv : Nat → Nat) (n : Nat) {i : Nat} (hi : i < 8) (k : Nat) : up (ncI iv n i) (11 - i) (ncI iv n i (11 - i) ^^^ (n / 2 ^ (8 * i) % 256)) k = ncI iv n (i + 1) k := by
  unfold up
  by_cases h : k = 11 - i
  · subst h
    rw [if_pos rfl]
    have e1 : ncI iv n i (11 - i) = iv (11 - i) := by unfold ncI; rw [if_neg (by omega)]
    rw [e1]
    unfold ncI
    rw [if_pos (by omega)]
    unfold ncF
    rw [if_pos (by omega), show 11 - (11 - i) = i by omega]
  · rw [if_neg h]
    unfold ncI
    by_cases h2 : 11 < k + i ∧ k < 12
    · rw [if_pos h2, if_pos (by omega)]
    · rw [if_neg h2, if_neg (by omega)]
def halfL (bp : Value) (iv : Nat → Nat) (n : Nat) : List Value := bp :: tb 12 iv ++ [.int .i64 (n : Nat)]
theorem halfL_b (bp : Value) (iv : Nat → Nat) (n : Nat) : (halfL bp iv n)[0]? = some bp := rfl
theorem halfL_n (bp : Value) (iv : Nat → Nat) (n : Nat) : (halfL bp iv n)[13]? = some (.int .i64 (n : Nat)) := by
  unfold halfL
  rw [List.cons_append, List.getElem?_cons_succ, List.getElem?_append_right (by rw [tb_len]; exact Nat.le_refl _), tb_len]; rfl
theorem halfL_i (bp : Value) (iv : Nat → Nat) (n : Nat) {k : Nat} (h : k < 12) : (halfL bp iv n)[1 + k]? = some (b8 (iv k)) := by
  unfold halfL
  rw [List.cons_append, Nat.add_comm, List.getElem?_cons_succ, List.getElem?_append_left (by rw [tb_len]; exact h)]; exact tb_get h
theorem halfL_iv {w : World} {bp : Value} {iv : Nat → Nat} {n gh : Nat} (hh : w.heap[gh]? = some (.cells (halfL bp iv n).toArray 47 (0, 0))) : ∀ (j : Nat) (v : Value), (tb 12 iv)[j]? = some v → w.cell? ⟨gh, 1 + j, none⟩ = some v := fun j v hj => by
  have hj2 : j < 12 := by
    have := (List.getElem?_eq_some_iff.1 hj).1
    rwa [tb_len] at this
  rw [tb_get hj2] at hj
  injection hj with hj
  subst hj
  exact cell_blk hh (halfL_i _ _ _ hj2)
theorem nonce_ok {bp : Value} {gh n : Nat} {iv : Nat → Nat} (w : World) (hh : w.heap[gh]? = some (.cells (halfL bp iv n).toArray 47 (0, 0))) (hiv : By iv) : Calls Tryd.prog 20 #[.pointer (some ⟨gh, 0, none⟩)] w fun e w' => e = .returned (.agg (tb 12 (ncF iv n)).toArray) ∧ Bw w w' := by
  go_enter Tryd.func20, Tryd.ntmps20
  refine ve_go ?_
  simp only [List.map_cons, List.map_nil]
  refine vseq ?_
  apply vrp
  · apply VE.cons
    · exact ev_allocr (l := tb 12 fun _ => 0) rfl rfl (gn rfl) Tryd.zeroValue45 rfl
    simp only [nm, seval]
    exact VE.nil _
  · kernel_rfl
  change VOk _ _ _ _ _
  refine vseq ?_
  apply vrp
  · apply VE.cons
    · exact ev_move rfl (gn rfl)
    simp only [nm, seval]
    apply VE.cons
    · first | exact ev_nil rfl (gn rfl) rfl | exact ev_nilx rfl (gn rfl) rfl
    simp only [nm, seval]
    apply VE.cons
    · first | exact ev_field rfl (gn rfl) rfl Tryd.underlying47 rfl Tryd.sizeOf45 | exact ev_fieldx rfl (gn rfl) rfl Tryd.underlying47 rfl Tryd.sizeOf45
    simp only [nm, seval]
    apply VE.cons
    · exact ev_loadx (vs := tb 12 iv) rfl (gn rfl) rfl Tryd.underlying45 rfl Tryd.sizeOf45 (halfL_iv hh) tb_len
    simp only [nm, seval]
    apply VE.cons
    · exact ev_allocr (l := tb 12 fun _ => 0) rfl rfl (gn rfl) Tryd.zeroValue45 rfl
    simp only [nm, seval]
    apply VE.cons
    · exact ev_sta rfl (gn rfl) rfl rfl rfl Tryd.sizeOf45
    simp only [nm, seval]
    exact VE.nil _
  · kernel_rfl
  change VOk _ _ _ _ _
  refine vseq ?_
  refine vseq ?_
  apply vrp
  · apply VE.cons
    · exact ev_move rfl (gn rfl)
    simp only [nm, seval]
    exact VE.nil _
  · kernel_rfl
  change VOk _ _ _ _ _
  refine vblock ?_
  refine vloop_w (α := {i : Nat // i ≤ 8}) (fun (x : {i : Nat // i ≤ 8}) g => ⟨.v (.pointer (some ⟨gh, 0, none⟩)) :: .v (g 1) :: .p 2 0 :: .p 3 0 :: .v (g 4) :: .v (g 5) :: .v (g 6) :: .v (g 7) :: .v (g 8) :: .v (.int .i64 (x.1 : Nat)) :: .v (g 10) :: .v (g 11) :: .v (g 12) :: .v (g 13) :: .v (g 14) :: .v (g 15) :: .v (g 16) :: .v (g 17) :: .v (g 18) :: .v (g 19) :: .v (g 20) :: .v (g 21) :: .v (g 22) :: .v (g 23) :: .v (g 24) :: .v (g 25) :: .v (g 26) :: .v (g 27) :: [], memOf [(3, .arr (tb 12 (ncI iv n x.1)) 45), (2, .arr (tb 12 fun _ => 0) 45)]⟩) (fun x => 8 - x.1) ?_ (⟨0, Nat.zero_le _⟩) ?_
  · rintro ⟨i, hi⟩ g
    obtain ⟨q, hq⟩ : ∃ q, decide (((i : Nat) : Int) < 8) = q := ⟨_, rfl⟩
    change VOk _ _ _ _ _
    refine vseq ?_
    apply vrp
    · apply VE.cons
      · exact ev_lss rfl (gn rfl) rfl rfl hq
      simp only [nm, seval]
      exact VE.nil _
    · kernel_rfl
    change VOk _ _ _ _ _
    refine vseq ?_
    cases q
    · refine vcond_f rfl ?_
      have hN : i = 8 := by have := of_decide_eq_false hq; omega
      subst hN
      rw [ncI_8]
      refine vexit ?_
      change VOk _ _ _ _ _
      refine vseq ?_
      apply vrp
      · apply VE.cons
        · exact ev_ldt rfl (gn rfl) rfl rfl Tryd.underlying45 rfl Tryd.sizeOf45
        simp only [nm, seval]
        apply VE.cons
        · exact ev_sta rfl (gn rfl) rfl rfl rfl Tryd.sizeOf45
        simp only [nm, seval]
        exact VE.nil _
      · kernel_rfl
      change VOk _ _ _ _ _
      refine vret ?_
      refine post_ret (res1 Tryd.results20 (rv_tb rfl rfl Tryd.underlying45 rfl Tryd.sizeOf45)) ?_
      intro ρ w' hr
      exact ⟨rfl, hr.1⟩
    · refine vcond_t rfl ?_
      have hlt : i < 8 := by have := of_decide_eq_true hq; omega
      refine vskip ?_
      change VOk _ _ _ _ _
      refine vseq ?_
      refine vblock ?_
      refine vseq ?_
      apply vrp
      · apply VE.cons
        · exact ev_move rfl (gn rfl)
        simp only [nm, seval]
        apply VE.cons
        · exact ev_assign rfl (gn rfl)
        simp only [nm, seval]
        exact VE.nil _
      · kernel_rfl
      change VOk _ _ _ _ _
      apply vrd (by kernel_rfl)
      · apply VE.cons
        · exact ev_move rfl (gn rfl)
        simp only [nm, seval]
        apply VE.cons
        · exact ev_sub (c := ((11 - i : Nat) : Int)) rfl (gn rfl) rfl rfl (by rw [i64w (by omega) (by omega)]; omega)
        simp only [nm, seval]
        apply VE.cons
        · exact ev_indexn (k := 11 - i) (j := 11 - i) rfl (gn rfl) rfl rfl Tryd.underlying45 Tryd.sizeOf5 (by omega) (by omega)
        simp only [nm, seval]
        apply VE.cons
        · exact ev_load1r rfl (gn rfl) rfl rfl Tryd.underlying5 rfl (tb_get (by omega))
        simp only [nm, seval]
        apply VE.cons
        · exact ev_move rfl (gn rfl)
        simp only [nm, seval]
        apply VE.cons
        · first | exact ev_nil rfl (gn rfl) rfl | exact ev_nilx rfl (gn rfl) rfl
        simp only [nm, seval]
        apply VE.cons
        · first | exact ev_field rfl (gn rfl) rfl Tryd.underlying47 rfl Tryd.sizeOf3 | exact ev_fieldx rfl (gn rfl) rfl Tryd.underlying47 rfl Tryd.sizeOf3
        simp only [nm, seval]
        apply VE.cons
        · exact ev_loadx1 rfl (gn rfl) rfl Tryd.underlying3 rfl (cell_blk hh (halfL_n _ _ _))
        simp only [nm, seval]
        apply VE.cons
        · exact ev_move rfl (gn rfl)
        simp only [nm, seval]
        apply VE.cons
        · exact ev_bin rfl (gn rfl) rfl rfl (fun w => mulc (a := 8) (b := i) (c := 8 * i) rfl (by omega) _ _ w)
        simp only [nm, seval]
        apply VE.cons
        · exact ev_bin rfl (gn rfl) rfl rfl (fun w => shrc n (8 * i) (by omega) _ _ w)
        simp only [nm, seval]
        apply VE.cons
        · exact ev_conv rfl (gn rfl) rfl (fun w => cvi8 w)
        simp only [nm, seval]
        apply VE.cons
        · exact ev_bin rfl (gn rfl) rfl rfl (fun w => xor8 (ncI_by hiv n i _) (Nat.mod_lt _ (by decide)) _ _ w)
        simp only [nm, seval]
        apply VE.cons
        · exact ev_indexn (k := 11 - i) (j := 11 - i) rfl (gn rfl) rfl rfl Tryd.underlying45 Tryd.sizeOf5 (by omega) (by omega)
        simp only [nm, seval]
        apply VE.cons
        · exact ev_stt (ncI iv n (i + 1)) rfl (gn rfl) rfl rfl rfl Tryd.sizeOf5 (by omega) (fun k _ => ncI_s iv n hlt k)
        simp only [nm, seval]
        exact VE.nil _
      · kernel_rfl
      change VOk _ _ _ _ _
      apply vrp
      · apply VE.cons
        · exact ev_add (c := ((i + 1 : Nat) : Int)) rfl (gn rfl) rfl rfl (by rw [i64w (by omega) (by omega)]; omega)
        simp only [nm, seval]
        apply VE.cons
        · exact ev_move rfl (gn rfl)
        simp only [nm, seval]
        exact VE.nil _
      · kernel_rfl
      refine ⟨⟨i + 1, by omega⟩, by show 8 - (i + 1) < 8 - i; omega, weaker_forget (fun i => i == 0 || i == 2 || i == 3 || i == 9) []⟩
  · exact weaker_forget (fun i => i == 0 || i == 2 || i == 3 || i == 9) []
theorem used_ok {bp : Value} {gh n : Nat} {iv : Nat → Nat} (w : World) (hh : w.heap[gh]? = some (.cells (halfL bp iv n).toArray 47 (0, 0))) : Calls Tryd.prog 10 #[.pointer (some ⟨gh, 0, none⟩)] w fun e w' => e = .returned (.int .i64 (n : Nat)) ∧ Bw w w' := by
  go_enter Tryd.func10, Tryd.ntmps10
  refine ve_go ?_
  simp only [List.map_cons, List.map_nil]
  refine vseq ?_
  apply vrp
  · apply VE.cons
    · exact ev_assign rfl (gn rfl)
    simp only [nm, seval]
    exact VE.nil _
  · kernel_rfl
  change VOk _ _ _ _ _
  refine vseq ?_
  refine vseq ?_
  apply vrp
  · apply VE.cons
    · exact ev_move rfl (gn rfl)
    simp only [nm, seval]
    apply VE.cons
    · exact ev_bin rfl (gn rfl) rfl rfl (fun w => ptr26 _ _ _ w)
    simp only [nm, seval]
    exact VE.nil _
  · kernel_rfl
  change VOk _ _ _ _ _
  refine vcond_f rfl ?_
  refine vskip ?_
  change VOk _ _ _ _ _
  refine vseq ?_
  apply vrp
  · apply VE.cons
    · exact ev_move rfl (gn rfl)
    simp only [nm, seval]
    apply VE.cons
    · first | exact ev_nil rfl (gn rfl) rfl | exact ev_nilx rfl (gn rfl) rfl
    simp only [nm, seval]
    apply VE.cons
    · first | exact ev_field rfl (gn rfl) rfl Tryd.underlying47 rfl Tryd.sizeOf3 | exact ev_fieldx rfl (gn rfl) rfl Tryd.underlying47 rfl Tryd.sizeOf3
    simp only [nm, seval]
    apply VE.cons
    · exact ev_loadx1 rfl (gn rfl) rfl Tryd.underlying3 rfl (cell_blk hh (halfL_n _ _ _))
    simp only [nm, seval]
    apply VE.cons
    · exact ev_assign rfl (gn rfl)
    simp only [nm, seval]
    exact VE.nil _
  · kernel_rfl
  change VOk _ _ _ _ _
  refine vret ?_
  refine post_ret (res1 Tryd.results10 (rv_tmp rfl)) ?_
  intro ρ w' hr
  exact ⟨rfl, hr.1⟩
end Go.Proofs.YtiidceljhmpgcaaDoor
end
section
namespace Go.Proofs.YtiidceljhmpgcaaDoor
open Go.RowKit Go.Vx
open Go.Toll (Gw)
open TollSha
set_option maxHeartbeats 4000000
set_option maxRecDepth 100000
theorem shlc {a : Nat} (h : a < 4294967296) (p q : Operand) (w : World) : (do eqGuard .shl 3 p q (.int .i64 (a : Nat)) (.int .u64 8); binOp .shl 3 (.int .i64 (a : Nat)) (.int .u64 8) : Sem Value).run Tryd.prog w = .ok (.int .i64 ((a * 256 : Nat) : Int)) w := by
  have e : IntKind.i64.wrap ((a : Int) * 256) = ((a * 256 : Nat) : Int) := by rw [i64w (by omega) (by omega)]; omega
  generalize ((a * 256 : Nat) : Int) = z at e
  go_simp
  try exact e
theorem orc {a b : Nat} (ha : a < 65536) (hb : b < 256) (p q : Operand) (w : World) : (do eqGuard .or 3 p q (.int .i64 ((a * 256 : Nat) : Int)) (.int .i64 (b : Nat)); binOp .or 3 (.int .i64 ((a * 256 : Nat) : Int)) (.int .i64 (b : Nat)) : Sem Value).run Tryd.prog w = .ok (.int .i64 ((a * 256 + b : Nat) : Int)) w := by
  have e : bits .or .i64 ((a * 256 : Nat) : Int) (b : Int) = ((a * 256 + b : Nat) : Int) := by
    show IntKind.i64.wrap ((BitVec.ofInt 64 ((a * 256 : Nat) : Int) ||| BitVec.ofInt 64 (b : Int)).toNat : Int) = _
    rw [BitVec.toNat_or, BitVec.toNat_ofInt, BitVec.toNat_ofInt]
    have h1 : (((a * 256 : Nat) : Int) % ((2 ^ 64 : Nat) : Int)).toNat = a * 2 ^ 8 := by omega
    have h2 : ((b : Int) % ((2 ^ 64 : Nat) : Int)).toNat = b := by omega
    rw [h1, h2, ← Nat.shiftLeft_eq, ← Nat.shiftLeft_add_eq_or_of_lt (by omega), Nat.shiftLeft_eq, i64w (by omega) (by omega)]
  generalize ((a * 256 + b : Nat) : Int) = z at e
  generalize ((a * 256 : Nat) : Int) = y at e
  go_simp
  try exact e
theorem sl_tb {w : World} {v : Value} {m a b n : Nat} {f : Nat → Nat} {F : Nat → Prop} (h : SlAt w v m 1 (tb m f) F) (h1 : a ≤ b) (h2 : b ≤ m) (hn : b - a = n) : SlAt w (cutV a b 1 v) n 1 (tb n fun k => f (a + k)) F := by
  have := sl_cut h h1 h2
  rw [Nat.mul_one, Nat.mul_one, tb_drop m a f (m - a) rfl, tb_take _ _ _ (by omega), hn] at this
  exact this
theorem add0 (a : Addr) : a.add 0 = a := rfl
theorem cutV0 {w : World} {v : Value} {m : Nat} {l : List Value} {S : Nat → Prop} (h : SlAt w v m 1 l S) : cutV 0 m 1 v = v := by
  obtain ⟨ao, cap, rfl, _⟩ := h
  unfold cutV
  cases ao <;> simp [add0]
theorem cutVV {w : World} {v : Value} {m j i : Nat} {l : List Value} {S : Nat → Prop} (h : SlAt w v m 1 l S) : cutV 0 i 1 (cutV 0 j 1 v) = cutV 0 i 1 v := by
  obtain ⟨ao, cap, rfl, _⟩ := h
  unfold cutV
  cases ao <;> simp [add0]
theorem split_ok {v : Value} {n : Nat} {f : Nat → Nat} {F : Nat → Prop} (w : World) (hv : SlAt w v (5 + n) 1 (tb (5 + n) f) F) (h0 : f 0 = 23) (h1 : f 1 = 3) (h2 : f 2 = 3) (h3 : f 3 = n / 256) (h4 : f 4 = n % 256) (hn : n ≤ 16640) : Calls Tryd.prog 30 #[v] w fun e w' => e = .returned (.tuple #[cutV 0 (5 + n) 1 v, cutV (5 + n) (5 + n) 1 v, .int .i64 0]) ∧ Bw w w' := by
  have hc3 := sl_tb (a := 0) (b := 3) (n := 3) hv (by decide) (by omega) rfl
  go_enter Tryd.func30, Tryd.ntmps30
  refine ve_go ?_
  simp only [List.map_cons, List.map_nil]
  refine vseq ?_
  apply vrp
  · apply VE.cons
    · exact ev_assign rfl (gn rfl)
    simp only [nm, seval]
    apply VE.cons
    · exact ev_assign rfl (gn rfl)
    simp only [nm, seval]
    apply VE.cons
    · exact ev_assign rfl (gn rfl)
    simp only [nm, seval]
    exact VE.nil _
  · kernel_rfl
  change VOk _ _ _ _ _
  refine vseq ?_
  refine vseq ?_
  apply vrp
  · apply VE.cons
    · exact ev_move rfl (gn rfl)
    simp only [nm, seval]
    apply VE.cons
    · exact ev_move rfl (gn rfl)
    simp only [nm, seval]
    apply VE.cons
    · exact ev_len rfl (gn rfl) rfl Tryd.underlying28 (rdg_arg hv)
    simp only [nm, seval]
    apply VE.cons
    · exact ev_min (a := 5 + n) (b := 3) (c := 3) rfl (gn rfl) rfl rfl (by omega)
    simp only [nm, seval]
    apply VE.cons
    · exact ev_cutx (a := 0) (b := 3) rfl (gn rfl) rfl Tryd.underlying28 Tryd.sizeOf5 (rdg_arg hv) rfl rfl (by decide) (by omega) rfl
    simp only [nm, seval]
    apply VE.cons
    · exact ev_len rfl (gn rfl) rfl Tryd.underlying28 (rdg_arg hc3)
    simp only [nm, seval]
    apply VE.cons
    · exact ev_move rfl (gn rfl)
    simp only [nm, seval]
    exact VE.nil _
  · kernel_rfl
  change VOk _ _ _ _ _
  refine vblock ?_
  refine vloop 4 ?_
  change VOk _ _ _ _ _
  refine vseq ?_
  apply vrp
  · apply VE.cons
    · exact ev_lss (p := true) rfl (gn rfl) rfl rfl (by decide)
    simp only [nm, seval]
    exact VE.nil _
  · kernel_rfl
  change VOk _ _ _ _ _
  refine vseq ?_
  refine vcond_t rfl ?_
  refine vskip ?_
  change VOk _ _ _ _ _
  refine vseq ?_
  refine vblock ?_
  refine vseq ?_
  apply vrp
  · apply VE.cons
    · exact ev_move rfl (gn rfl)
    simp only [nm, seval]
    apply VE.cons
    · exact ev_idx (k := 0) rfl (gn rfl) rfl rfl Tryd.underlying28 Tryd.sizeOf5 (rdg_arg hc3) (by decide) (by decide)
    simp only [nm, seval]
    apply VE.cons
    · exact ev_loadi (v := b8 23) rfl (gn rfl) rfl Tryd.underlying5 rfl (rdg_arg hc3) (by rw [tb_get (by decide)]; show some (b8 (f (0 + 0))) = _; rw [Nat.zero_add, h0])
    simp only [nm, seval]
    apply VE.cons
    · exact ev_assign rfl (gn rfl)
    simp only [nm, seval]
    apply VE.cons
    · exact ev_assign rfl (gn rfl)
    simp only [nm, seval]
    exact VE.nil _
  · kernel_rfl
  change VOk _ _ _ _ _
  refine vseq ?_
  apply vrp
  · apply VE.cons
    · exact ev_move rfl (gn rfl)
    simp only [nm, seval]
    apply VE.cons
    · exact ev_eql (p := true) rfl (gn rfl) rfl rfl (by decide)
    simp only [nm, seval]
    apply VE.cons
    · exact ev_move rfl (gn rfl)
    simp only [nm, seval]
    apply VE.cons
    · first | exact Ev.skip (fun _ => rfl) | exact ev_move rfl (fun _ => rfl)
    simp only [nm, seval]
    apply VE.cons
    · first | exact Ev.skip (fun _ => rfl) | exact ev_conv (c := .int .i64 ((23 : Nat) : Int)) rfl (fun _ => rfl) rfl (fun w => cv8i (n := 23) (by decide) w)
    simp only [nm, seval]
    apply VE.cons
    · first | exact Ev.skip (fun _ => rfl) | exact ev_callb rfl (fun _ => rfl) rfl (en_of Tryd.func16 (by kernel_rfl) rfl) (fun w' hb => kind_ok (k := 23) (by decide) (by decide) w')
    simp only [nm, seval]
    apply VE.cons
    · first | exact Ev.skip (fun _ => rfl) | exact ev_not rfl (fun _ => rfl) rfl
    simp only [nm, seval]
    apply VE.cons
    · first | exact ev_pick_t rfl (gn rfl) rfl rfl | exact ev_pick_f rfl (gn rfl) rfl rfl
    simp only [nm, seval]
    apply VE.cons
    · exact ev_move rfl (gn rfl)
    simp only [nm, seval]
    apply VE.cons
    · first | exact Ev.skip (fun _ => rfl) | exact ev_move rfl (fun _ => rfl)
    simp only [nm, seval]
    apply VE.cons
    · first | exact Ev.skip (fun _ => rfl) | exact ev_gtr (p := false) rfl (fun _ => rfl) rfl rfl (by decide)
    simp only [nm, seval]
    apply VE.cons
    · first | exact Ev.skip (fun _ => rfl) | exact ev_move rfl (fun _ => rfl)
    simp only [nm, seval]
    apply VE.cons
    · first | exact Ev.skip (fun _ => rfl) | exact ev_move rfl (fun _ => rfl)
    simp only [nm, seval]
    apply VE.cons
    · first | exact Ev.skip (fun _ => rfl) | exact ev_bin (c := .bool false) rfl (fun _ => rfl) rfl rfl (fun w => neq8 (b := 3) (c := 3) _ _ w)
    simp only [nm, seval]
    apply VE.cons
    · first | exact Ev.skip (fun _ => rfl) | exact ev_pick_t rfl (fun _ => rfl) rfl rfl | exact ev_pick_f rfl (fun _ => rfl) rfl rfl
    simp only [nm, seval]
    apply VE.cons
    · first | exact ev_pick_t rfl (gn rfl) rfl rfl | exact ev_pick_f rfl (gn rfl) rfl rfl
    simp only [nm, seval]
    exact VE.nil _
  · kernel_rfl
  change VOk _ _ _ _ _
  refine vcond_f rfl ?_
  refine vskip ?_
  change VOk _ _ _ _ _
  apply vrp
  · apply VE.cons
    · exact ev_add (c := 1) rfl (gn rfl) rfl rfl (by decide)
    simp only [nm, seval]
    apply VE.cons
    · exact ev_move rfl (gn rfl)
    simp only [nm, seval]
    exact VE.nil _
  · kernel_rfl
  change VOk _ _ _ _ _
  refine vseq ?_
  apply vrp
  · apply VE.cons
    · exact ev_lss (p := true) rfl (gn rfl) rfl rfl (by decide)
    simp only [nm, seval]
    exact VE.nil _
  · kernel_rfl
  change VOk _ _ _ _ _
  refine vseq ?_
  refine vcond_t rfl ?_
  refine vskip ?_
  change VOk _ _ _ _ _
  refine vseq ?_
  refine vblock ?_
  refine vseq ?_
  apply vrp
  · apply VE.cons
    · exact ev_move rfl (gn rfl)
    simp only [nm, seval]
    apply VE.cons
    · exact ev_idx (k := 1) rfl (gn rfl) rfl rfl Tryd.underlying28 Tryd.sizeOf5 (rdg_arg hc3) (by decide) (by decide)
    simp only [nm, seval]
    apply VE.cons
    · exact ev_loadi (v := b8 3) rfl (gn rfl) rfl Tryd.underlying5 rfl (rdg_arg hc3) (by rw [tb_get (by decide)]; show some (b8 (f (0 + 1))) = _; rw [Nat.zero_add, h1])
    simp only [nm, seval]
    apply VE.cons
    · exact ev_assign rfl (gn rfl)
    simp only [nm, seval]
    apply VE.cons
    · exact ev_assign rfl (gn rfl)
    simp only [nm, seval]
    exact VE.nil _
  · kernel_rfl
  change VOk _ _ _ _ _
  refine vseq ?_
  apply vrp
  · apply VE.cons
    · exact ev_move rfl (gn rfl)
    simp only [nm, seval]
    apply VE.cons
    · exact ev_eql (p := false) rfl (gn rfl) rfl rfl (by decide)
    simp only [nm, seval]
    apply VE.cons
    · exact ev_move rfl (gn rfl)
    simp only [nm, seval]
    apply VE.cons
    · first | exact Ev.skip (fun _ => rfl) | exact ev_move rfl (fun _ => rfl)
    simp only [nm, seval]
    apply VE.cons
    · first | exact Ev.skip (fun _ => rfl) | exact ev_conv (c := .int .i64 ((23 : Nat) : Int)) rfl (fun _ => rfl) rfl (fun w => cv8i (n := 23) (by decide) w)
    simp only [nm, seval]
    apply VE.cons
    · first | exact Ev.skip (fun _ => rfl) | exact ev_callb rfl (fun _ => rfl) rfl (en_of Tryd.func16 (by kernel_rfl) rfl) (fun w' hb => kind_ok (k := 23) (by decide) (by decide) w')
    simp only [nm, seval]
    apply VE.cons
    · first | exact Ev.skip (fun _ => rfl) | exact ev_not rfl (fun _ => rfl) rfl
    simp only [nm, seval]
    apply VE.cons
    · first | exact ev_pick_t rfl (gn rfl) rfl rfl | exact ev_pick_f rfl (gn rfl) rfl rfl
    simp only [nm, seval]
    apply VE.cons
    · exact ev_move rfl (gn rfl)
    simp only [nm, seval]
    apply VE.cons
    · first | exact Ev.skip (fun _ => rfl) | exact ev_move rfl (fun _ => rfl)
    simp only [nm, seval]
    apply VE.cons
    · first | exact Ev.skip (fun _ => rfl) | exact ev_gtr (p := true) rfl (fun _ => rfl) rfl rfl (by decide)
    simp only [nm, seval]
    apply VE.cons
    · first | exact Ev.skip (fun _ => rfl) | exact ev_move rfl (fun _ => rfl)
    simp only [nm, seval]
    apply VE.cons
    · first | exact Ev.skip (fun _ => rfl) | exact ev_move rfl (fun _ => rfl)
    simp only [nm, seval]
    apply VE.cons
    · first | exact Ev.skip (fun _ => rfl) | exact ev_bin (c := .bool false) rfl (fun _ => rfl) rfl rfl (fun w => neq8 (b := 3) (c := 3) _ _ w)
    simp only [nm, seval]
    apply VE.cons
    · first | exact Ev.skip (fun _ => rfl) | exact ev_pick_t rfl (fun _ => rfl) rfl rfl | exact ev_pick_f rfl (fun _ => rfl) rfl rfl
    simp only [nm, seval]
    apply VE.cons
    · first | exact ev_pick_t rfl (gn rfl) rfl rfl | exact ev_pick_f rfl (gn rfl) rfl rfl
    simp only [nm, seval]
    exact VE.nil _
  · kernel_rfl
  change VOk _ _ _ _ _
  refine vcond_f rfl ?_
  refine vskip ?_
  change VOk _ _ _ _ _
  apply vrp
  · apply VE.cons
    · exact ev_add (c := 2) rfl (gn rfl) rfl rfl (by decide)
    simp only [nm, seval]
    apply VE.cons
    · exact ev_move rfl (gn rfl)
    simp only [nm, seval]
    exact VE.nil _
  · kernel_rfl
  change VOk _ _ _ _ _
  refine vseq ?_
  apply vrp
  · apply VE.cons
    · exact ev_lss (p := true) rfl (gn rfl) rfl rfl (by decide)
    simp only [nm, seval]
    exact VE.nil _
  · kernel_rfl
  change VOk _ _ _ _ _
  refine vseq ?_
  refine vcond_t rfl ?_
  refine vskip ?_
  change VOk _ _ _ _ _
  refine vseq ?_
  refine vblock ?_
  refine vseq ?_
  apply vrp
  · apply VE.cons
    · exact ev_move rfl (gn rfl)
    simp only [nm, seval]
    apply VE.cons
    · exact ev_idx (k := 2) rfl (gn rfl) rfl rfl Tryd.underlying28 Tryd.sizeOf5 (rdg_arg hc3) (by decide) (by decide)
    simp only [nm, seval]
    apply VE.cons
    · exact ev_loadi (v := b8 3) rfl (gn rfl) rfl Tryd.underlying5 rfl (rdg_arg hc3) (by rw [tb_get (by decide)]; show some (b8 (f (0 + 2))) = _; rw [Nat.zero_add, h2])
    simp only [nm, seval]
    apply VE.cons
    · exact ev_assign rfl (gn rfl)
    simp only [nm, seval]
    apply VE.cons
    · exact ev_assign rfl (gn rfl)
    simp only [nm, seval]
    exact VE.nil _
  · kernel_rfl
  change VOk _ _ _ _ _
  refine vseq ?_
  apply vrp
  · apply VE.cons
    · exact ev_move rfl (gn rfl)
    simp only [nm, seval]
    apply VE.cons
    · exact ev_eql (p := false) rfl (gn rfl) rfl rfl (by decide)
    simp only [nm, seval]
    apply VE.cons
    · exact ev_move rfl (gn rfl)
    simp only [nm, seval]
    apply VE.cons
    · first | exact Ev.skip (fun _ => rfl) | exact ev_move rfl (fun _ => rfl)
    simp only [nm, seval]
    apply VE.cons
    · first | exact Ev.skip (fun _ => rfl) | exact ev_conv (c := .int .i64 ((23 : Nat) : Int)) rfl (fun _ => rfl) rfl (fun w => cv8i (n := 23) (by decide) w)
    simp only [nm, seval]
    apply VE.cons
    · first | exact Ev.skip (fun _ => rfl) | exact ev_callb rfl (fun _ => rfl) rfl (en_of Tryd.func16 (by kernel_rfl) rfl) (fun w' hb => kind_ok (k := 23) (by decide) (by decide) w')
    simp only [nm, seval]
    apply VE.cons
    · first | exact Ev.skip (fun _ => rfl) | exact ev_not rfl (fun _ => rfl) rfl
    simp only [nm, seval]
    apply VE.cons
    · first | exact ev_pick_t rfl (gn rfl) rfl rfl | exact ev_pick_f rfl (gn rfl) rfl rfl
    simp only [nm, seval]
    apply VE.cons
    · exact ev_move rfl (gn rfl)
    simp only [nm, seval]
    apply VE.cons
    · first | exact Ev.skip (fun _ => rfl) | exact ev_move rfl (fun _ => rfl)
    simp only [nm, seval]
    apply VE.cons
    · first | exact Ev.skip (fun _ => rfl) | exact ev_gtr (p := true) rfl (fun _ => rfl) rfl rfl (by decide)
    simp only [nm, seval]
    apply VE.cons
    · first | exact Ev.skip (fun _ => rfl) | exact ev_move rfl (fun _ => rfl)
    simp only [nm, seval]
    apply VE.cons
    · first | exact Ev.skip (fun _ => rfl) | exact ev_move rfl (fun _ => rfl)
    simp only [nm, seval]
    apply VE.cons
    · first | exact Ev.skip (fun _ => rfl) | exact ev_bin (c := .bool false) rfl (fun _ => rfl) rfl rfl (fun w => neq8 (b := 3) (c := 3) _ _ w)
    simp only [nm, seval]
    apply VE.cons
    · first | exact Ev.skip (fun _ => rfl) | exact ev_pick_t rfl (fun _ => rfl) rfl rfl | exact ev_pick_f rfl (fun _ => rfl) rfl rfl
    simp only [nm, seval]
    apply VE.cons
    · first | exact ev_pick_t rfl (gn rfl) rfl rfl | exact ev_pick_f rfl (gn rfl) rfl rfl
    simp only [nm, seval]
    exact VE.nil _
  · kernel_rfl
  change VOk _ _ _ _ _
  refine vcond_f rfl ?_
  refine vskip ?_
  change VOk _ _ _ _ _
  apply vrp
  · apply VE.cons
    · exact ev_add (c := 3) rfl (gn rfl) rfl rfl (by decide)
    simp only [nm, seval]
    apply VE.cons
    · exact ev_move rfl (gn rfl)
    simp only [nm, seval]
    exact VE.nil _
  · kernel_rfl
  change VOk _ _ _ _ _
  refine vseq ?_
  apply vrp
  · apply VE.cons
    · exact ev_lss (p := false) rfl (gn rfl) rfl rfl (by decide)
    simp only [nm, seval]
    exact VE.nil _
  · kernel_rfl
  change VOk _ _ _ _ _
  refine vseq ?_
  refine vcond_f rfl ?_
  refine vexit ?_
  change VOk _ _ _ _ _
  refine vseq ?_
  refine vseq ?_
  apply vrp
  · apply VE.cons
    · exact ev_move rfl (gn rfl)
    simp only [nm, seval]
    apply VE.cons
    · exact ev_len rfl (gn rfl) rfl Tryd.underlying28 (rdg_arg hv)
    simp only [nm, seval]
    apply VE.cons
    · exact ev_lss (p := false) rfl (gn rfl) rfl rfl (decide_eq_false (by omega))
    simp only [nm, seval]
    exact VE.nil _
  · kernel_rfl
  change VOk _ _ _ _ _
  refine vcond_f rfl ?_
  refine vskip ?_
  change VOk _ _ _ _ _
  refine vseq ?_
  apply vrd (by kernel_rfl)
  · apply VE.cons
    · exact ev_move rfl (gn rfl)
    simp only [nm, seval]
    apply VE.cons
    · exact ev_idx (k := 3) rfl (gn rfl) rfl rfl Tryd.underlying28 Tryd.sizeOf5 (rdg_arg hv) (by omega) (by decide)
    simp only [nm, seval]
    apply VE.cons
    · exact ev_loadi (v := b8 (n / 256)) rfl (gn rfl) rfl Tryd.underlying5 rfl (rdg_arg hv) (by rw [tb_get (by omega), h3])
    simp only [nm, seval]
    apply VE.cons
    · exact ev_conv rfl (gn rfl) rfl (fun w => cv8i (by omega) w)
    simp only [nm, seval]
    apply VE.cons
    · exact ev_bin rfl (gn rfl) rfl rfl (fun w => shlc (by omega) _ _ w)
    simp only [nm, seval]
    apply VE.cons
    · exact ev_move rfl (gn rfl)
    simp only [nm, seval]
    apply VE.cons
    · exact ev_idx (k := 4) rfl (gn rfl) rfl rfl Tryd.underlying28 Tryd.sizeOf5 (rdg_arg hv) (by omega) (by decide)
    simp only [nm, seval]
    apply VE.cons
    · exact ev_loadi (v := b8 (n % 256)) rfl (gn rfl) rfl Tryd.underlying5 rfl (rdg_arg hv) (by rw [tb_get (by omega), h4])
    simp only [nm, seval]
    apply VE.cons
    · exact ev_conv rfl (gn rfl) rfl (fun w => cv8i (by omega) w)
    simp only [nm, seval]
    apply VE.cons
    · exact ev_bin (c := .int .i64 (n : Nat)) rfl (gn rfl) rfl rfl (fun w => by have := orc (a := n / 256) (b := n % 256) (by omega) (by omega) (.tmp 43) (.tmp 47) w; rwa [show n / 256 * 256 + n % 256 = n by omega] at this)
    simp only [nm, seval]
    apply VE.cons
    · exact ev_assign rfl (gn rfl)
    simp only [nm, seval]
    exact VE.nil _
  · kernel_rfl
  change VOk _ _ _ _ _
  refine vseq ?_
  refine vblock ?_
  refine vseq ?_
  apply vrp
  · apply VE.cons
    · exact ev_move rfl (gn rfl)
    simp only [nm, seval]
    apply VE.cons
    · exact ev_gtr (p := false) rfl (gn rfl) rfl rfl (decide_eq_false (by omega))
    simp only [nm, seval]
    apply VE.cons
    · exact ev_assign rfl (gn rfl)
    simp only [nm, seval]
    exact VE.nil _
  · kernel_rfl
  change VOk _ _ _ _ _
  refine vcond_f rfl ?_
  refine vseq ?_
  apply vrp
  · apply VE.cons
    · exact ev_move rfl (gn rfl)
    simp only [nm, seval]
    apply VE.cons
    · exact ev_move rfl (gn rfl)
    simp only [nm, seval]
    apply VE.cons
    · exact ev_len rfl (gn rfl) rfl Tryd.underlying28 (rdg_arg hv)
    simp only [nm, seval]
    apply VE.cons
    · exact ev_sub (c := ((n : Nat) : Int)) rfl (gn rfl) rfl rfl (by rw [i64w (by omega) (by omega)]; omega)
    simp only [nm, seval]
    apply VE.cons
    · exact ev_gtr (p := false) rfl (gn rfl) rfl rfl (decide_eq_false (by omega))
    simp only [nm, seval]
    apply VE.cons
    · exact ev_assign rfl (gn rfl)
    simp only [nm, seval]
    exact VE.nil _
  · kernel_rfl
  change VOk _ _ _ _ _
  refine vcond_f rfl ?_
  refine vskip ?_
  change VOk _ _ _ _ _
  refine vseq ?_
  apply vrd (by kernel_rfl)
  · apply VE.cons
    · exact ev_move rfl (gn rfl)
    simp only [nm, seval]
    apply VE.cons
    · exact ev_move rfl (gn rfl)
    simp only [nm, seval]
    apply VE.cons
    · exact ev_add (c := ((5 + n : Nat) : Int)) rfl (gn rfl) rfl rfl (by rw [i64w (by omega) (by omega)]; omega)
    simp only [nm, seval]
    apply VE.cons
    · exact ev_cutx (a := 0) (b := 5 + n) rfl (gn rfl) rfl Tryd.underlying28 Tryd.sizeOf5 (rdg_arg hv) rfl rfl (by omega) (by omega) rfl
    simp only [nm, seval]
    apply VE.cons
    · exact ev_move rfl (gn rfl)
    simp only [nm, seval]
    apply VE.cons
    · exact ev_move rfl (gn rfl)
    simp only [nm, seval]
    apply VE.cons
    · exact ev_add (c := ((5 + n : Nat) : Int)) rfl (gn rfl) rfl rfl (by rw [i64w (by omega) (by omega)]; omega)
    simp only [nm, seval]
    apply VE.cons
    · exact ev_cutx (a := 5 + n) (b := 5 + n) rfl (gn rfl) rfl Tryd.underlying28 Tryd.sizeOf5 (rdg_arg hv) rfl rfl (by omega) (by omega) rfl
    simp only [nm, seval]
    apply VE.cons
    · exact ev_assign rfl (gn rfl)
    simp only [nm, seval]
    apply VE.cons
    · exact ev_assign rfl (gn rfl)
    simp only [nm, seval]
    apply VE.cons
    · exact ev_assign rfl (gn rfl)
    simp only [nm, seval]
    exact VE.nil _
  · kernel_rfl
  change VOk _ _ _ _ _
  refine vret ?_
  refine post_ret (res3 Tryd.results30 (rv_tmp rfl) (rv_tmp rfl) (rv_tmp rfl)) ?_
  intro ρ w' hr
  exact ⟨rfl, hr.1⟩
theorem alone_ok {v : Value} {n : Nat} {f : Nat → Nat} {F : Nat → Prop} (w : World) (hv : SlAt w v (5 + n) 1 (tb (5 + n) f) F) (h0 : f 0 = 23) (h1 : f 1 = 3) (h2 : f 2 = 3) (h3 : f 3 = n / 256) (h4 : f 4 = n % 256) (hn : n ≤ 16640) : Calls Tryd.prog 21 #[v] w fun e w' => e = .returned (.int .i64 0) ∧ Bw w w' := by
  have hr0 := sl_tb (a := 5 + n) (b := 5 + n) (n := 0) hv (Nat.le_refl _) (Nat.le_refl _) (Nat.sub_self _)
  go_enter Tryd.func21, Tryd.ntmps21
  refine ve_go ?_
  simp only [List.map_cons, List.map_nil]
  refine vseq ?_
  apply vrp
  · apply VE.cons
    · exact ev_assign rfl (gn rfl)
    simp only [nm, seval]
    exact VE.nil _
  · kernel_rfl
  change VOk _ _ _ _ _
  refine vseq ?_
  apply vrp
  · apply VE.cons
    · exact ev_move rfl (gn rfl)
    simp only [nm, seval]
    apply VE.cons
    · exact ev_callb rfl (gn rfl) rfl (en_of Tryd.func30 (by kernel_rfl) rfl) (fun w' hb => split_ok w' (sl_bw hv hb) h0 h1 h2 h3 h4 hn)
    simp only [nm, seval]
    apply VE.cons
    · exact ev_move rfl (gn rfl)
    simp only [nm, seval]
    apply VE.cons
    · first | exact ev_extract rfl (gn rfl) rfl rfl | exact ev_extractt rfl (gn rfl) rfl rfl
    simp only [nm, seval]
    apply VE.cons
    · first | exact ev_extract rfl (gn rfl) rfl rfl | exact ev_extractt rfl (gn rfl) rfl rfl
    simp only [nm, seval]
    apply VE.cons
    · first | exact ev_extract rfl (gn rfl) rfl rfl | exact ev_extractt rfl (gn rfl) rfl rfl
    simp only [nm, seval]
    apply VE.cons
    · exact ev_assign rfl (gn rfl)
    simp only [nm, seval]
    apply VE.cons
    · exact ev_assign rfl (gn rfl)
    simp only [nm, seval]
    apply VE.cons
    · exact ev_assign rfl (gn rfl)
    simp only [nm, seval]
    exact VE.nil _
  · kernel_rfl
  change VOk _ _ _ _ _
  refine vseq ?_
  refine vseq ?_
  apply vrp
  · apply VE.cons
    · exact ev_move rfl (gn rfl)
    simp only [nm, seval]
    apply VE.cons
    · exact ev_eql (p := true) rfl (gn rfl) rfl rfl (by decide)
    simp only [nm, seval]
    apply VE.cons
    · exact ev_move rfl (gn rfl)
    simp only [nm, seval]
    apply VE.cons
    · first | exact Ev.skip (fun _ => rfl) | exact ev_move rfl (fun _ => rfl)
    simp only [nm, seval]
    apply VE.cons
    · first | exact Ev.skip (fun _ => rfl) | exact ev_len (n := 0) rfl (fun _ => rfl) rfl Tryd.underlying28 (rdg_arg hr0)
    simp only [nm, seval]
    apply VE.cons
    · first | exact Ev.skip (fun _ => rfl) | exact ev_gtr (p := false) rfl (fun _ => rfl) rfl rfl (by decide)
    simp only [nm, seval]
    apply VE.cons
    · first | exact ev_pick_t rfl (gn rfl) rfl rfl | exact ev_pick_f rfl (gn rfl) rfl rfl
    simp only [nm, seval]
    exact VE.nil _
  · kernel_rfl
  change VOk _ _ _ _ _
  refine vcond_f rfl ?_
  refine vskip ?_
  change VOk _ _ _ _ _
  refine vseq ?_
  apply vrp
  · apply VE.cons
    · exact ev_move rfl (gn rfl)
    simp only [nm, seval]
    apply VE.cons
    · exact ev_assign rfl (gn rfl)
    simp only [nm, seval]
    exact VE.nil _
  · kernel_rfl
  change VOk _ _ _ _ _
  refine vret ?_
  refine post_ret (res1 Tryd.results21 (rv_tmp rfl)) ?_
  intro ρ w' hr
  exact ⟨rfl, hr.1⟩
theorem trimb_ok {v : Value} {m k : Nat} {f : Nat → Nat} {F : Nat → Prop} (w : World) (hv : SlAt w v m 1 (tb m f) F) (hk : k ≤ m) (hz : ∀ j, k ≤ j → j < m → f j = 0) (hl : 0 < k → f (k - 1) ≠ 0) (hm : m ≤ 1073741824) : Calls Tryd.prog 32 #[v, b8 0] w fun e w' => e = .returned (cutV 0 k 1 v) ∧ Bw w w' := by
  go_enter Tryd.func32, Tryd.ntmps32
  refine ve_go ?_
  simp only [List.map_cons, List.map_nil]
  refine vseq ?_
  apply vrp
  · apply VE.cons
    · exact ev_assign rfl (gn rfl)
    simp only [nm, seval]
    exact VE.nil _
  · kernel_rfl
  change VOk _ _ _ _ _
  refine vseq ?_
  refine vblock ?_
  refine vloop_w (α := {j : Nat // k ≤ j ∧ j ≤ m}) (fun (x : {j : Nat // k ≤ j ∧ j ≤ m}) g => ⟨.v (cutV 0 x.1 1 v) :: .v (b8 0) :: .v (g 2) :: .v (g 3) :: .v (g 4) :: .v (g 5) :: .v (g 6) :: .v (g 7) :: .v (g 8) :: .v (g 9) :: .v (g 10) :: .v (g 11) :: .v (g 12) :: .v (g 13) :: .v (g 14) :: .v (g 15) :: .v (g 16) :: .v (g 17) :: .v (g 18) :: .v (g 19) :: .v (g 20) :: .v (g 21) :: .v (g 22) :: .v (g 23) :: [], memOf []⟩) (fun x => x.1) ?_ (⟨m, hk, Nat.le_refl _⟩) ?_
  · rintro ⟨j, hj1, hj2⟩ g
    have hvj := sl_tb (a := 0) (b := j) (n := j) hv (Nat.zero_le _) hj2 rfl
    change VOk _ _ _ _ _
    refine vseq ?_
    refine vseq ?_
    have h3 : (j = k ∧ k = 0) ∨ (j = k ∧ 0 < k) ∨ k < j := by omega
    rcases h3 with ⟨hjk, hk0⟩ | ⟨hjk, hk0⟩ | hjk
    · subst hjk
      apply vrp
      · apply VE.cons
        · exact ev_move rfl (gn rfl)
        simp only [nm, seval]
        apply VE.cons
        · exact ev_len rfl (gn rfl) rfl Tryd.underlying28 (rdg_arg hvj)
        simp only [nm, seval]
        apply VE.cons
        · exact ev_gtr (p := false) rfl (gn rfl) rfl rfl (decide_eq_false (by omega))
        simp only [nm, seval]
        apply VE.cons
        · exact ev_move rfl (gn rfl)
        simp only [nm, seval]
        apply VE.cons
        · first | exact Ev.skip (fun _ => rfl) | exact ev_move rfl (fun _ => rfl)
        simp only [nm, seval]
        apply VE.cons
        · first | exact Ev.skip (fun _ => rfl) | exact ev_move rfl (fun _ => rfl)
        simp only [nm, seval]
        apply VE.cons
        · first | exact Ev.skip (fun _ => rfl) | exact ev_len rfl (fun _ => rfl) rfl Tryd.underlying28 (rdg_arg hvj)
        simp only [nm, seval]
        apply VE.cons
        · first | exact Ev.skip (fun _ => rfl) | exact ev_sub (c := ((j - 1 : Nat) : Int)) rfl (fun _ => rfl) rfl rfl (by rw [i64w (by omega) (by omega)]; omega)
        simp only [nm, seval]
        apply VE.cons
        · first | exact Ev.skip (fun _ => rfl) | exact ev_idx (k := j - 1) rfl (fun _ => rfl) rfl rfl Tryd.underlying28 Tryd.sizeOf5 (rdg_arg hvj) (by omega) (by decide)
        simp only [nm, seval]
        apply VE.cons
        · first | exact Ev.skip (fun _ => rfl) | exact ev_loadi (v := b8 (f (j - 1))) rfl (fun _ => rfl) rfl Tryd.underlying5 rfl (rdg_arg hvj) (by rw [tb_get (by omega), Nat.zero_add])
        simp only [nm, seval]
        apply VE.cons
        · first | exact Ev.skip (fun _ => rfl) | exact ev_move rfl (fun _ => rfl)
        simp only [nm, seval]
        apply VE.cons
        · first | exact Ev.skip (fun _ => rfl) | refine ev_pure' (fun _ => rfl) (fun ρ w => by simp only [VS.act, SV.c, List.map_cons, List.map_nil]; go_simp; exact rfl) (fun _ _ => rfl)
        simp only [nm, seval]
        apply VE.cons
        · first | exact ev_pick_t rfl (gn rfl) rfl rfl | exact ev_pick_f rfl (gn rfl) rfl rfl
        simp only [nm, seval]
        exact VE.nil _
      · kernel_rfl
      change VOk _ _ _ _ _
      refine vcond_f rfl ?_
      refine vexit ?_
      change VOk _ _ _ _ _
      refine vseq ?_
      apply vrp
      · apply VE.cons
        · exact ev_move rfl (gn rfl)
        simp only [nm, seval]
        apply VE.cons
        · exact ev_assign rfl (gn rfl)
        simp only [nm, seval]
        exact VE.nil _
      · kernel_rfl
      change VOk _ _ _ _ _
      refine vret ?_
      refine post_ret (res1 Tryd.results32 (rv_tmp rfl)) ?_
      intro ρ w' hr
      exact ⟨rfl, hr.1⟩
    · subst hjk
      have e : decide (f (j - 1) = 0) = false := decide_eq_false (hl hk0)
      apply vrp
      · apply VE.cons
        · exact ev_move rfl (gn rfl)
        simp only [nm, seval]
        apply VE.cons
        · exact ev_len rfl (gn rfl) rfl Tryd.underlying28 (rdg_arg hvj)
        simp only [nm, seval]
        apply VE.cons
        · exact ev_gtr (p := true) rfl (gn rfl) rfl rfl (decide_eq_true (by omega))
        simp only [nm, seval]
        apply VE.cons
        · exact ev_move rfl (gn rfl)
        simp only [nm, seval]
        apply VE.cons
        · first | exact Ev.skip (fun _ => rfl) | exact ev_move rfl (fun _ => rfl)
        simp only [nm, seval]
        apply VE.cons
        · first | exact Ev.skip (fun _ => rfl) | exact ev_move rfl (fun _ => rfl)
        simp only [nm, seval]
        apply VE.cons
        · first | exact Ev.skip (fun _ => rfl) | exact ev_len rfl (fun _ => rfl) rfl Tryd.underlying28 (rdg_arg hvj)
        simp only [nm, seval]
        apply VE.cons
        · first | exact Ev.skip (fun _ => rfl) | exact ev_sub (c := ((j - 1 : Nat) : Int)) rfl (fun _ => rfl) rfl rfl (by rw [i64w (by omega) (by omega)]; omega)
        simp only [nm, seval]
        apply VE.cons
        · first | exact Ev.skip (fun _ => rfl) | exact ev_idx (k := j - 1) rfl (fun _ => rfl) rfl rfl Tryd.underlying28 Tryd.sizeOf5 (rdg_arg hvj) (by omega) (by decide)
        simp only [nm, seval]
        apply VE.cons
        · first | exact Ev.skip (fun _ => rfl) | exact ev_loadi (v := b8 (f (j - 1))) rfl (fun _ => rfl) rfl Tryd.underlying5 rfl (rdg_arg hvj) (by rw [tb_get (by omega), Nat.zero_add])
        simp only [nm, seval]
        apply VE.cons
        · first | exact Ev.skip (fun _ => rfl) | exact ev_move rfl (fun _ => rfl)
        simp only [nm, seval]
        apply VE.cons
        · first | exact Ev.skip (fun _ => rfl) | exact ev_bin (c := .bool false) rfl (fun _ => rfl) rfl rfl (fun w => by have := eql8 (b := f (j - 1)) (c := 0) (.tmp 14) (.tmp 15) w; rw [e] at this; exact this)
        simp only [nm, seval]
        apply VE.cons
        · first | exact ev_pick_t rfl (gn rfl) rfl rfl | exact ev_pick_f rfl (gn rfl) rfl rfl
        simp only [nm, seval]
        exact VE.nil _
      · kernel_rfl
      change VOk _ _ _ _ _
      refine vcond_f rfl ?_
      refine vexit ?_
      change VOk _ _ _ _ _
      refine vseq ?_
      apply vrp
      · apply VE.cons
        · exact ev_move rfl (gn rfl)
        simp only [nm, seval]
        apply VE.cons
        · exact ev_assign rfl (gn rfl)
        simp only [nm, seval]
        exact VE.nil _
      · kernel_rfl
      change VOk _ _ _ _ _
      refine vret ?_
      refine post_ret (res1 Tryd.results32 (rv_tmp rfl)) ?_
      intro ρ w' hr
      exact ⟨rfl, hr.1⟩
    · have e : decide (f (j - 1) = 0) = true := decide_eq_true (hz _ (by omega) (by omega))
      apply vrp
      · apply VE.cons
        · exact ev_move rfl (gn rfl)
        simp only [nm, seval]
        apply VE.cons
        · exact ev_len rfl (gn rfl) rfl Tryd.underlying28 (rdg_arg hvj)
        simp only [nm, seval]
        apply VE.cons
        · exact ev_gtr (p := true) rfl (gn rfl) rfl rfl (decide_eq_true (by omega))
        simp only [nm, seval]
        apply VE.cons
        · exact ev_move rfl (gn rfl)
        simp only [nm, seval]
        apply VE.cons
        · first | exact Ev.skip (fun _ => rfl) | exact ev_move rfl (fun _ => rfl)
        simp only [nm, seval]
        apply VE.cons
        · first | exact Ev.skip (fun _ => rfl) | exact ev_move rfl (fun _ => rfl)
        simp only [nm, seval]
        apply VE.cons
        · first | exact Ev.skip (fun _ => rfl) | exact ev_len rfl (fun _ => rfl) rfl Tryd.underlying28 (rdg_arg hvj)
        simp only [nm, seval]
        apply VE.cons
        · first | exact Ev.skip (fun _ => rfl) | exact ev_sub (c := ((j - 1 : Nat) : Int)) rfl (fun _ => rfl) rfl rfl (by rw [i64w (by omega) (by omega)]; omega)
        simp only [nm, seval]
        apply VE.cons
        · first | exact Ev.skip (fun _ => rfl) | exact ev_idx (k := j - 1) rfl (fun _ => rfl) rfl rfl Tryd.underlying28 Tryd.sizeOf5 (rdg_arg hvj) (by omega) (by decide)
        simp only [nm, seval]
        apply VE.cons
        · first | exact Ev.skip (fun _ => rfl) | exact ev_loadi (v := b8 (f (j - 1))) rfl (fun _ => rfl) rfl Tryd.underlying5 rfl (rdg_arg hvj) (by rw [tb_get (by omega), Nat.zero_add])
        simp only [nm, seval]
        apply VE.cons
        · first | exact Ev.skip (fun _ => rfl) | exact ev_move rfl (fun _ => rfl)
        simp only [nm, seval]
        apply VE.cons
        · first | exact Ev.skip (fun _ => rfl) | exact ev_bin (c := .bool true) rfl (fun _ => rfl) rfl rfl (fun w => by have := eql8 (b := f (j - 1)) (c := 0) (.tmp 14) (.tmp 15) w; rw [e] at this; exact this)
        simp only [nm, seval]
        apply VE.cons
        · first | exact ev_pick_t rfl (gn rfl) rfl rfl | exact ev_pick_f rfl (gn rfl) rfl rfl
        simp only [nm, seval]
        exact VE.nil _
      · kernel_rfl
      change VOk _ _ _ _ _
      refine vcond_t rfl ?_
      refine vskip ?_
      change VOk _ _ _ _ _
      refine vblock ?_
      apply vrp
      · apply VE.cons
        · exact ev_move rfl (gn rfl)
        simp only [nm, seval]
        apply VE.cons
        · exact ev_move rfl (gn rfl)
        simp only [nm, seval]
        apply VE.cons
        · exact ev_len rfl (gn rfl) rfl Tryd.underlying28 (rdg_arg hvj)
        simp only [nm, seval]
        apply VE.cons
        · exact ev_sub (c := ((j - 1 : Nat) : Int)) rfl (gn rfl) rfl rfl (by rw [i64w (by omega) (by omega)]; omega)
        simp only [nm, seval]
        apply VE.cons
        · exact ev_cutx (a := 0) (b := j - 1) (v' := cutV 0 (j - 1) 1 v) rfl (gn rfl) rfl Tryd.underlying28 Tryd.sizeOf5 (rdg_arg hvj) rfl rfl (by omega) (by omega) (cutVV hv)
        simp only [nm, seval]
        apply VE.cons
        · exact ev_assign rfl (gn rfl)
        simp only [nm, seval]
        exact VE.nil _
      · kernel_rfl
      refine ⟨⟨j - 1, by omega, by omega⟩, by show j - 1 < j; omega, weaker_forget (fun i => i == 0 || i == 1) []⟩
  · refine Weaker.trans (weaker_forget (fun i => i == 0 || i == 1) []) (fun g => weaker_id g ?_)
    simp only [cutV0 hv]
    rfl
theorem trim_ok {v : Value} {m k : Nat} {f : Nat → Nat} {F : Nat → Prop} (w : World) (hv : SlAt w v m 1 (tb m f) F) (hk : k ≤ m) (hz : ∀ j, k ≤ j → j < m → f j = 0) (hl : 0 < k → f (k - 1) ≠ 0) (hm : m ≤ 1073741824) (hm0 : 0 < m) : Calls Tryd.prog 23 #[v, .string (ByteArray.mk #[0])] w fun e w' => e = .returned (cutV 0 k 1 v) ∧ Bw w w' := by
  go_enter Tryd.func23, Tryd.ntmps23
  refine ve_go ?_
  simp only [List.map_cons, List.map_nil]
  refine vseq ?_
  apply vrp
  · apply VE.cons
    · exact ev_assign rfl (gn rfl)
    simp only [nm, seval]
    exact VE.nil _
  · kernel_rfl
  change VOk _ _ _ _ _
  refine vseq ?_
  refine vseq ?_
  apply vrp
  · apply VE.cons
    · exact ev_move rfl (gn rfl)
    simp only [nm, seval]
    apply VE.cons
    · exact ev_len rfl (gn rfl) rfl Tryd.underlying28 (rdg_arg hv)
    simp only [nm, seval]
    apply VE.cons
    · exact ev_eql (p := false) rfl (gn rfl) rfl rfl (decide_eq_false (by omega))
    simp only [nm, seval]
    apply VE.cons
    · exact ev_move rfl (gn rfl)
    simp only [nm, seval]
    apply VE.cons
    · first | exact Ev.skip (fun _ => rfl) | exact ev_move rfl (fun _ => rfl)
    simp only [nm, seval]
    apply VE.cons
    · first | exact Ev.skip (fun _ => rfl) | exact ev_bin (c := .bool false) rfl (fun _ => rfl) rfl rfl (fun w => by kernel_rfl)
    simp only [nm, seval]
    apply VE.cons
    · first | exact ev_pick_t rfl (gn rfl) rfl rfl | exact ev_pick_f rfl (gn rfl) rfl rfl
    simp only [nm, seval]
    exact VE.nil _
  · kernel_rfl
  change VOk _ _ _ _ _
  refine vcond_f rfl ?_
  refine vskip ?_
  change VOk _ _ _ _ _
  refine vseq ?_
  refine vseq ?_
  apply vrp
  · apply VE.cons
    · exact ev_move rfl (gn rfl)
    simp only [nm, seval]
    apply VE.cons
    · exact ev_lens rfl (gn rfl) rfl Tryd.underlying9
    simp only [nm, seval]
    apply VE.cons
    · exact ev_eql (p := true) rfl (gn rfl) rfl rfl (by decide)
    simp only [nm, seval]
    apply VE.cons
    · exact ev_move rfl (gn rfl)
    simp only [nm, seval]
    apply VE.cons
    · first | exact Ev.skip (fun _ => rfl) | exact ev_move rfl (fun _ => rfl)
    simp only [nm, seval]
    apply VE.cons
    · first | exact Ev.skip (fun _ => rfl) | exact ev_indexs (k := 0) (c := 0) rfl (fun _ => rfl) rfl rfl Tryd.underlying9 rfl
    simp only [nm, seval]
    apply VE.cons
    · first | exact Ev.skip (fun _ => rfl) | exact ev_bin (c := .bool true) rfl (fun _ => rfl) rfl rfl (fun w => by kernel_rfl)
    simp only [nm, seval]
    apply VE.cons
    · first | exact ev_pick_t rfl (gn rfl) rfl rfl | exact ev_pick_f rfl (gn rfl) rfl rfl
    simp only [nm, seval]
    exact VE.nil _
  · kernel_rfl
  change VOk _ _ _ _ _
  refine vcond_t rfl ?_
  refine vseq ?_
  apply vrp
  · apply VE.cons
    · exact ev_move rfl (gn rfl)
    simp only [nm, seval]
    apply VE.cons
    · exact ev_move rfl (gn rfl)
    simp only [nm, seval]
    apply VE.cons
    · exact ev_indexs (k := 0) (c := 0) rfl (gn rfl) rfl rfl Tryd.underlying9 rfl
    simp only [nm, seval]
    apply VE.cons
    · exact ev_callb rfl (gn rfl) rfl (en_of Tryd.func32 (by kernel_rfl) rfl) (fun w' hb => trimb_ok w' (sl_bw hv hb) hk hz hl hm)
    simp only [nm, seval]
    apply VE.cons
    · exact ev_assign rfl (gn rfl)
    simp only [nm, seval]
    exact VE.nil _
  · kernel_rfl
  change VOk _ _ _ _ _
  refine vret ?_
  refine post_ret (res1 Tryd.results23 (rv_tmp rfl)) ?_
  intro ρ w' hr
  exact ⟨rfl, hr.1⟩
end Go.Proofs.YtiidceljhmpgcaaDoor
end
section
namespace Go.Proofs.YtiidceljhmpgcaaDoor
open Go.RowKit Go.Vx
open Go.Toll (Gw)
open TollSha
set_option maxHeartbeats 4000000
set_option maxRecDepth 100000
theorem KeyAt.bw {w w' : World} {p : Value} {kf : Nat → Nat} {S : Nat → Prop} (h : KeyAt w p kf S) (hb : Bw w w') : KeyAt w' p kf S := by
  obtain ⟨g, kv, h1, h2, h3, h4⟩ := h
  exact ⟨g, kv, h1, h2, (hb.block g (Array.getElem?_eq_some_iff.1 h3).1).trans h3, sl_bw h4 hb⟩
def boxL (kp : Value) (h : Nat → Nat) : List Value := kp :: tb 16 h
theorem boxL_i (kp : Value) (h : Nat → Nat) {k : Nat} (hk : k < 16) : (boxL kp h)[1 + k]? = some (b8 (h k)) := by
  unfold boxL
  rw [Nat.add_comm, List.getElem?_cons_succ]; exact tb_get hk
def BoxAt (w : World) (p : Value) (kf h : Nat → Nat) (S : Nat → Prop) : Prop :=
  ∃ g kp, p = .pointer (some ⟨g, 0, none⟩) ∧ S g ∧ w.heap[g]? = some (.cells (boxL kp h).toArray 70 (0, 0)) ∧ KeyAt w kp kf S
theorem BoxAt.keep {w w' : World} {p : Value} {kf h : Nat → Nat} {S : Nat → Prop} (hh : BoxAt w p kf h S) (hk : ∀ k, S k → w'.heap[k]? = w.heap[k]?) : BoxAt w' p kf h S := by
  obtain ⟨g, kp, h1, h2, h3, h4⟩ := hh
  exact ⟨g, kp, h1, h2, (hk g h2).trans h3, h4.keep hk⟩
theorem BoxAt.bw {w w' : World} {p : Value} {kf h : Nat → Nat} {S : Nat → Prop} (hh : BoxAt w p kf h S) (hb : Bw w w') : BoxAt w' p kf h S := by
  obtain ⟨g, kp, h1, h2, h3, h4⟩ := hh
  exact ⟨g, kp, h1, h2, (hb.block g (Array.getElem?_eq_some_iff.1 h3).1).trans h3, h4.bw hb⟩
def datB (kf h : Nat → Nat) : Dat := ⟨fun xs w S => ∃ p, xs = [p] ∧ BoxAt w p kf h S, fun ⟨p, e, h⟩ hk => ⟨p, e, h.keep hk⟩⟩
theorem built70 (p : Option Addr) (h : Nat → Nat) : Tryd.prog.built 70 [(0, .pointer p), (1, A16 h)] = some (Value.pointer p :: tb 16 h).toArray := by kernel_rfl
def zeroT : Nat → Nat := fun _ => 0
theorem zeroT_by : By zeroT := fun _ => (by decide : 0 < 256)
section
variable {w0 : World} {ops : Array Oper} {o : Oper} {s : VS}
theorem ev_buildbox {x y : Operand} {id : Nat} {kf h : Nat → Nat} (ho : o.op = .build 70 #[(0, x), (1, y)]) (hgd : Want ops o s) (hx : svEval s x = .d id) (hm : s.mem id = some (.dat (datK kf))) (hy : svEval s y = .v (A16 h)) :
    Ev Tryd.prog ops w0 o s ⟨.agg (.d id :: (tb 16 h).map .v), [], [], [], [id]⟩ :=
  Ev.run _ _ hgd fun ρ S w hb hR => by
    have e1 := svEval_c s ρ x
    rw [hx] at e1
    have e2 := svEval_c s ρ y
    rw [hy] at e2
    obtain ⟨p, h1, g, kv, rfl, _⟩ := relon_dat hR (by simp) hm
    simp only [List.cons.injEq, and_true] at h1
    simp only [SV.c, h1] at e1
    simp only [SV.c] at e2
    have hb70 := built70 (some ⟨g, 0, none⟩) h
    have hv : SV.c ρ (.agg (.d id :: (tb 16 h).map .v)) = .agg (Value.pointer (some ⟨g, 0, none⟩) :: tb 16 h).toArray := by
      simp only [SV.c, SV.cs, cs_vs, h1]
    rw [hv]
    have h2 := run_build (P := Tryd.prog) w 70 #[(0, .pointer (some ⟨g, 0, none⟩)), (1, A16 h)] _ hb70
    simp only [execOp, ho, List.map_toArray, List.map_cons, List.map_nil, e1, e2]
    rw [Sem.run_bind, h2]
    rfl
theorem ev_boxag {P : Program} {ty : TypeId} {x : Operand} {L : List SV} {id : Nat} (_hd : o.dst = some id) (ho : o.op = .box ty x) (hgd : Want ops o s) (hx : svEval s x = .agg L) (hid : SV.hasL id L = false) :
    Ev P ops w0 o s ⟨.p id 0, [(id, .cells L ty)], [], [id], []⟩ :=
  Ev.new id _ _ hgd hid fun ρ w => by
    have h1 := svEval_c s ρ x
    rw [hx] at h1
    simp [execOp, ho, h1, Instr.box, newVar, newRow, newObj, Result.andThen, cellsObj, SV.c, Value.cells]
    rfl
end
theorem ret_B {w w' : World} {s : VS} {ρ : Nat → Nm} {kf h : Nat → Nat} (hr : Rel w ρ s w') (h1 : s.mem 19 = some (.cells (.d 8 :: (tb 16 h).map .v) 70)) (h2 : s.mem 8 = some (.dat (datK kf))) : RetD w w' (.pointer (some ⟨(ρ 19).g, 0, none⟩)) (datB kf h) := by
  obtain ⟨hb, S, hR⟩ := hr
  have a1 := hR.good 19 _ h1
  obtain ⟨p, e, hK⟩ : (datK kf).holds [(ρ 8).val] w' (S 8) := hR.good 8 _ h2
  simp only [List.cons.injEq, and_true] at e
  have g1 := a1.own True.intro
  refine ⟨fun k => k = (ρ 19).g ∨ S 8 k, ⟨_, rfl, (ρ 19).g, p, rfl, .inl rfl, ?_, ?_⟩, fun k hk => ?_⟩
  · rw [a1.2, cellsObj]
    simp only [SV.cs, cs_vs, SV.c, e]; rfl
  · obtain ⟨g, kv, k1, k2, k3, k4⟩ := hK
    exact ⟨g, kv, k1, .inr k2, k3, sl_mono k4 fun k hk => .inr hk⟩
  · rcases hk with rfl | hk
    · exact g1
    · exact ⟨hR.fr 8 k (by rw [h2]; rfl) hk, hR.lt 8 k (by rw [h2]; rfl) hk⟩
theorem c_kseal {w : World} {base : Nat} {ρ : Nat → Nm} {S : Nat → Nat → Prop} {m : Mem} {rd : List Nat} {kf b : Nat → Nat} (id : Nat) (hR : RelOn base ρ S w (restr rd m)) (hid : id ∈ rd) (hm : m id = some (.dat (datK kf))) (hkf : By kf) (hbb : By b) :
    Calls Tryd.prog 27 (SV.cs ρ [.d id, .v (A16 b)]).toArray w fun e w' => e = .returned (A16 (sealT kf b)) ∧ Bw w w' := by
  obtain ⟨p, h1, hK⟩ := relon_dat hR hid hm
  simp only [List.cons.injEq, and_true] at h1
  have e : SV.cs ρ [.d id, .v (A16 b)] = [p, A16 b] := by simp only [SV.cs, SV.c, h1]
  rw [e]
  exact kSeal_ok w hK hkf hbb
theorem gNew_ok {v : Value} {kf : Nat → Nat} {F : Nat → Prop} (w : World) (hv : SlAt w v 16 1 (tb 16 kf) F) (hkf : By kf) : Calls Tryd.prog 15 #[v] w fun e w' => ∃ p, e = .returned (.tuple #[p, .int .i64 0]) ∧ RetD w w' p (datB kf (sealT kf zeroT)) ∧ Bw w w' := by
  go_enter Tryd.func15, Tryd.ntmps15
  refine ve_go ?_
  simp only [List.map_cons, List.map_nil]
  refine vseq ?_
  apply vrp
  · apply VE.cons
    · exact ev_assign rfl (gn rfl)
    simp only [nm, seval]
    apply VE.cons
    · exact ev_assign rfl (gn rfl)
    simp only [nm, seval]
    exact VE.nil _
  · kernel_rfl
  change VOk _ _ _ _ _
  refine vseq ?_
  apply vrp
  · apply VE.cons
    · exact ev_move rfl (gn rfl)
    simp only [nm, seval]
    apply VE.cons
    · exact ev_calldt (D := datK kf) (ys := [.int .i64 0]) [] rfl rfl (gn rfl) rfl (en_of Tryd.func26 (by kernel_rfl) rfl) (fun ρ S w' hb hR => bNew_ok w' (sl_bw hv hb) hkf)
    simp only [nm, seval]
    apply VE.cons
    · exact ev_move rfl (gn rfl)
    simp only [nm, seval]
    apply VE.cons
    · first | exact ev_extract rfl (gn rfl) rfl rfl | exact ev_extractt rfl (gn rfl) rfl rfl
    simp only [nm, seval]
    apply VE.cons
    · first | exact ev_extract rfl (gn rfl) rfl rfl | exact ev_extractt rfl (gn rfl) rfl rfl
    simp only [nm, seval]
    apply VE.cons
    · exact ev_assign rfl (gn rfl)
    simp only [nm, seval]
    apply VE.cons
    · exact ev_assign rfl (gn rfl)
    simp only [nm, seval]
    exact VE.nil _
  · kernel_rfl
  change VOk _ _ _ _ _
  refine vseq ?_
  refine vseq ?_
  apply vrp
  · apply VE.cons
    · exact ev_move rfl (gn rfl)
    simp only [nm, seval]
    apply VE.cons
    · exact ev_neq (p := false) rfl (gn rfl) rfl rfl (by decide)
    simp only [nm, seval]
    exact VE.nil _
  · kernel_rfl
  change VOk _ _ _ _ _
  refine vcond_f rfl ?_
  refine vskip ?_
  change VOk _ _ _ _ _
  refine vseq ?_
  apply vrp
  · apply VE.cons
    · exact ev_move rfl (gn rfl)
    simp only [nm, seval]
    apply VE.cons
    · exact ev_move rfl (gn rfl)
    simp only [nm, seval]
    apply VE.cons
    · exact ev_build (cells := (tb 16 zeroT).toArray) rfl (gn rfl) rfl (by kernel_rfl)
    simp only [nm, seval]
    apply VE.cons
    · exact ev_callp (v := A16 (sealT kf zeroT)) [8] rfl (gn rfl) rfl (en_of Tryd.func27 (by kernel_rfl) rfl) (fun ρ S w' hb hR => c_kseal 8 hR (by simp) rfl hkf zeroT_by)
    simp only [nm, seval]
    apply VE.cons
    · exact ev_buildbox rfl (gn rfl) rfl rfl rfl
    simp only [nm, seval]
    apply VE.cons
    · exact ev_boxag rfl rfl (gn rfl) rfl (by simp [SV.hasL, SV.has, hasL_vs])
    simp only [nm, seval]
    apply VE.cons
    · exact ev_assign rfl (gn rfl)
    simp only [nm, seval]
    apply VE.cons
    · exact ev_assign rfl (gn rfl)
    simp only [nm, seval]
    exact VE.nil _
  · kernel_rfl
  change VOk _ _ _ _ _
  refine vret ?_
  refine post_ret (res2 Tryd.results15 (rv_tmp rfl) (rv_tmp rfl)) ?_
  intro ρ w' hr
  exact ⟨_, rfl, ret_B hr rfl rfl, hr.1⟩
end Go.Proofs.YtiidceljhmpgcaaDoor
end
