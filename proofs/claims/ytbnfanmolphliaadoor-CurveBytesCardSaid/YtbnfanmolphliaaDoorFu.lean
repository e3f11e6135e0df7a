import Derived.Test.YtbnfanmolphliaaDoorFo
import Derived.Test.YtbnfanmolphliaaDoorRb
import Derived.Laws.BitsAllLaws
/-! The law Bytes. -/
namespace Go.Proofs.YtbnfanmolphliaaDoor
open Go.RowKit Go.Vx TollMont
open Go.Toll (Gw)
open TollEc (F pp cb Jp Pt smul add base nn neg)
set_option maxHeartbeats 4000000
set_option maxRecDepth 100000
theorem sl_bw {w w' : World} {v : Value} {n size : Nat} {l : List Value} {S : Nat → Prop} (h : SlAt w v n size l S) (hb : Bw w w') : SlAt w' v n size l S := by
  obtain ⟨ao, cap, h1, h2, h3, h4⟩ := h
  exact ⟨ao, cap, h1, h2, h3, h4.imp id fun ⟨g, a, b, c⟩ => ⟨g, a, b, fun i x hx => hb.cell (c i x hx)⟩⟩
theorem ne_bool (a : Bool) (p q : Operand) (w : World) : (do eqGuard .neq 4 p q (.bool a) (.bool a); binOp .neq 4 (.bool a) (.bool a) : Sem Value).run Tryd.prog w = .ok (.bool false) w := by
  go_simp
  try (cases a <;> rfl)
theorem l32_of {zs : List Int} (h : zs.length = 32) (hw : ∀ z ∈ zs, (Lit.int .u8 z).wf = true) : ∃ n, n < R ∧ zs.map (Value.int .u8) = l32 n := by
  obtain ⟨b0, b1, b2, b3, b4, b5, b6, b7, b8, b9, b10, b11, b12, b13, b14, b15, b16, b17, b18, b19, b20, b21, b22, b23, b24, b25, b26, b27, b28, b29, b30, b31, rfl, l0, l1, l2, l3, l4, l5, l6, l7, l8, l9, l10, l11, l12, l13, l14, l15, l16, l17, l18, l19, l20, l21, l22, l23, l24, l25, l26, l27, l28, l29, l30, l31⟩ := bytes32 h hw
  obtain ⟨_, _, _, _, hR⟩ := num_parts l0 l1 l2 l3 l4 l5 l6 l7 l8 l9 l10 l11 l12 l13 l14 l15 l16 l17 l18 l19 l20 l21 l22 l23 l24 l25 l26 l27 l28 l29 l30 l31
  refine ⟨num32 b0 b1 b2 b3 b4 b5 b6 b7 b8 b9 b10 b11 b12 b13 b14 b15 b16 b17 b18 b19 b20 b21 b22 b23 b24 b25 b26 b27 b28 b29 b30 b31, hR, ?_⟩
  have := congrArg (fun v : Value => v.cells.toList) (b32_num l0 l1 l2 l3 l4 l5 l6 l7 l8 l9 l10 l11 l12 l13 l14 l15 l16 l17 l18 l19 l20 l21 l22 l23 l24 l25 l26 l27 l28 l29 l30 l31)
  exact this.symm
def b32l (n : Nat) : List Value := l32 n
theorem nb32l (n : Nat) : b32l n = [.int .u8 (byt n 0 : Nat), .int .u8 (byt n 1 : Nat), .int .u8 (byt n 2 : Nat), .int .u8 (byt n 3 : Nat), .int .u8 (byt n 4 : Nat), .int .u8 (byt n 5 : Nat), .int .u8 (byt n 6 : Nat), .int .u8 (byt n 7 : Nat), .int .u8 (byt n 8 : Nat), .int .u8 (byt n 9 : Nat), .int .u8 (byt n 10 : Nat), .int .u8 (byt n 11 : Nat), .int .u8 (byt n 12 : Nat), .int .u8 (byt n 13 : Nat), .int .u8 (byt n 14 : Nat), .int .u8 (byt n 15 : Nat), .int .u8 (byt n 16 : Nat), .int .u8 (byt n 17 : Nat), .int .u8 (byt n 18 : Nat), .int .u8 (byt n 19 : Nat), .int .u8 (byt n 20 : Nat), .int .u8 (byt n 21 : Nat), .int .u8 (byt n 22 : Nat), .int .u8 (byt n 23 : Nat), .int .u8 (byt n 24 : Nat), .int .u8 (byt n 25 : Nat), .int .u8 (byt n 26 : Nat), .int .u8 (byt n 27 : Nat), .int .u8 (byt n 28 : Nat), .int .u8 (byt n 29 : Nat), .int .u8 (byt n 30 : Nat), .int .u8 (byt n 31 : Nat)] := rfl
theorem nmy : type_of% nmx ∧ type_of% nb32l := ⟨nmx, nb32l⟩
theorem str_eq (a : ByteArray) (p q : Operand) (w : World) : (do eqGuard .eql 9 p q (.string a) (.string a); binOp .eql 9 (.string a) (.string a) : Sem Value).run Tryd.prog w = .ok (.bool true) w := by
  go_simp
theorem i5s : (Tryd.prog.info? 5).map (·.size) = some 1 := by kernel_rfl
theorem bytes2_len {v v' : Value} {n m : Nat} {l l' : List Value} {S S' : Nat → Prop} (w : World) (hL : Laid w) (hv : SlAt w v n 1 l S) (hcut : cutV 0 m 1 v = v') (hm : min n 80 = m) (hv2 : SlAt w v' m 1 l' S') (hne : m ≠ 65) (f : Nat → Value) : VOk Tryd.prog w ⟨[.v (f 0), .v v, .v (f 2), .v (f 3), .v (f 4), .v (f 5), .v (f 6), .v (f 7), .v (f 8), .v (f 9), .v (f 10), .v (f 11), .v (f 12), .v (f 13), .v (f 14), .v (f 15), .v (f 16), .v (f 17), .v (f 18), .v (f 19), .v (f 20), .v (f 21), .v (f 22), .v (f 23), .v (f 24), .v (f 25), .v (f 26), .v (f 27), .v (f 28), .v (f 29), .v (f 30), .v (f 31), .v (f 32), .v (f 33), .v (f 34), .v (f 35), .v (f 36), .v (f 37), .v (f 38), .v (f 39), .v (f 40), .v (f 41), .v (f 42), .v (f 43), .v (f 44), .v (f 45), .v (f 46), .v (f 47), .v (f 48), .v (f 49), .v (f 50), .v (f 51), .v (f 52), .v (f 53), .v (f 54), .v (f 55), .v (f 56), .v (f 57), .v (f 58), .v (f 59), .v (f 60), .v (f 61), .v (f 62), .v (f 63), .v (f 64), .v (f 65), .v (f 66), .v (f 67), .v (f 68), .v (f 69), .v (f 70), .v (f 71), .v (f 72), .v (f 73), .v (f 74), .v (f 75), .v (f 76), .v (f 77), .v (f 78), .v (f 79), .v (f 80), .v (f 81), .v (f 82), .v (f 83), .v (f 84), .v (f 85), .v (f 86), .v (f 87), .v (f 88), .v (f 89), .v (f 90), .v (f 91), .v (f 92), .v (f 93), .v (f 94), .v (f 95), .v (f 96), .v (f 97), .v (f 98), .v (f 99), .v (f 100), .v (f 101), .v (f 102), .v (f 103), .v (f 104), .v (f 105), .v (f 106), .v (f 107), .v (f 108), .v (f 109), .v (f 110), .v (f 111), .v (f 112), .v (f 113), .v (f 114), .v (f 115), .v (f 116), .v (f 117), .v (f 118), .v (f 119), .v (f 120), .v (f 121), .v (f 122), .v (f 123), .v (f 124), .v (f 125), .v (f 126), .v (f 127), .v (f 128), .v (f 129), .v (f 130), .v (f 131), .v (f 132), .v (f 133), .v (f 134), .v (f 135), .v (f 136), .v (f 137), .v (f 138), .v (f 139), .v (f 140), .v (f 141), .v (f 142), .v (f 143), .v (f 144), .v (f 145), .v (f 146), .v (f 147), .v (f 148), .v (f 149)], memOf []⟩ (dropSeq 5 (bodyOf Tryd.f8)) (QB Tryd.prog Tryd.f8 w fun e w' => e = .returned (.bool true) ∧ Bw w w') := by
  refine vseq ?_
  apply vrp
  · apply VE.cons
    · exact ev_move rfl (gn rfl)
    simp only [nmy, seval]
    apply VE.cons
    · exact ev_move rfl (gn rfl)
    simp only [nmy, seval]
    apply VE.cons
    · exact ev_len rfl (gn rfl) rfl Tryd.underlying48 (rdg_arg hv)
    simp only [nmy, seval]
    apply VE.cons
    · exact ev_min rfl (gn rfl) rfl rfl hm
    simp only [nmy, seval]
    apply VE.cons
    · exact ev_cutx (a := 0) (b := m) rfl (gn rfl) rfl Tryd.underlying48 Tryd.sizeOf5 (rdg_arg hv) rfl rfl (Nat.zero_le _) (hm ▸ Nat.min_le_left _ _) hcut
    simp only [nmy, seval]
    apply VE.cons
    · exact ev_assign rfl (gn rfl)
    simp only [nmy, seval]
    exact VE.nil _
  · kernel_rfl
  change VOk _ _ _ _ _
  refine vseq ?_
  apply vrp
  · apply VE.cons
    · exact ev_move rfl (gn rfl)
    simp only [nmy, seval]
    apply VE.cons
    · exact ev_callb (v := .tuple #[.agg #[.int .u8 0, .int .u8 0, .int .u8 0, .int .u8 0, .int .u8 0, .int .u8 0, .int .u8 0, .int .u8 0, .int .u8 0, .int .u8 0, .int .u8 0, .int .u8 0, .int .u8 0, .int .u8 0, .int .u8 0, .int .u8 0, .int .u8 0, .int .u8 0, .int .u8 0, .int .u8 0, .int .u8 0, .int .u8 0, .int .u8 0, .int .u8 0, .int .u8 0, .int .u8 0, .int .u8 0, .int .u8 0, .int .u8 0, .int .u8 0, .int .u8 0, .int .u8 0, .int .u8 0, .int .u8 0, .int .u8 0, .int .u8 0, .int .u8 0, .int .u8 0, .int .u8 0, .int .u8 0, .int .u8 0, .int .u8 0, .int .u8 0, .int .u8 0, .int .u8 0, .int .u8 0, .int .u8 0, .int .u8 0, .int .u8 0, .int .u8 0, .int .u8 0, .int .u8 0, .int .u8 0, .int .u8 0, .int .u8 0, .int .u8 0, .int .u8 0, .int .u8 0, .int .u8 0, .int .u8 0, .int .u8 0, .int .u8 0, .int .u8 0, .int .u8 0], .int .i64 15]) rfl (gn rfl) rfl (en_of Tryd.func30 (by kernel_rfl) rfl) (fun w' hb => read_len w' (hL.bw hb) (sl_bw hv2 hb) hne)
    simp only [nmy, seval]
    apply VE.cons
    · exact ev_move rfl (gn rfl)
    simp only [nmy, seval]
    apply VE.cons
    · first | exact ev_extract rfl (gn rfl) rfl rfl | exact ev_extractt rfl (gn rfl) rfl rfl
    simp only [nmy, seval]
    apply VE.cons
    · first | exact ev_extract rfl (gn rfl) rfl rfl | exact ev_extractt rfl (gn rfl) rfl rfl
    simp only [nmy, seval]
    apply VE.cons
    · exact ev_alloc rfl rfl (gn rfl) Tryd.zeroValue24
    simp only [nmy, seval]
    apply VE.cons
    · exact ev_store rfl (gn rfl) rfl rfl rfl Tryd.sizeOf24 rfl (by simp) rfl
    simp only [nmy, seval]
    apply VE.cons
    · exact ev_assign rfl (gn rfl)
    simp only [nmy, seval]
    exact VE.nil _
  · kernel_rfl
  change VOk _ _ _ _ _
  refine vseq ?_
  refine vseq ?_
  apply vrp
  · apply VE.cons
    · exact ev_move rfl (gn rfl)
    simp only [nmy, seval]
    apply VE.cons
    · exact ev_neq (p := true) rfl (gn rfl) rfl rfl (by decide)
    simp only [nmy, seval]
    exact VE.nil _
  · kernel_rfl
  change VOk _ _ _ _ _
  refine vcond_t rfl ?_
  refine vseq ?_
  apply vrp
  · apply VE.cons
    · exact ev_move rfl (gn rfl)
    simp only [nmy, seval]
    apply VE.cons
    · exact ev_len rfl (gn rfl) rfl Tryd.underlying48 (rdg_arg hv2)
    simp only [nmy, seval]
    apply VE.cons
    · exact ev_eql (p := false) rfl (gn rfl) rfl rfl (decide_eq_false (by omega))
    simp only [nmy, seval]
    apply VE.cons
    · exact ev_move rfl (gn rfl)
    simp only [nmy, seval]
    apply VE.cons
    · first | exact Ev.skip (fun _ => rfl) | exact ev_move rfl (fun _ => rfl)
    simp only [nmy, seval]
    apply VE.cons
    · first | exact Ev.skip (fun _ => rfl) | exact ev_index rfl (fun _ => rfl) rfl rfl Tryd.underlying48 Tryd.sizeOf5 (by decide) (by decide) | exact ev_indexx rfl (fun _ => rfl) rfl rfl Tryd.underlying48 Tryd.sizeOf5 (by decide) (by decide)
    simp only [nmy, seval]
    apply VE.cons
    · first | exact Ev.skip (fun _ => rfl) | exact ev_load1 rfl (fun _ => rfl) rfl rfl Tryd.underlying5 rfl rfl | exact ev_loadx1 rfl (fun _ => rfl) rfl Tryd.underlying5 rfl (by assumption)
    simp only [nmy, seval]
    apply VE.cons
    · first | exact Ev.skip (fun _ => rfl) | refine ev_pure' (fun _ => rfl) (fun ρ w => by simp only [VS.act, SV.c, List.map_cons, List.map_nil]; go_simp; exact rfl) (fun _ _ => rfl)
    simp only [nmy, seval]
    apply VE.cons
    · first | exact ev_pick_t rfl (gn rfl) rfl rfl | exact ev_pick_f rfl (gn rfl) rfl rfl
    simp only [nmy, seval]
    apply VE.cons
    · exact ev_assign rfl (gn rfl)
    simp only [nmy, seval]
    exact VE.nil _
  · kernel_rfl
  change VOk _ _ _ _ _
  refine vseq ?_
  apply vrp
  · apply VE.cons
    · exact ev_alloc rfl rfl (gn rfl) Tryd.zeroValue22
    simp only [nmy, seval]
    apply VE.cons
    · exact ev_alloc rfl rfl (gn rfl) Tryd.zeroValue22
    simp only [nmy, seval]
    exact VE.nil _
  · kernel_rfl
  change VOk _ _ _ _ _
  refine vseq ?_
  refine vseq ?_
  apply vrp
  · apply VE.cons
    · exact ev_move rfl (gn rfl)
    simp only [nmy, seval]
    exact VE.nil _
  · kernel_rfl
  change VOk _ _ _ _ _
  refine vcond_f rfl ?_
  refine vskip ?_
  change VOk _ _ _ _ _
  refine vseq ?_
  apply vrd (by kernel_rfl)
  · apply VE.cons
    · exact ev_move rfl (gn rfl)
    simp only [nmy, seval]
    apply VE.cons
    · exact ev_eql (p := true) rfl (gn rfl) rfl rfl (by decide)
    simp only [nmy, seval]
    apply VE.cons
    · exact ev_move rfl (gn rfl)
    simp only [nmy, seval]
    apply VE.cons
    · first | exact Ev.skip (fun _ => rfl) | exact ev_move rfl (fun _ => rfl)
    simp only [nmy, seval]
    apply VE.cons
    · first | exact Ev.skip (fun _ => rfl) | exact ev_move rfl (fun _ => rfl)
    simp only [nmy, seval]
    apply VE.cons
    · first | exact Ev.skip (fun _ => rfl) | exact ev_load rfl (fun _ => rfl) rfl rfl Tryd.underlying22 rfl Tryd.sizeOf22 rfl rfl | exact ev_loadx rfl (fun _ => rfl) rfl Tryd.underlying22 rfl Tryd.sizeOf22 (by assumption) rfl | exact ev_loada rfl (fun _ => rfl) rfl rfl Tryd.underlying22 rfl Tryd.sizeOf22 rfl
    simp only [nmy, seval]
    apply VE.cons
    · first | exact Ev.skip (fun _ => rfl) | refine ev_pure' (fun _ => rfl) (fun ρ w => by simp only [VS.act, SV.c, List.map_cons, List.map_nil]; go_simp; exact rfl) (fun _ _ => rfl)
    simp only [nmy, seval]
    apply VE.cons
    · first | exact Ev.skip (fun _ => rfl) | exact ev_load rfl (fun _ => rfl) rfl rfl Tryd.underlying22 rfl Tryd.sizeOf22 rfl rfl | exact ev_loadx rfl (fun _ => rfl) rfl Tryd.underlying22 rfl Tryd.sizeOf22 (by assumption) rfl | exact ev_loada rfl (fun _ => rfl) rfl rfl Tryd.underlying22 rfl Tryd.sizeOf22 rfl
    simp only [nmy, seval]
    apply VE.cons
    · first | exact Ev.skip (fun _ => rfl) | refine ev_pure' (fun _ => rfl) (fun ρ w => by simp only [VS.act, SV.c, List.map_cons, List.map_nil]; go_simp; exact rfl) (fun _ _ => rfl)
    simp only [nmy, seval]
    apply VE.cons
    · first | exact Ev.skip (fun _ => rfl) | refine ev_pure' (fun _ => rfl) (fun ρ w => by simp only [VS.act, SV.c, List.map_cons, List.map_nil]; go_simp; exact rfl) (fun _ _ => rfl)
    simp only [nmy, seval]
    apply VE.cons
    · first | exact Ev.skip (fun _ => rfl) | exact ev_pick_t rfl (fun _ => rfl) rfl rfl | exact ev_pick_f rfl (fun _ => rfl) rfl rfl
    simp only [nmy, seval]
    apply VE.cons
    · first | exact Ev.skip (fun _ => rfl) | exact ev_not rfl (fun _ => rfl) rfl
    simp only [nmy, seval]
    apply VE.cons
    · first | exact ev_pick_t rfl (gn rfl) rfl rfl | exact ev_pick_f rfl (gn rfl) rfl rfl
    simp only [nmy, seval]
    apply VE.cons
    · exact ev_assign rfl (gn rfl)
    simp only [nmy, seval]
    exact VE.nil _
  · kernel_rfl
  change VOk _ _ _ _ _
  refine vret ?_
  refine post_ret (res1 Tryd.results8 (rv_tmp rfl)) ?_
  intro ρ w' hr
  exact ⟨rfl, hr.1⟩
theorem bytes2_tag {v v' : Value} {n : Nat} {l l' : List Value} {S S' : Nat → Prop} (w : World) (hL : Laid w) (hv : SlAt w v n 1 l S) (hcut : cutV 0 65 1 v = v') (hm : min n 80 = 65) {b : Nat} {r : List Value} (hv2 : SlAt w v' 65 1 (.int .u8 (b : Nat) :: r) S') (hne : b ≠ 4) (f : Nat → Value) : VOk Tryd.prog w ⟨[.v (f 0), .v v, .v (f 2), .v (f 3), .v (f 4), .v (f 5), .v (f 6), .v (f 7), .v (f 8), .v (f 9), .v (f 10), .v (f 11), .v (f 12), .v (f 13), .v (f 14), .v (f 15), .v (f 16), .v (f 17), .v (f 18), .v (f 19), .v (f 20), .v (f 21), .v (f 22), .v (f 23), .v (f 24), .v (f 25), .v (f 26), .v (f 27), .v (f 28), .v (f 29), .v (f 30), .v (f 31), .v (f 32), .v (f 33), .v (f 34), .v (f 35), .v (f 36), .v (f 37), .v (f 38), .v (f 39), .v (f 40), .v (f 41), .v (f 42), .v (f 43), .v (f 44), .v (f 45), .v (f 46), .v (f 47), .v (f 48), .v (f 49), .v (f 50), .v (f 51), .v (f 52), .v (f 53), .v (f 54), .v (f 55), .v (f 56), .v (f 57), .v (f 58), .v (f 59), .v (f 60), .v (f 61), .v (f 62), .v (f 63), .v (f 64), .v (f 65), .v (f 66), .v (f 67), .v (f 68), .v (f 69), .v (f 70), .v (f 71), .v (f 72), .v (f 73), .v (f 74), .v (f 75), .v (f 76), .v (f 77), .v (f 78), .v (f 79), .v (f 80), .v (f 81), .v (f 82), .v (f 83), .v (f 84), .v (f 85), .v (f 86), .v (f 87), .v (f 88), .v (f 89), .v (f 90), .v (f 91), .v (f 92), .v (f 93), .v (f 94), .v (f 95), .v (f 96), .v (f 97), .v (f 98), .v (f 99), .v (f 100), .v (f 101), .v (f 102), .v (f 103), .v (f 104), .v (f 105), .v (f 106), .v (f 107), .v (f 108), .v (f 109), .v (f 110), .v (f 111), .v (f 112), .v (f 113), .v (f 114), .v (f 115), .v (f 116), .v (f 117), .v (f 118), .v (f 119), .v (f 120), .v (f 121), .v (f 122), .v (f 123), .v (f 124), .v (f 125), .v (f 126), .v (f 127), .v (f 128), .v (f 129), .v (f 130), .v (f 131), .v (f 132), .v (f 133), .v (f 134), .v (f 135), .v (f 136), .v (f 137), .v (f 138), .v (f 139), .v (f 140), .v (f 141), .v (f 142), .v (f 143), .v (f 144), .v (f 145), .v (f 146), .v (f 147), .v (f 148), .v (f 149)], memOf []⟩ (dropSeq 5 (bodyOf Tryd.f8)) (QB Tryd.prog Tryd.f8 w fun e w' => e = .returned (.bool true) ∧ Bw w w') := by
  refine vseq ?_
  apply vrp
  · apply VE.cons
    · exact ev_move rfl (gn rfl)
    simp only [nmy, seval]
    apply VE.cons
    · exact ev_move rfl (gn rfl)
    simp only [nmy, seval]
    apply VE.cons
    · exact ev_len rfl (gn rfl) rfl Tryd.underlying48 (rdg_arg hv)
    simp only [nmy, seval]
    apply VE.cons
    · exact ev_min rfl (gn rfl) rfl rfl hm
    simp only [nmy, seval]
    apply VE.cons
    · exact ev_cutx (a := 0) (b := 65) rfl (gn rfl) rfl Tryd.underlying48 Tryd.sizeOf5 (rdg_arg hv) rfl rfl (Nat.zero_le _) (hm ▸ Nat.min_le_left _ _) hcut
    simp only [nmy, seval]
    apply VE.cons
    · exact ev_assign rfl (gn rfl)
    simp only [nmy, seval]
    exact VE.nil _
  · kernel_rfl
  change VOk _ _ _ _ _
  refine vseq ?_
  apply vrp
  · apply VE.cons
    · exact ev_move rfl (gn rfl)
    simp only [nmy, seval]
    apply VE.cons
    · exact ev_callb (v := .tuple #[.agg #[.int .u8 0, .int .u8 0, .int .u8 0, .int .u8 0, .int .u8 0, .int .u8 0, .int .u8 0, .int .u8 0, .int .u8 0, .int .u8 0, .int .u8 0, .int .u8 0, .int .u8 0, .int .u8 0, .int .u8 0, .int .u8 0, .int .u8 0, .int .u8 0, .int .u8 0, .int .u8 0, .int .u8 0, .int .u8 0, .int .u8 0, .int .u8 0, .int .u8 0, .int .u8 0, .int .u8 0, .int .u8 0, .int .u8 0, .int .u8 0, .int .u8 0, .int .u8 0, .int .u8 0, .int .u8 0, .int .u8 0, .int .u8 0, .int .u8 0, .int .u8 0, .int .u8 0, .int .u8 0, .int .u8 0, .int .u8 0, .int .u8 0, .int .u8 0, .int .u8 0, .int .u8 0, .int .u8 0, .int .u8 0, .int .u8 0, .int .u8 0, .int .u8 0, .int .u8 0, .int .u8 0, .int .u8 0, .int .u8 0, .int .u8 0, .int .u8 0, .int .u8 0, .int .u8 0, .int .u8 0, .int .u8 0, .int .u8 0, .int .u8 0, .int .u8 0], .int .i64 15]) rfl (gn rfl) rfl (en_of Tryd.func30 (by kernel_rfl) rfl) (fun w' hb => read_tag w' (hL.bw hb) (sl_bw hv2 hb) hne)
    simp only [nmy, seval]
    apply VE.cons
    · exact ev_move rfl (gn rfl)
    simp only [nmy, seval]
    apply VE.cons
    · first | exact ev_extract rfl (gn rfl) rfl rfl | exact ev_extractt rfl (gn rfl) rfl rfl
    simp only [nmy, seval]
    apply VE.cons
    · first | exact ev_extract rfl (gn rfl) rfl rfl | exact ev_extractt rfl (gn rfl) rfl rfl
    simp only [nmy, seval]
    apply VE.cons
    · exact ev_alloc rfl rfl (gn rfl) Tryd.zeroValue24
    simp only [nmy, seval]
    apply VE.cons
    · exact ev_store rfl (gn rfl) rfl rfl rfl Tryd.sizeOf24 rfl (by simp) rfl
    simp only [nmy, seval]
    apply VE.cons
    · exact ev_assign rfl (gn rfl)
    simp only [nmy, seval]
    exact VE.nil _
  · kernel_rfl
  change VOk _ _ _ _ _
  refine vseq ?_
  refine vseq ?_
  apply vrp
  · apply VE.cons
    · exact ev_move rfl (gn rfl)
    simp only [nmy, seval]
    apply VE.cons
    · exact ev_neq (p := true) rfl (gn rfl) rfl rfl (by decide)
    simp only [nmy, seval]
    exact VE.nil _
  · kernel_rfl
  change VOk _ _ _ _ _
  refine vcond_t rfl ?_
  refine vseq ?_
  apply vrp
  · apply VE.cons
    · exact ev_move rfl (gn rfl)
    simp only [nmy, seval]
    apply VE.cons
    · exact ev_len rfl (gn rfl) rfl Tryd.underlying48 (rdg_arg hv2)
    simp only [nmy, seval]
    apply VE.cons
    · exact ev_eql (p := true) rfl (gn rfl) rfl rfl (by decide)
    simp only [nmy, seval]
    apply VE.cons
    · exact ev_move rfl (gn rfl)
    simp only [nmy, seval]
    apply VE.cons
    · first | exact Ev.skip (fun _ => rfl) | exact ev_move rfl (fun _ => rfl)
    simp only [nmy, seval]
    apply VE.cons
    · first | exact Ev.skip (fun _ => rfl) | exact ev_idx rfl (fun _ => rfl) rfl rfl Tryd.underlying48 Tryd.sizeOf5 (rdg_arg hv2) (by decide) (by decide)
    simp only [nmy, seval]
    apply VE.cons
    · first | exact Ev.skip (fun _ => rfl) | exact ev_loadi rfl (fun _ => rfl) rfl Tryd.underlying5 rfl (rdg_arg hv2) rfl
    simp only [nmy, seval]
    apply VE.cons
    · first | exact Ev.skip (fun _ => rfl) | exact ev_eql (p := false) rfl (fun _ => rfl) rfl rfl (decide_eq_false (by omega))
    simp only [nmy, seval]
    apply VE.cons
    · first | exact ev_pick_t rfl (gn rfl) rfl rfl | exact ev_pick_f rfl (gn rfl) rfl rfl
    simp only [nmy, seval]
    apply VE.cons
    · exact ev_assign rfl (gn rfl)
    simp only [nmy, seval]
    exact VE.nil _
  · kernel_rfl
  change VOk _ _ _ _ _
  refine vseq ?_
  apply vrp
  · apply VE.cons
    · exact ev_alloc rfl rfl (gn rfl) Tryd.zeroValue22
    simp only [nmy, seval]
    apply VE.cons
    · exact ev_alloc rfl rfl (gn rfl) Tryd.zeroValue22
    simp only [nmy, seval]
    exact VE.nil _
  · kernel_rfl
  change VOk _ _ _ _ _
  refine vseq ?_
  refine vseq ?_
  apply vrp
  · apply VE.cons
    · exact ev_move rfl (gn rfl)
    simp only [nmy, seval]
    exact VE.nil _
  · kernel_rfl
  change VOk _ _ _ _ _
  refine vcond_f rfl ?_
  refine vskip ?_
  change VOk _ _ _ _ _
  refine vseq ?_
  apply vrd (by kernel_rfl)
  · apply VE.cons
    · exact ev_move rfl (gn rfl)
    simp only [nmy, seval]
    apply VE.cons
    · exact ev_eql (p := true) rfl (gn rfl) rfl rfl (by decide)
    simp only [nmy, seval]
    apply VE.cons
    · exact ev_move rfl (gn rfl)
    simp only [nmy, seval]
    apply VE.cons
    · first | exact Ev.skip (fun _ => rfl) | exact ev_move rfl (fun _ => rfl)
    simp only [nmy, seval]
    apply VE.cons
    · first | exact Ev.skip (fun _ => rfl) | exact ev_move rfl (fun _ => rfl)
    simp only [nmy, seval]
    apply VE.cons
    · first | exact Ev.skip (fun _ => rfl) | exact ev_load rfl (fun _ => rfl) rfl rfl Tryd.underlying22 rfl Tryd.sizeOf22 rfl rfl | exact ev_loadx rfl (fun _ => rfl) rfl Tryd.underlying22 rfl Tryd.sizeOf22 (by assumption) rfl | exact ev_loada rfl (fun _ => rfl) rfl rfl Tryd.underlying22 rfl Tryd.sizeOf22 rfl
    simp only [nmy, seval]
    apply VE.cons
    · first | exact Ev.skip (fun _ => rfl) | refine ev_pure' (fun _ => rfl) (fun ρ w => by simp only [VS.act, SV.c, List.map_cons, List.map_nil]; go_simp; exact rfl) (fun _ _ => rfl)
    simp only [nmy, seval]
    apply VE.cons
    · first | exact Ev.skip (fun _ => rfl) | exact ev_load rfl (fun _ => rfl) rfl rfl Tryd.underlying22 rfl Tryd.sizeOf22 rfl rfl | exact ev_loadx rfl (fun _ => rfl) rfl Tryd.underlying22 rfl Tryd.sizeOf22 (by assumption) rfl | exact ev_loada rfl (fun _ => rfl) rfl rfl Tryd.underlying22 rfl Tryd.sizeOf22 rfl
    simp only [nmy, seval]
    apply VE.cons
    · first | exact Ev.skip (fun _ => rfl) | refine ev_pure' (fun _ => rfl) (fun ρ w => by simp only [VS.act, SV.c, List.map_cons, List.map_nil]; go_simp; exact rfl) (fun _ _ => rfl)
    simp only [nmy, seval]
    apply VE.cons
    · first | exact Ev.skip (fun _ => rfl) | refine ev_pure' (fun _ => rfl) (fun ρ w => by simp only [VS.act, SV.c, List.map_cons, List.map_nil]; go_simp; exact rfl) (fun _ _ => rfl)
    simp only [nmy, seval]
    apply VE.cons
    · first | exact Ev.skip (fun _ => rfl) | exact ev_pick_t rfl (fun _ => rfl) rfl rfl | exact ev_pick_f rfl (fun _ => rfl) rfl rfl
    simp only [nmy, seval]
    apply VE.cons
    · first | exact Ev.skip (fun _ => rfl) | exact ev_not rfl (fun _ => rfl) rfl
    simp only [nmy, seval]
    apply VE.cons
    · first | exact ev_pick_t rfl (gn rfl) rfl rfl | exact ev_pick_f rfl (gn rfl) rfl rfl
    simp only [nmy, seval]
    apply VE.cons
    · exact ev_assign rfl (gn rfl)
    simp only [nmy, seval]
    exact VE.nil _
  · kernel_rfl
  change VOk _ _ _ _ _
  refine vret ?_
  refine post_ret (res1 Tryd.results8 (rv_tmp rfl)) ?_
  intro ρ w' hr
  exact ⟨rfl, hr.1⟩
theorem bytes2_off {v v' : Value} {n : Nat} {l l' : List Value} {S S' : Nat → Prop} (w : World) (hL : Laid w) (hv : SlAt w v n 1 l S) (hcut : cutV 0 65 1 v = v') (hm : min n 80 = 65) {x y : Nat} (hx : x < R) (hy : y < R) (hv2 : SlAt w v' 65 1 (wb x y) S') (ho : onB x y = false) (f : Nat → Value) : VOk Tryd.prog w ⟨[.v (f 0), .v v, .v (f 2), .v (f 3), .v (f 4), .v (f 5), .v (f 6), .v (f 7), .v (f 8), .v (f 9), .v (f 10), .v (f 11), .v (f 12), .v (f 13), .v (f 14), .v (f 15), .v (f 16), .v (f 17), .v (f 18), .v (f 19), .v (f 20), .v (f 21), .v (f 22), .v (f 23), .v (f 24), .v (f 25), .v (f 26), .v (f 27), .v (f 28), .v (f 29), .v (f 30), .v (f 31), .v (f 32), .v (f 33), .v (f 34), .v (f 35), .v (f 36), .v (f 37), .v (f 38), .v (f 39), .v (f 40), .v (f 41), .v (f 42), .v (f 43), .v (f 44), .v (f 45), .v (f 46), .v (f 47), .v (f 48), .v (f 49), .v (f 50), .v (f 51), .v (f 52), .v (f 53), .v (f 54), .v (f 55), .v (f 56), .v (f 57), .v (f 58), .v (f 59), .v (f 60), .v (f 61), .v (f 62), .v (f 63), .v (f 64), .v (f 65), .v (f 66), .v (f 67), .v (f 68), .v (f 69), .v (f 70), .v (f 71), .v (f 72), .v (f 73), .v (f 74), .v (f 75), .v (f 76), .v (f 77), .v (f 78), .v (f 79), .v (f 80), .v (f 81), .v (f 82), .v (f 83), .v (f 84), .v (f 85), .v (f 86), .v (f 87), .v (f 88), .v (f 89), .v (f 90), .v (f 91), .v (f 92), .v (f 93), .v (f 94), .v (f 95), .v (f 96), .v (f 97), .v (f 98), .v (f 99), .v (f 100), .v (f 101), .v (f 102), .v (f 103), .v (f 104), .v (f 105), .v (f 106), .v (f 107), .v (f 108), .v (f 109), .v (f 110), .v (f 111), .v (f 112), .v (f 113), .v (f 114), .v (f 115), .v (f 116), .v (f 117), .v (f 118), .v (f 119), .v (f 120), .v (f 121), .v (f 122), .v (f 123), .v (f 124), .v (f 125), .v (f 126), .v (f 127), .v (f 128), .v (f 129), .v (f 130), .v (f 131), .v (f 132), .v (f 133), .v (f 134), .v (f 135), .v (f 136), .v (f 137), .v (f 138), .v (f 139), .v (f 140), .v (f 141), .v (f 142), .v (f 143), .v (f 144), .v (f 145), .v (f 146), .v (f 147), .v (f 148), .v (f 149)], memOf []⟩ (dropSeq 5 (bodyOf Tryd.f8)) (QB Tryd.prog Tryd.f8 w fun e w' => e = .returned (.bool true) ∧ Bw w w') := by
  refine vseq ?_
  apply vrp
  · apply VE.cons
    · exact ev_move rfl (gn rfl)
    simp only [nmy, seval]
    apply VE.cons
    · exact ev_move rfl (gn rfl)
    simp only [nmy, seval]
    apply VE.cons
    · exact ev_len rfl (gn rfl) rfl Tryd.underlying48 (rdg_arg hv)
    simp only [nmy, seval]
    apply VE.cons
    · exact ev_min rfl (gn rfl) rfl rfl hm
    simp only [nmy, seval]
    apply VE.cons
    · exact ev_cutx (a := 0) (b := 65) rfl (gn rfl) rfl Tryd.underlying48 Tryd.sizeOf5 (rdg_arg hv) rfl rfl (Nat.zero_le _) (hm ▸ Nat.min_le_left _ _) hcut
    simp only [nmy, seval]
    apply VE.cons
    · exact ev_assign rfl (gn rfl)
    simp only [nmy, seval]
    exact VE.nil _
  · kernel_rfl
  change VOk _ _ _ _ _
  refine vseq ?_
  apply vrp
  · apply VE.cons
    · exact ev_move rfl (gn rfl)
    simp only [nmy, seval]
    apply VE.cons
    · exact ev_callb (v := .tuple #[.agg #[.int .u8 0, .int .u8 0, .int .u8 0, .int .u8 0, .int .u8 0, .int .u8 0, .int .u8 0, .int .u8 0, .int .u8 0, .int .u8 0, .int .u8 0, .int .u8 0, .int .u8 0, .int .u8 0, .int .u8 0, .int .u8 0, .int .u8 0, .int .u8 0, .int .u8 0, .int .u8 0, .int .u8 0, .int .u8 0, .int .u8 0, .int .u8 0, .int .u8 0, .int .u8 0, .int .u8 0, .int .u8 0, .int .u8 0, .int .u8 0, .int .u8 0, .int .u8 0, .int .u8 0, .int .u8 0, .int .u8 0, .int .u8 0, .int .u8 0, .int .u8 0, .int .u8 0, .int .u8 0, .int .u8 0, .int .u8 0, .int .u8 0, .int .u8 0, .int .u8 0, .int .u8 0, .int .u8 0, .int .u8 0, .int .u8 0, .int .u8 0, .int .u8 0, .int .u8 0, .int .u8 0, .int .u8 0, .int .u8 0, .int .u8 0, .int .u8 0, .int .u8 0, .int .u8 0, .int .u8 0, .int .u8 0, .int .u8 0, .int .u8 0, .int .u8 0], .int .i64 15]) rfl (gn rfl) rfl (en_of Tryd.func30 (by kernel_rfl) rfl) (fun w' hb => read_off hx hy w' (hL.bw hb) (sl_bw hv2 hb) ho)
    simp only [nmy, seval]
    apply VE.cons
    · exact ev_move rfl (gn rfl)
    simp only [nmy, seval]
    apply VE.cons
    · first | exact ev_extract rfl (gn rfl) rfl rfl | exact ev_extractt rfl (gn rfl) rfl rfl
    simp only [nmy, seval]
    apply VE.cons
    · first | exact ev_extract rfl (gn rfl) rfl rfl | exact ev_extractt rfl (gn rfl) rfl rfl
    simp only [nmy, seval]
    apply VE.cons
    · exact ev_alloc rfl rfl (gn rfl) Tryd.zeroValue24
    simp only [nmy, seval]
    apply VE.cons
    · exact ev_store rfl (gn rfl) rfl rfl rfl Tryd.sizeOf24 rfl (by simp) rfl
    simp only [nmy, seval]
    apply VE.cons
    · exact ev_assign rfl (gn rfl)
    simp only [nmy, seval]
    exact VE.nil _
  · kernel_rfl
  change VOk _ _ _ _ _
  refine vseq ?_
  refine vseq ?_
  apply vrp
  · apply VE.cons
    · exact ev_move rfl (gn rfl)
    simp only [nmy, seval]
    apply VE.cons
    · exact ev_neq (p := true) rfl (gn rfl) rfl rfl (by decide)
    simp only [nmy, seval]
    exact VE.nil _
  · kernel_rfl
  change VOk _ _ _ _ _
  refine vcond_t rfl ?_
  refine vseq ?_
  apply vrp
  · apply VE.cons
    · exact ev_move rfl (gn rfl)
    simp only [nmy, seval]
    apply VE.cons
    · exact ev_len rfl (gn rfl) rfl Tryd.underlying48 (rdg_arg hv2)
    simp only [nmy, seval]
    apply VE.cons
    · exact ev_eql (p := true) rfl (gn rfl) rfl rfl (by decide)
    simp only [nmy, seval]
    apply VE.cons
    · exact ev_move rfl (gn rfl)
    simp only [nmy, seval]
    apply VE.cons
    · first | exact Ev.skip (fun _ => rfl) | exact ev_move rfl (fun _ => rfl)
    simp only [nmy, seval]
    apply VE.cons
    · first | exact Ev.skip (fun _ => rfl) | exact ev_idx rfl (fun _ => rfl) rfl rfl Tryd.underlying48 Tryd.sizeOf5 (rdg_arg hv2) (by decide) (by decide)
    simp only [nmy, seval]
    apply VE.cons
    · first | exact Ev.skip (fun _ => rfl) | exact ev_loadi rfl (fun _ => rfl) rfl Tryd.underlying5 rfl (rdg_arg hv2) rfl
    simp only [nmy, seval]
    apply VE.cons
    · first | exact Ev.skip (fun _ => rfl) | exact ev_eql (p := true) rfl (fun _ => rfl) rfl rfl (by decide)
    simp only [nmy, seval]
    apply VE.cons
    · first | exact ev_pick_t rfl (gn rfl) rfl rfl | exact ev_pick_f rfl (gn rfl) rfl rfl
    simp only [nmy, seval]
    apply VE.cons
    · exact ev_assign rfl (gn rfl)
    simp only [nmy, seval]
    exact VE.nil _
  · kernel_rfl
  change VOk _ _ _ _ _
  refine vseq ?_
  apply vrp
  · apply VE.cons
    · exact ev_alloc rfl rfl (gn rfl) Tryd.zeroValue22
    simp only [nmy, seval]
    apply VE.cons
    · exact ev_alloc rfl rfl (gn rfl) Tryd.zeroValue22
    simp only [nmy, seval]
    exact VE.nil _
  · kernel_rfl
  change VOk _ _ _ _ _
  refine vseq ?_
  refine vseq ?_
  apply vrp
  · apply VE.cons
    · exact ev_move rfl (gn rfl)
    simp only [nmy, seval]
    exact VE.nil _
  · kernel_rfl
  change VOk _ _ _ _ _
  refine vcond_t rfl ?_
  refine vseq ?_
  apply vrd (by kernel_rfl)
  · apply VE.cons
    · exact ev_slicea rfl (gn rfl) rfl Tryd.underlying22 Tryd.sizeOf5
    simp only [nmy, seval]
    apply VE.cons
    · exact ev_move rfl (gn rfl)
    simp only [nmy, seval]
    apply VE.cons
    · exact ev_cut (a := 1) (b := 33) rfl (gn rfl) rfl Tryd.underlying48 Tryd.sizeOf5 (rdg_arg hv2) rfl rfl (by decide) (by decide)
    simp only [nmy, seval]
    apply VE.cons
    · exact ev_copy rfl (gn rfl) rfl rfl rfl (rdg_sub (l' := b32l x) (n := 65) (lo := 1) (hi := 33) (rdg_arg hv2) (by decide) (by decide) rfl rfl) Tryd.underlying48 i5s rfl rfl (by decide) rfl (by decide)
    simp only [nmy, seval]
    exact VE.nil _
  · kernel_rfl
  change VOk _ _ _ _ _
  apply vrd (by kernel_rfl)
  · apply VE.cons
    · exact ev_slicea rfl (gn rfl) rfl Tryd.underlying22 Tryd.sizeOf5
    simp only [nmy, seval]
    apply VE.cons
    · exact ev_move rfl (gn rfl)
    simp only [nmy, seval]
    apply VE.cons
    · exact ev_cut (a := 33) (b := 65) rfl (gn rfl) rfl Tryd.underlying48 Tryd.sizeOf5 (rdg_arg hv2) rfl rfl (by decide) (by decide)
    simp only [nmy, seval]
    apply VE.cons
    · exact ev_copy rfl (gn rfl) rfl rfl rfl (rdg_sub (l' := b32l y) (n := 65) (lo := 33) (hi := 65) (rdg_arg hv2) (by decide) (by decide) rfl rfl) Tryd.underlying48 i5s rfl rfl (by decide) rfl (by decide)
    simp only [nmy, seval]
    exact VE.nil _
  · kernel_rfl
  change VOk _ _ _ _ _
  refine vseq ?_
  apply vrd (by kernel_rfl)
  · apply VE.cons
    · exact ev_move rfl (gn rfl)
    simp only [nmy, seval]
    apply VE.cons
    · exact ev_eql (p := true) rfl (gn rfl) rfl rfl (by decide)
    simp only [nmy, seval]
    apply VE.cons
    · exact ev_move rfl (gn rfl)
    simp only [nmy, seval]
    apply VE.cons
    · first | exact Ev.skip (fun _ => rfl) | exact ev_move rfl (fun _ => rfl)
    simp only [nmy, seval]
    apply VE.cons
    · first | exact Ev.skip (fun _ => rfl) | exact ev_move rfl (fun _ => rfl)
    simp only [nmy, seval]
    apply VE.cons
    · first | exact Ev.skip (fun _ => rfl) | exact ev_load rfl (fun _ => rfl) rfl rfl Tryd.underlying22 rfl Tryd.sizeOf22 rfl rfl | exact ev_loadx rfl (fun _ => rfl) rfl Tryd.underlying22 rfl Tryd.sizeOf22 (by assumption) rfl | exact ev_loada rfl (fun _ => rfl) rfl rfl Tryd.underlying22 rfl Tryd.sizeOf22 rfl
    simp only [nmy, seval]
    apply VE.cons
    · first | exact Ev.skip (fun _ => rfl) | exact ev_call rfl (fun _ => rfl) rfl (en_of Tryd.func19 (by kernel_rfl) rfl) (fun w' hw' => rofN x hx w')
    simp only [nmy, seval]
    apply VE.cons
    · first | exact Ev.skip (fun _ => rfl) | exact ev_load rfl (fun _ => rfl) rfl rfl Tryd.underlying22 rfl Tryd.sizeOf22 rfl rfl | exact ev_loadx rfl (fun _ => rfl) rfl Tryd.underlying22 rfl Tryd.sizeOf22 (by assumption) rfl | exact ev_loada rfl (fun _ => rfl) rfl rfl Tryd.underlying22 rfl Tryd.sizeOf22 rfl
    simp only [nmy, seval]
    apply VE.cons
    · first | exact Ev.skip (fun _ => rfl) | exact ev_call rfl (fun _ => rfl) rfl (en_of Tryd.func19 (by kernel_rfl) rfl) (fun w' hw' => rofN y hy w')
    simp only [nmy, seval]
    apply VE.cons
    · first | exact Ev.skip (fun _ => rfl) | exact ev_call (v := .bool false) rfl (fun _ => rfl) rfl (en_of Tryd.func18 (by kernel_rfl) rfl) (fun w' hw' => ho ▸ rOn_ok hx hy w')
    simp only [nmy, seval]
    apply VE.cons
    · first | exact Ev.skip (fun _ => rfl) | exact ev_pick_t rfl (fun _ => rfl) rfl rfl | exact ev_pick_f rfl (fun _ => rfl) rfl rfl
    simp only [nmy, seval]
    apply VE.cons
    · first | exact Ev.skip (fun _ => rfl) | exact ev_not rfl (fun _ => rfl) rfl
    simp only [nmy, seval]
    apply VE.cons
    · first | exact ev_pick_t rfl (gn rfl) rfl rfl | exact ev_pick_f rfl (gn rfl) rfl rfl
    simp only [nmy, seval]
    apply VE.cons
    · exact ev_assign rfl (gn rfl)
    simp only [nmy, seval]
    exact VE.nil _
  · kernel_rfl
  change VOk _ _ _ _ _
  refine vret ?_
  refine post_ret (res1 Tryd.results8 (rv_tmp rfl)) ?_
  intro ρ w' hr
  exact ⟨rfl, hr.1⟩
theorem bytes2_on {v v' : Value} {n : Nat} {l l' : List Value} {S S' : Nat → Prop} (w : World) (hL : Laid w) (hv : SlAt w v n 1 l S) (hcut : cutV 0 65 1 v = v') (hm : min n 80 = 65) {x y : Nat} (hx : x < R) (hy : y < R) (hv2 : SlAt w v' 65 1 (wb x y) S') (ho : onB x y = true) (f : Nat → Value) : VOk Tryd.prog w ⟨[.v (f 0), .v v, .v (f 2), .v (f 3), .v (f 4), .v (f 5), .v (f 6), .v (f 7), .v (f 8), .v (f 9), .v (f 10), .v (f 11), .v (f 12), .v (f 13), .v (f 14), .v (f 15), .v (f 16), .v (f 17), .v (f 18), .v (f 19), .v (f 20), .v (f 21), .v (f 22), .v (f 23), .v (f 24), .v (f 25), .v (f 26), .v (f 27), .v (f 28), .v (f 29), .v (f 30), .v (f 31), .v (f 32), .v (f 33), .v (f 34), .v (f 35), .v (f 36), .v (f 37), .v (f 38), .v (f 39), .v (f 40), .v (f 41), .v (f 42), .v (f 43), .v (f 44), .v (f 45), .v (f 46), .v (f 47), .v (f 48), .v (f 49), .v (f 50), .v (f 51), .v (f 52), .v (f 53), .v (f 54), .v (f 55), .v (f 56), .v (f 57), .v (f 58), .v (f 59), .v (f 60), .v (f 61), .v (f 62), .v (f 63), .v (f 64), .v (f 65), .v (f 66), .v (f 67), .v (f 68), .v (f 69), .v (f 70), .v (f 71), .v (f 72), .v (f 73), .v (f 74), .v (f 75), .v (f 76), .v (f 77), .v (f 78), .v (f 79), .v (f 80), .v (f 81), .v (f 82), .v (f 83), .v (f 84), .v (f 85), .v (f 86), .v (f 87), .v (f 88), .v (f 89), .v (f 90), .v (f 91), .v (f 92), .v (f 93), .v (f 94), .v (f 95), .v (f 96), .v (f 97), .v (f 98), .v (f 99), .v (f 100), .v (f 101), .v (f 102), .v (f 103), .v (f 104), .v (f 105), .v (f 106), .v (f 107), .v (f 108), .v (f 109), .v (f 110), .v (f 111), .v (f 112), .v (f 113), .v (f 114), .v (f 115), .v (f 116), .v (f 117), .v (f 118), .v (f 119), .v (f 120), .v (f 121), .v (f 122), .v (f 123), .v (f 124), .v (f 125), .v (f 126), .v (f 127), .v (f 128), .v (f 129), .v (f 130), .v (f 131), .v (f 132), .v (f 133), .v (f 134), .v (f 135), .v (f 136), .v (f 137), .v (f 138), .v (f 139), .v (f 140), .v (f 141), .v (f 142), .v (f 143), .v (f 144), .v (f 145), .v (f 146), .v (f 147), .v (f 148), .v (f 149)], memOf []⟩ (dropSeq 5 (bodyOf Tryd.f8)) (QB Tryd.prog Tryd.f8 w fun e w' => e = .returned (.bool true) ∧ Bw w w') := by
  refine vseq ?_
  apply vrp
  · apply VE.cons
    · exact ev_move rfl (gn rfl)
    simp only [nmy, seval]
    apply VE.cons
    · exact ev_move rfl (gn rfl)
    simp only [nmy, seval]
    apply VE.cons
    · exact ev_len rfl (gn rfl) rfl Tryd.underlying48 (rdg_arg hv)
    simp only [nmy, seval]
    apply VE.cons
    · exact ev_min rfl (gn rfl) rfl rfl hm
    simp only [nmy, seval]
    apply VE.cons
    · exact ev_cutx (a := 0) (b := 65) rfl (gn rfl) rfl Tryd.underlying48 Tryd.sizeOf5 (rdg_arg hv) rfl rfl (Nat.zero_le _) (hm ▸ Nat.min_le_left _ _) hcut
    simp only [nmy, seval]
    apply VE.cons
    · exact ev_assign rfl (gn rfl)
    simp only [nmy, seval]
    exact VE.nil _
  · kernel_rfl
  change VOk _ _ _ _ _
  refine vseq ?_
  apply vrp
  · apply VE.cons
    · exact ev_move rfl (gn rfl)
    simp only [nmy, seval]
    apply VE.cons
    · exact ev_callb (v := .tuple #[PT x y, .int .i64 0]) rfl (gn rfl) rfl (en_of Tryd.func30 (by kernel_rfl) rfl) (fun w' hb => read_on hx hy w' (hL.bw hb) (sl_bw hv2 hb) ho)
    simp only [nmy, seval]
    apply VE.cons
    · exact ev_move rfl (gn rfl)
    simp only [nmy, seval]
    apply VE.cons
    · first | exact ev_extract rfl (gn rfl) rfl rfl | exact ev_extractt rfl (gn rfl) rfl rfl
    simp only [nmy, seval]
    apply VE.cons
    · first | exact ev_extract rfl (gn rfl) rfl rfl | exact ev_extractt rfl (gn rfl) rfl rfl
    simp only [nmy, seval]
    apply VE.cons
    · exact ev_alloc rfl rfl (gn rfl) Tryd.zeroValue24
    simp only [nmy, seval]
    apply VE.cons
    · exact ev_store rfl (gn rfl) rfl rfl rfl Tryd.sizeOf24 rfl (by simp) rfl
    simp only [nmy, seval]
    apply VE.cons
    · exact ev_assign rfl (gn rfl)
    simp only [nmy, seval]
    exact VE.nil _
  · kernel_rfl
  change VOk _ _ _ _ _
  refine vseq ?_
  refine vseq ?_
  apply vrp
  · apply VE.cons
    · exact ev_move rfl (gn rfl)
    simp only [nmy, seval]
    apply VE.cons
    · exact ev_neq (p := false) rfl (gn rfl) rfl rfl (by decide)
    simp only [nmy, seval]
    exact VE.nil _
  · kernel_rfl
  change VOk _ _ _ _ _
  refine vcond_f rfl ?_
  refine vskip ?_
  change VOk _ _ _ _ _
  refine vseq ?_
  apply vrd (by kernel_rfl)
  · apply VE.cons
    · first | exact ev_load rfl (gn rfl) rfl rfl Tryd.underlying24 rfl Tryd.sizeOf24 rfl rfl | exact ev_loadx rfl (gn rfl) rfl Tryd.underlying24 rfl Tryd.sizeOf24 (by assumption) rfl | exact ev_loada rfl (gn rfl) rfl rfl Tryd.underlying24 rfl Tryd.sizeOf24 rfl
    simp only [nmy, seval]
    apply VE.cons
    · exact ev_callrow [] rfl rfl (gn rfl) rfl (en_of Tryd.func29 (by kernel_rfl) rfl) (n := 65) (l := wb x y) rfl (fun ρ S w' hb _ => write_on hx hy w' (hL.bw hb) ho)
    simp only [nmy, seval]
    apply VE.cons
    · exact ev_convbs rfl (gn rfl) rfl Tryd.underlying48 Tryd.underlying5 Tryd.underlying9 (rdg_row rfl) rfl
    simp only [nmy, seval]
    apply VE.cons
    · exact ev_move rfl (gn rfl)
    simp only [nmy, seval]
    apply VE.cons
    · exact ev_convbs rfl (gn rfl) rfl Tryd.underlying48 Tryd.underlying5 Tryd.underlying9 (rdg_arg hv2) rfl
    simp only [nmy, seval]
    apply VE.cons
    · exact ev_bin (c := .bool true) rfl (gn rfl) rfl rfl (fun w => str_eq _ _ _ w)
    simp only [nmy, seval]
    apply VE.cons
    · exact ev_assign rfl (gn rfl)
    simp only [nmy, seval]
    exact VE.nil _
  · kernel_rfl
  change VOk _ _ _ _ _
  refine vret ?_
  refine post_ret (res1 Tryd.results8 (rv_tmp rfl)) ?_
  intro ρ w' hr
  exact ⟨rfl, hr.1⟩
theorem ne_pt_self {p : Pt} (a b : Operand) (w : World) : (do eqGuard .neq 24 a b (PV p) (PV p); binOp .neq 24 (PV p) (PV p) : Sem Value).run Tryd.prog w = .ok (.bool false) w := by
  have hx := xv_lt p
  have hy := yv_lt p
  unfold PV PT
  go_simp
  rw [eqB2 _ hx hx]
  simp [eqB2 _ hy hy, Result.andThen]
theorem bytes1_inf {a : Nat} (hA : a < R) {v : Value} {k0 : Int} (w : World) (hL : Laid w) (hp : smul a base = .inf) (ht : ∀ f : Nat → Value, VOk Tryd.prog w ⟨[.v (f 0), .v v, .v (f 2), .v (f 3), .v (f 4), .v (f 5), .v (f 6), .v (f 7), .v (f 8), .v (f 9), .v (f 10), .v (f 11), .v (f 12), .v (f 13), .v (f 14), .v (f 15), .v (f 16), .v (f 17), .v (f 18), .v (f 19), .v (f 20), .v (f 21), .v (f 22), .v (f 23), .v (f 24), .v (f 25), .v (f 26), .v (f 27), .v (f 28), .v (f 29), .v (f 30), .v (f 31), .v (f 32), .v (f 33), .v (f 34), .v (f 35), .v (f 36), .v (f 37), .v (f 38), .v (f 39), .v (f 40), .v (f 41), .v (f 42), .v (f 43), .v (f 44), .v (f 45), .v (f 46), .v (f 47), .v (f 48), .v (f 49), .v (f 50), .v (f 51), .v (f 52), .v (f 53), .v (f 54), .v (f 55), .v (f 56), .v (f 57), .v (f 58), .v (f 59), .v (f 60), .v (f 61), .v (f 62), .v (f 63), .v (f 64), .v (f 65), .v (f 66), .v (f 67), .v (f 68), .v (f 69), .v (f 70), .v (f 71), .v (f 72), .v (f 73), .v (f 74), .v (f 75), .v (f 76), .v (f 77), .v (f 78), .v (f 79), .v (f 80), .v (f 81), .v (f 82), .v (f 83), .v (f 84), .v (f 85), .v (f 86), .v (f 87), .v (f 88), .v (f 89), .v (f 90), .v (f 91), .v (f 92), .v (f 93), .v (f 94), .v (f 95), .v (f 96), .v (f 97), .v (f 98), .v (f 99), .v (f 100), .v (f 101), .v (f 102), .v (f 103), .v (f 104), .v (f 105), .v (f 106), .v (f 107), .v (f 108), .v (f 109), .v (f 110), .v (f 111), .v (f 112), .v (f 113), .v (f 114), .v (f 115), .v (f 116), .v (f 117), .v (f 118), .v (f 119), .v (f 120), .v (f 121), .v (f 122), .v (f 123), .v (f 124), .v (f 125), .v (f 126), .v (f 127), .v (f 128), .v (f 129), .v (f 130), .v (f 131), .v (f 132), .v (f 133), .v (f 134), .v (f 135), .v (f 136), .v (f 137), .v (f 138), .v (f 139), .v (f 140), .v (f 141), .v (f 142), .v (f 143), .v (f 144), .v (f 145), .v (f 146), .v (f 147), .v (f 148), .v (f 149)], memOf []⟩ (dropSeq 5 (bodyOf Tryd.f8)) (QB Tryd.prog Tryd.f8 w fun e w' => e = .returned (.bool true) ∧ Bw w w'))  : Calls Tryd.prog 8 #[B32 a, v, .int .i64 k0] w fun e w' => e = .returned (.bool true) ∧ Bw w w' := by
  go_enter Tryd.func8, Tryd.ntmps8
  refine ve_go ?_
  simp only [List.map_cons, List.map_nil]
  refine vseq ?_
  apply vrp
  · apply VE.cons
    · exact ev_box rfl rfl (gn rfl) rfl
    simp only [nmy, seval]
    apply VE.cons
    · exact ev_assign rfl (gn rfl)
    simp only [nmy, seval]
    exact VE.nil _
  · kernel_rfl
  change VOk _ _ _ _ _
  refine vseq ?_
  apply vrp
  · apply VE.cons
    · first | exact ev_load rfl (gn rfl) rfl rfl Tryd.underlying22 rfl Tryd.sizeOf22 rfl rfl | exact ev_loadx rfl (gn rfl) rfl Tryd.underlying22 rfl Tryd.sizeOf22 (by assumption) rfl | exact ev_loada rfl (gn rfl) rfl rfl Tryd.underlying22 rfl Tryd.sizeOf22 rfl
    simp only [nmy, seval]
    apply VE.cons
    · exact ev_call rfl (gn rfl) rfl (en_of Tryd.func20 (by kernel_rfl) rfl) (fun w' hw' => ofP hA hp w' (hL.bw hw'))
    simp only [nmy, seval]
    apply VE.cons
    · exact ev_alloc rfl rfl (gn rfl) Tryd.zeroValue24
    simp only [nmy, seval]
    apply VE.cons
    · exact ev_store rfl (gn rfl) rfl rfl rfl Tryd.sizeOf24 rfl (by simp) rfl
    simp only [nmy, seval]
    exact VE.nil _
  · kernel_rfl
  change VOk _ _ _ _ _
  refine vseq ?_
  apply vrp
  · apply VE.cons
    · first | exact ev_load rfl (gn rfl) rfl rfl Tryd.underlying24 rfl Tryd.sizeOf24 rfl rfl | exact ev_loadx rfl (gn rfl) rfl Tryd.underlying24 rfl Tryd.sizeOf24 (by assumption) rfl | exact ev_loada rfl (gn rfl) rfl rfl Tryd.underlying24 rfl Tryd.sizeOf24 rfl
    simp only [nmy, seval]
    apply VE.cons
    · exact ev_callrow [] rfl rfl (gn rfl) rfl (en_of Tryd.func29 (by kernel_rfl) rfl) (n := 0) (l := []) rfl (fun ρ S w' hb _ => write_pt (p := .inf) True.intro w' (hL.bw hb))
    simp only [nmy, seval]
    apply VE.cons
    · exact ev_assign rfl (gn rfl)
    simp only [nmy, seval]
    exact VE.nil _
  · kernel_rfl
  change VOk _ _ _ _ _
  refine vseq ?_
  refine vseq ?_
  apply vrp
  · apply VE.cons
    · exact ev_call (v := .bool true) rfl (gn rfl) rfl (en_of Tryd.func11 (by kernel_rfl) rfl) (fun w' hw' => curves_ok w' (hL.bw hw'))
    simp only [nmy, seval]
    apply VE.cons
    · exact ev_not rfl (gn rfl) rfl
    simp only [nmy, seval]
    apply VE.cons
    · exact ev_move rfl (gn rfl)
    simp only [nmy, seval]
    apply VE.cons
    · first | exact Ev.skip (fun _ => rfl) | exact ev_move rfl (fun _ => rfl)
    simp only [nmy, seval]
    apply VE.cons
    · first | exact Ev.skip (fun _ => rfl) | exact ev_len rfl (fun _ => rfl) rfl Tryd.underlying48 (rdg_row rfl)
    simp only [nmy, seval]
    apply VE.cons
    · first | exact Ev.skip (fun _ => rfl) | exact ev_eql (p := true) rfl (fun _ => rfl) rfl rfl (by decide)
    simp only [nmy, seval]
    apply VE.cons
    · first | exact Ev.skip (fun _ => rfl) | exact ev_load rfl (fun _ => rfl) rfl rfl Tryd.underlying24 rfl Tryd.sizeOf24 rfl rfl | exact ev_loadx rfl (fun _ => rfl) rfl Tryd.underlying24 rfl Tryd.sizeOf24 (by assumption) rfl | exact ev_loada rfl (fun _ => rfl) rfl rfl Tryd.underlying24 rfl Tryd.sizeOf24 rfl
    simp only [nmy, seval]
    apply VE.cons
    · first | exact Ev.skip (fun _ => rfl) | exact ev_build rfl (fun _ => rfl) rfl (built24_0)
    simp only [nmy, seval]
    apply VE.cons
    · first | exact Ev.skip (fun _ => rfl) | exact ev_bin (c := .bool true) rfl (fun _ => rfl) rfl rfl (fun w => eqP_inf _ _ w)
    simp only [nmy, seval]
    apply VE.cons
    · first | exact Ev.skip (fun _ => rfl) | exact ev_bin (c := .bool false) rfl (fun _ => rfl) rfl rfl (fun w => ne_bool _ _ _ w)
    simp only [nmy, seval]
    apply VE.cons
    · first | exact ev_pick_t rfl (gn rfl) rfl rfl | exact ev_pick_f rfl (gn rfl) rfl rfl
    simp only [nmy, seval]
    exact VE.nil _
  · kernel_rfl
  change VOk _ _ _ _ _
  refine vcond_f rfl ?_
  refine vskip ?_
  change VOk _ _ _ _ _
  refine vseq ?_
  refine vseq ?_
  apply vrp
  · apply VE.cons
    · exact ev_move rfl (gn rfl)
    simp only [nmy, seval]
    apply VE.cons
    · exact ev_len rfl (gn rfl) rfl Tryd.underlying48 (rdg_row rfl)
    simp only [nmy, seval]
    apply VE.cons
    · exact ev_gtr (p := false) rfl (gn rfl) rfl rfl (by decide)
    simp only [nmy, seval]
    exact VE.nil _
  · kernel_rfl
  change VOk _ _ _ _ _
  refine vcond_f rfl ?_
  refine vskip ?_
  change VOk _ _ _ _ _
  exact vforgetall (fun i => i == 1) ht
theorem bytes1_tag {a : Nat} (hA : a < R) {v : Value} {k0 b0 : Int} {u r : Value} (w : World) (hL : Laid w) {p : Pt} {x y : Nat} (_hx : x < R) (_hy : y < R) (op : p.on) (ip : p ≠ .inf) (hp : smul a base = p) (hw : wl p = wb x y) (hu : ∀ w, (convert 3 28 (.int .i64 k0)).run Tryd.prog w = .ok u w) (hr : ∀ a b w, (do eqGuard .rem 28 a b u (.int .u64 65); binOp .rem 28 u (.int .u64 65) : Sem Value).run Tryd.prog w = .ok r w) (hj : ∀ w, (convert 28 3 r).run Tryd.prog w = .ok (.int .i64 (0 : Nat)) w) (hxor : ∀ p q w, (do eqGuard .xor 5 p q (.int .u8 b0) (.int .u8 1); binOp .xor 5 (.int .u8 b0) (.int .u8 1) : Sem Value).run Tryd.prog w = .ok (.int .u8 ((5 : Nat) : Int)) w) (hget : (wb x y)[0]? = some (.int .u8 b0)) (hset : (wb x y).set 0 (.int .u8 (5 : Nat)) = .int .u8 (5 : Nat) :: (l32 x ++ l32 y)) (ht : ∀ f : Nat → Value, VOk Tryd.prog w ⟨[.v (f 0), .v v, .v (f 2), .v (f 3), .v (f 4), .v (f 5), .v (f 6), .v (f 7), .v (f 8), .v (f 9), .v (f 10), .v (f 11), .v (f 12), .v (f 13), .v (f 14), .v (f 15), .v (f 16), .v (f 17), .v (f 18), .v (f 19), .v (f 20), .v (f 21), .v (f 22), .v (f 23), .v (f 24), .v (f 25), .v (f 26), .v (f 27), .v (f 28), .v (f 29), .v (f 30), .v (f 31), .v (f 32), .v (f 33), .v (f 34), .v (f 35), .v (f 36), .v (f 37), .v (f 38), .v (f 39), .v (f 40), .v (f 41), .v (f 42), .v (f 43), .v (f 44), .v (f 45), .v (f 46), .v (f 47), .v (f 48), .v (f 49), .v (f 50), .v (f 51), .v (f 52), .v (f 53), .v (f 54), .v (f 55), .v (f 56), .v (f 57), .v (f 58), .v (f 59), .v (f 60), .v (f 61), .v (f 62), .v (f 63), .v (f 64), .v (f 65), .v (f 66), .v (f 67), .v (f 68), .v (f 69), .v (f 70), .v (f 71), .v (f 72), .v (f 73), .v (f 74), .v (f 75), .v (f 76), .v (f 77), .v (f 78), .v (f 79), .v (f 80), .v (f 81), .v (f 82), .v (f 83), .v (f 84), .v (f 85), .v (f 86), .v (f 87), .v (f 88), .v (f 89), .v (f 90), .v (f 91), .v (f 92), .v (f 93), .v (f 94), .v (f 95), .v (f 96), .v (f 97), .v (f 98), .v (f 99), .v (f 100), .v (f 101), .v (f 102), .v (f 103), .v (f 104), .v (f 105), .v (f 106), .v (f 107), .v (f 108), .v (f 109), .v (f 110), .v (f 111), .v (f 112), .v (f 113), .v (f 114), .v (f 115), .v (f 116), .v (f 117), .v (f 118), .v (f 119), .v (f 120), .v (f 121), .v (f 122), .v (f 123), .v (f 124), .v (f 125), .v (f 126), .v (f 127), .v (f 128), .v (f 129), .v (f 130), .v (f 131), .v (f 132), .v (f 133), .v (f 134), .v (f 135), .v (f 136), .v (f 137), .v (f 138), .v (f 139), .v (f 140), .v (f 141), .v (f 142), .v (f 143), .v (f 144), .v (f 145), .v (f 146), .v (f 147), .v (f 148), .v (f 149)], memOf []⟩ (dropSeq 5 (bodyOf Tryd.f8)) (QB Tryd.prog Tryd.f8 w fun e w' => e = .returned (.bool true) ∧ Bw w w'))  : Calls Tryd.prog 8 #[B32 a, v, .int .i64 k0] w fun e w' => e = .returned (.bool true) ∧ Bw w w' := by
  go_enter Tryd.func8, Tryd.ntmps8
  refine ve_go ?_
  simp only [List.map_cons, List.map_nil]
  refine vseq ?_
  apply vrp
  · apply VE.cons
    · exact ev_box rfl rfl (gn rfl) rfl
    simp only [nmy, seval]
    apply VE.cons
    · exact ev_assign rfl (gn rfl)
    simp only [nmy, seval]
    exact VE.nil _
  · kernel_rfl
  change VOk _ _ _ _ _
  refine vseq ?_
  apply vrp
  · apply VE.cons
    · first | exact ev_load rfl (gn rfl) rfl rfl Tryd.underlying22 rfl Tryd.sizeOf22 rfl rfl | exact ev_loadx rfl (gn rfl) rfl Tryd.underlying22 rfl Tryd.sizeOf22 (by assumption) rfl | exact ev_loada rfl (gn rfl) rfl rfl Tryd.underlying22 rfl Tryd.sizeOf22 rfl
    simp only [nmy, seval]
    apply VE.cons
    · exact ev_call rfl (gn rfl) rfl (en_of Tryd.func20 (by kernel_rfl) rfl) (fun w' hw' => ofP hA hp w' (hL.bw hw'))
    simp only [nmy, seval]
    apply VE.cons
    · exact ev_alloc rfl rfl (gn rfl) Tryd.zeroValue24
    simp only [nmy, seval]
    apply VE.cons
    · exact ev_store rfl (gn rfl) rfl rfl rfl Tryd.sizeOf24 rfl (by simp) rfl
    simp only [nmy, seval]
    exact VE.nil _
  · kernel_rfl
  change VOk _ _ _ _ _
  refine vseq ?_
  apply vrp
  · apply VE.cons
    · first | exact ev_load rfl (gn rfl) rfl rfl Tryd.underlying24 rfl Tryd.sizeOf24 rfl rfl | exact ev_loadx rfl (gn rfl) rfl Tryd.underlying24 rfl Tryd.sizeOf24 (by assumption) rfl | exact ev_loada rfl (gn rfl) rfl rfl Tryd.underlying24 rfl Tryd.sizeOf24 rfl
    simp only [nmy, seval]
    apply VE.cons
    · exact ev_callrow [] rfl rfl (gn rfl) rfl (en_of Tryd.func29 (by kernel_rfl) rfl) (n := 65) (l := wb x y) rfl (fun ρ S w' hb _ => by have := write_pt op w' (hL.bw hb); rw [hw] at this; exact this)
    simp only [nmy, seval]
    apply VE.cons
    · exact ev_assign rfl (gn rfl)
    simp only [nmy, seval]
    exact VE.nil _
  · kernel_rfl
  change VOk _ _ _ _ _
  refine vseq ?_
  refine vseq ?_
  apply vrp
  · apply VE.cons
    · exact ev_call (v := .bool true) rfl (gn rfl) rfl (en_of Tryd.func11 (by kernel_rfl) rfl) (fun w' hw' => curves_ok w' (hL.bw hw'))
    simp only [nmy, seval]
    apply VE.cons
    · exact ev_not rfl (gn rfl) rfl
    simp only [nmy, seval]
    apply VE.cons
    · exact ev_move rfl (gn rfl)
    simp only [nmy, seval]
    apply VE.cons
    · first | exact Ev.skip (fun _ => rfl) | exact ev_move rfl (fun _ => rfl)
    simp only [nmy, seval]
    apply VE.cons
    · first | exact Ev.skip (fun _ => rfl) | exact ev_len rfl (fun _ => rfl) rfl Tryd.underlying48 (rdg_row rfl)
    simp only [nmy, seval]
    apply VE.cons
    · first | exact Ev.skip (fun _ => rfl) | exact ev_eql (p := false) rfl (fun _ => rfl) rfl rfl (by decide)
    simp only [nmy, seval]
    apply VE.cons
    · first | exact Ev.skip (fun _ => rfl) | exact ev_load rfl (fun _ => rfl) rfl rfl Tryd.underlying24 rfl Tryd.sizeOf24 rfl rfl | exact ev_loadx rfl (fun _ => rfl) rfl Tryd.underlying24 rfl Tryd.sizeOf24 (by assumption) rfl | exact ev_loada rfl (fun _ => rfl) rfl rfl Tryd.underlying24 rfl Tryd.sizeOf24 rfl
    simp only [nmy, seval]
    apply VE.cons
    · first | exact Ev.skip (fun _ => rfl) | exact ev_build rfl (fun _ => rfl) rfl (built24_0)
    simp only [nmy, seval]
    apply VE.cons
    · first | exact Ev.skip (fun _ => rfl) | exact ev_bin (c := .bool false) rfl (fun _ => rfl) rfl rfl (fun w => eqP_ninf op ip _ _ w)
    simp only [nmy, seval]
    apply VE.cons
    · first | exact Ev.skip (fun _ => rfl) | exact ev_bin (c := .bool false) rfl (fun _ => rfl) rfl rfl (fun w => ne_bool _ _ _ w)
    simp only [nmy, seval]
    apply VE.cons
    · first | exact ev_pick_t rfl (gn rfl) rfl rfl | exact ev_pick_f rfl (gn rfl) rfl rfl
    simp only [nmy, seval]
    exact VE.nil _
  · kernel_rfl
  change VOk _ _ _ _ _
  refine vcond_f rfl ?_
  refine vskip ?_
  change VOk _ _ _ _ _
  refine vseq ?_
  refine vseq ?_
  apply vrp
  · apply VE.cons
    · exact ev_move rfl (gn rfl)
    simp only [nmy, seval]
    apply VE.cons
    · exact ev_len rfl (gn rfl) rfl Tryd.underlying48 (rdg_row rfl)
    simp only [nmy, seval]
    apply VE.cons
    · exact ev_gtr (p := true) rfl (gn rfl) rfl rfl (by decide)
    simp only [nmy, seval]
    exact VE.nil _
  · kernel_rfl
  change VOk _ _ _ _ _
  refine vcond_t rfl ?_
  refine vseq ?_
  apply vrp
  · apply VE.cons
    · exact ev_move rfl (gn rfl)
    simp only [nmy, seval]
    apply VE.cons
    · exact ev_callp (v := .tuple #[PV p, .int .i64 0]) [23] rfl (gn rfl) rfl (en_of Tryd.func30 (by kernel_rfl) rfl) (fun ρ S w' hb hR => by obtain ⟨S1, hs⟩ := rdg_row rfl ρ S w' hb hR; rw [← hw] at hs; exact read_pt op ip w' (hL.bw hb) (by rw [hw] at hs ⊢; exact hs))
    simp only [nmy, seval]
    apply VE.cons
    · exact ev_move rfl (gn rfl)
    simp only [nmy, seval]
    apply VE.cons
    · first | exact ev_extract rfl (gn rfl) rfl rfl | exact ev_extractt rfl (gn rfl) rfl rfl
    simp only [nmy, seval]
    apply VE.cons
    · first | exact ev_extract rfl (gn rfl) rfl rfl | exact ev_extractt rfl (gn rfl) rfl rfl
    simp only [nmy, seval]
    apply VE.cons
    · exact ev_alloc rfl rfl (gn rfl) Tryd.zeroValue24
    simp only [nmy, seval]
    apply VE.cons
    · exact ev_store rfl (gn rfl) rfl rfl rfl Tryd.sizeOf24 rfl (by simp) rfl
    simp only [nmy, seval]
    apply VE.cons
    · exact ev_assign rfl (gn rfl)
    simp only [nmy, seval]
    exact VE.nil _
  · kernel_rfl
  change VOk _ _ _ _ _
  refine vseq ?_
  apply vrp
  · apply VE.cons
    · exact ev_move rfl (gn rfl)
    simp only [nmy, seval]
    apply VE.cons
    · exact ev_move rfl (gn rfl)
    simp only [nmy, seval]
    apply VE.cons
    · exact ev_conv rfl (gn rfl) rfl (fun w => hu w)
    simp only [nmy, seval]
    apply VE.cons
    · exact ev_bin rfl (gn rfl) rfl rfl (fun w => hr _ _ w)
    simp only [nmy, seval]
    apply VE.cons
    · exact ev_conv rfl (gn rfl) rfl (fun w => hj w)
    simp only [nmy, seval]
    apply VE.cons
    · exact ev_idx rfl (gn rfl) rfl rfl Tryd.underlying48 Tryd.sizeOf5 (rdg_row rfl) (by decide) (by decide)
    simp only [nmy, seval]
    apply VE.cons
    · exact ev_loadi rfl (gn rfl) rfl Tryd.underlying5 rfl (rdg_row rfl) hget
    simp only [nmy, seval]
    apply VE.cons
    · exact ev_bin rfl (gn rfl) rfl rfl (fun w => hxor _ _ w)
    simp only [nmy, seval]
    apply VE.cons
    · exact ev_idx rfl (gn rfl) rfl rfl Tryd.underlying48 Tryd.sizeOf5 (rdg_row rfl) (by decide) (by decide)
    simp only [nmy, seval]
    apply VE.cons
    · exact ev_storei rfl (gn rfl) rfl rfl rfl Tryd.sizeOf5 rfl rfl (by decide) hset
    simp only [nmy, seval]
    exact VE.nil _
  · kernel_rfl
  change VOk _ _ _ _ _
  refine vseq ?_
  apply vrp
  · apply VE.cons
    · exact ev_move rfl (gn rfl)
    simp only [nmy, seval]
    apply VE.cons
    · exact ev_callp (v := .tuple #[.agg #[.int .u8 0, .int .u8 0, .int .u8 0, .int .u8 0, .int .u8 0, .int .u8 0, .int .u8 0, .int .u8 0, .int .u8 0, .int .u8 0, .int .u8 0, .int .u8 0, .int .u8 0, .int .u8 0, .int .u8 0, .int .u8 0, .int .u8 0, .int .u8 0, .int .u8 0, .int .u8 0, .int .u8 0, .int .u8 0, .int .u8 0, .int .u8 0, .int .u8 0, .int .u8 0, .int .u8 0, .int .u8 0, .int .u8 0, .int .u8 0, .int .u8 0, .int .u8 0, .int .u8 0, .int .u8 0, .int .u8 0, .int .u8 0, .int .u8 0, .int .u8 0, .int .u8 0, .int .u8 0, .int .u8 0, .int .u8 0, .int .u8 0, .int .u8 0, .int .u8 0, .int .u8 0, .int .u8 0, .int .u8 0, .int .u8 0, .int .u8 0, .int .u8 0, .int .u8 0, .int .u8 0, .int .u8 0, .int .u8 0, .int .u8 0, .int .u8 0, .int .u8 0, .int .u8 0, .int .u8 0, .int .u8 0, .int .u8 0, .int .u8 0, .int .u8 0], .int .i64 15]) [23] rfl (gn rfl) rfl (en_of Tryd.func30 (by kernel_rfl) rfl) (fun ρ S w' hb hR => by obtain ⟨S1, hs⟩ := rdg_row rfl ρ S w' hb hR; exact read_tag w' (hL.bw hb) hs (by decide))
    simp only [nmy, seval]
    apply VE.cons
    · exact ev_move rfl (gn rfl)
    simp only [nmy, seval]
    apply VE.cons
    · first | exact ev_extract rfl (gn rfl) rfl rfl | exact ev_extractt rfl (gn rfl) rfl rfl
    simp only [nmy, seval]
    apply VE.cons
    · first | exact ev_extract rfl (gn rfl) rfl rfl | exact ev_extractt rfl (gn rfl) rfl rfl
    simp only [nmy, seval]
    apply VE.cons
    · exact ev_alloc rfl rfl (gn rfl) Tryd.zeroValue24
    simp only [nmy, seval]
    apply VE.cons
    · exact ev_store rfl (gn rfl) rfl rfl rfl Tryd.sizeOf24 rfl (by simp) rfl
    simp only [nmy, seval]
    apply VE.cons
    · exact ev_assign rfl (gn rfl)
    simp only [nmy, seval]
    exact VE.nil _
  · kernel_rfl
  change VOk _ _ _ _ _
  refine vseq ?_
  apply vrp
  · apply VE.cons
    · exact ev_alloc rfl rfl (gn rfl) Tryd.zeroValue22
    simp only [nmy, seval]
    apply VE.cons
    · exact ev_alloc rfl rfl (gn rfl) Tryd.zeroValue22
    simp only [nmy, seval]
    exact VE.nil _
  · kernel_rfl
  change VOk _ _ _ _ _
  refine vseq ?_
  apply vrd (by kernel_rfl)
  · apply VE.cons
    · exact ev_slicea rfl (gn rfl) rfl Tryd.underlying22 Tryd.sizeOf5
    simp only [nmy, seval]
    apply VE.cons
    · exact ev_move rfl (gn rfl)
    simp only [nmy, seval]
    apply VE.cons
    · exact ev_cut (a := 1) (b := 33) rfl (gn rfl) rfl Tryd.underlying48 Tryd.sizeOf5 (rdg_row rfl) rfl rfl (by decide) (by decide)
    simp only [nmy, seval]
    apply VE.cons
    · exact ev_copy rfl (gn rfl) rfl rfl rfl (rdg_sub (l' := b32l x) (n := 65) (lo := 1) (hi := 33) (rdg_row rfl) (by decide) (by decide) rfl rfl) Tryd.underlying48 i5s rfl rfl (by decide) rfl (by decide)
    simp only [nmy, seval]
    exact VE.nil _
  · kernel_rfl
  change VOk _ _ _ _ _
  refine vseq ?_
  apply vrd (by kernel_rfl)
  · apply VE.cons
    · exact ev_slicea rfl (gn rfl) rfl Tryd.underlying22 Tryd.sizeOf5
    simp only [nmy, seval]
    apply VE.cons
    · exact ev_move rfl (gn rfl)
    simp only [nmy, seval]
    apply VE.cons
    · exact ev_cut (a := 33) (b := 65) rfl (gn rfl) rfl Tryd.underlying48 Tryd.sizeOf5 (rdg_row rfl) rfl rfl (by decide) (by decide)
    simp only [nmy, seval]
    apply VE.cons
    · exact ev_copy rfl (gn rfl) rfl rfl rfl (rdg_sub (l' := b32l y) (n := 65) (lo := 33) (hi := 65) (rdg_row rfl) (by decide) (by decide) rfl rfl) Tryd.underlying48 i5s rfl rfl (by decide) rfl (by decide)
    simp only [nmy, seval]
    exact VE.nil _
  · kernel_rfl
  change VOk _ _ _ _ _
  refine vseq ?_
  apply vrd (by kernel_rfl)
  · apply VE.cons
    · exact ev_move rfl (gn rfl)
    simp only [nmy, seval]
    apply VE.cons
    · exact ev_len rfl (gn rfl) rfl Tryd.underlying48 (rdg_row rfl)
    simp only [nmy, seval]
    apply VE.cons
    · exact ev_neq (p := false) rfl (gn rfl) rfl rfl (by decide)
    simp only [nmy, seval]
    apply VE.cons
    · exact ev_move rfl (gn rfl)
    simp only [nmy, seval]
    apply VE.cons
    · first | exact Ev.skip (fun _ => rfl) | exact ev_move rfl (fun _ => rfl)
    simp only [nmy, seval]
    apply VE.cons
    · first | exact Ev.skip (fun _ => rfl) | exact ev_neq (p := false) rfl (fun _ => rfl) rfl rfl (by decide)
    simp only [nmy, seval]
    apply VE.cons
    · first | exact ev_pick_t rfl (gn rfl) rfl rfl | exact ev_pick_f rfl (gn rfl) rfl rfl
    simp only [nmy, seval]
    apply VE.cons
    · exact ev_move rfl (gn rfl)
    simp only [nmy, seval]
    apply VE.cons
    · first | exact Ev.skip (fun _ => rfl) | exact ev_load rfl (fun _ => rfl) rfl rfl Tryd.underlying24 rfl Tryd.sizeOf24 rfl rfl | exact ev_loadx rfl (fun _ => rfl) rfl Tryd.underlying24 rfl Tryd.sizeOf24 (by assumption) rfl | exact ev_loada rfl (fun _ => rfl) rfl rfl Tryd.underlying24 rfl Tryd.sizeOf24 rfl
    simp only [nmy, seval]
    apply VE.cons
    · first | exact Ev.skip (fun _ => rfl) | exact ev_load rfl (fun _ => rfl) rfl rfl Tryd.underlying24 rfl Tryd.sizeOf24 rfl rfl | exact ev_loadx rfl (fun _ => rfl) rfl Tryd.underlying24 rfl Tryd.sizeOf24 (by assumption) rfl | exact ev_loada rfl (fun _ => rfl) rfl rfl Tryd.underlying24 rfl Tryd.sizeOf24 rfl
    simp only [nmy, seval]
    apply VE.cons
    · first | exact Ev.skip (fun _ => rfl) | exact ev_bin (c := .bool false) rfl (fun _ => rfl) rfl rfl (fun w => ne_pt_self _ _ w)
    simp only [nmy, seval]
    apply VE.cons
    · first | exact ev_pick_t rfl (gn rfl) rfl rfl | exact ev_pick_f rfl (gn rfl) rfl rfl
    simp only [nmy, seval]
    apply VE.cons
    · exact ev_move rfl (gn rfl)
    simp only [nmy, seval]
    apply VE.cons
    · first | exact Ev.skip (fun _ => rfl) | exact ev_move rfl (fun _ => rfl)
    simp only [nmy, seval]
    apply VE.cons
    · first | exact Ev.skip (fun _ => rfl) | exact ev_eql (p := false) rfl (fun _ => rfl) rfl rfl (by decide)
    simp only [nmy, seval]
    apply VE.cons
    · first | exact Ev.skip (fun _ => rfl) | exact ev_move rfl (fun _ => rfl)
    simp only [nmy, seval]
    apply VE.cons
    · first | exact Ev.skip (fun _ => rfl) | exact ev_idx rfl (fun _ => rfl) rfl rfl Tryd.underlying48 Tryd.sizeOf5 (rdg_row rfl) (by decide) (by decide)
    simp only [nmy, seval]
    apply VE.cons
    · first | exact Ev.skip (fun _ => rfl) | exact ev_loadi rfl (fun _ => rfl) rfl Tryd.underlying5 rfl (rdg_row rfl) rfl
    simp only [nmy, seval]
    apply VE.cons
    · first | exact Ev.skip (fun _ => rfl) | exact ev_eql (p := false) rfl (fun _ => rfl) rfl rfl (by decide)
    simp only [nmy, seval]
    apply VE.cons
    · first | exact Ev.skip (fun _ => rfl) | exact ev_move rfl (fun _ => rfl)
    simp only [nmy, seval]
    apply VE.cons
    · first | exact Ev.skip (fun _ => rfl) | exact ev_load rfl (fun _ => rfl) rfl rfl Tryd.underlying22 rfl Tryd.sizeOf22 rfl rfl | exact ev_loadx rfl (fun _ => rfl) rfl Tryd.underlying22 rfl Tryd.sizeOf22 (by assumption) rfl | exact ev_loada rfl (fun _ => rfl) rfl rfl Tryd.underlying22 rfl Tryd.sizeOf22 rfl
    simp only [nmy, seval]
    apply VE.cons
    · first | exact Ev.skip (fun _ => rfl) | exact ev_call rfl (fun _ => rfl) rfl (en_of Tryd.func19 (by kernel_rfl) rfl) (fun w' hw' => rofN x' hx' w')
    simp only [nmy, seval]
    apply VE.cons
    · first | exact Ev.skip (fun _ => rfl) | exact ev_load rfl (fun _ => rfl) rfl rfl Tryd.underlying22 rfl Tryd.sizeOf22 rfl rfl | exact ev_loadx rfl (fun _ => rfl) rfl Tryd.underlying22 rfl Tryd.sizeOf22 (by assumption) rfl | exact ev_loada rfl (fun _ => rfl) rfl rfl Tryd.underlying22 rfl Tryd.sizeOf22 rfl
    simp only [nmy, seval]
    apply VE.cons
    · first | exact Ev.skip (fun _ => rfl) | exact ev_call rfl (fun _ => rfl) rfl (en_of Tryd.func19 (by kernel_rfl) rfl) (fun w' hw' => rofN y' hy' w')
    simp only [nmy, seval]
    apply VE.cons
    · first | exact Ev.skip (fun _ => rfl) | exact ev_call (v := .bool false) rfl (fun _ => rfl) rfl (en_of Tryd.func18 (by kernel_rfl) rfl) (fun w' hw' => ho ▸ rOn_ok hx' hy' w')
    simp only [nmy, seval]
    apply VE.cons
    · first | exact Ev.skip (fun _ => rfl) | exact ev_pick_t rfl (fun _ => rfl) rfl rfl | exact ev_pick_f rfl (fun _ => rfl) rfl rfl
    simp only [nmy, seval]
    apply VE.cons
    · first | exact Ev.skip (fun _ => rfl) | exact ev_bin (c := .bool false) rfl (fun _ => rfl) rfl rfl (fun w => ne_bool _ _ _ w)
    simp only [nmy, seval]
    apply VE.cons
    · first | exact ev_pick_t rfl (gn rfl) rfl rfl | exact ev_pick_f rfl (gn rfl) rfl rfl
    simp only [nmy, seval]
    apply VE.cons
    · exact ev_move rfl (gn rfl)
    simp only [nmy, seval]
    apply VE.cons
    · first | exact Ev.skip (fun _ => rfl) | exact ev_move rfl (fun _ => rfl)
    simp only [nmy, seval]
    apply VE.cons
    · first | exact Ev.skip (fun _ => rfl) | exact ev_neq (p := true) rfl (fun _ => rfl) rfl rfl (by decide)
    simp only [nmy, seval]
    apply VE.cons
    · first | exact Ev.skip (fun _ => rfl) | exact ev_move rfl (fun _ => rfl)
    simp only [nmy, seval]
    apply VE.cons
    · first | exact Ev.skip (fun _ => rfl) | exact ev_move rfl (fun _ => rfl)
    simp only [nmy, seval]
    apply VE.cons
    · first | exact Ev.skip (fun _ => rfl) | exact ev_neq (p := false) rfl (fun _ => rfl) rfl rfl (by decide)
    simp only [nmy, seval]
    apply VE.cons
    · first | exact Ev.skip (fun _ => rfl) | exact ev_pick_t rfl (fun _ => rfl) rfl rfl | exact ev_pick_f rfl (fun _ => rfl) rfl rfl
    simp only [nmy, seval]
    apply VE.cons
    · first | exact ev_pick_t rfl (gn rfl) rfl rfl | exact ev_pick_f rfl (gn rfl) rfl rfl
    simp only [nmy, seval]
    exact VE.nil _
  · kernel_rfl
  change VOk _ _ _ _ _
  refine vcond_f rfl ?_
  refine vskip ?_
  change VOk _ _ _ _ _
  exact vforgetall (fun i => i == 1) ht
theorem bytes1_on {a : Nat} (hA : a < R) {v : Value} {k0 b0 b1 : Int} {u r : Value} (w : World) (hL : Laid w) {k : Nat} (hk : k < 65) {p : Pt} {x y : Nat} (_hx : x < R) (_hy : y < R) (op : p.on) (ip : p ≠ .inf) (hp : smul a base = p) (hw : wl p = wb x y) (hu : ∀ w, (convert 3 28 (.int .i64 k0)).run Tryd.prog w = .ok u w) (hr : ∀ a b w, (do eqGuard .rem 28 a b u (.int .u64 65); binOp .rem 28 u (.int .u64 65) : Sem Value).run Tryd.prog w = .ok r w) (hj : ∀ w, (convert 28 3 r).run Tryd.prog w = .ok (.int .i64 (k : Nat)) w) (hxor : ∀ p q w, (do eqGuard .xor 5 p q (.int .u8 b0) (.int .u8 1); binOp .xor 5 (.int .u8 b0) (.int .u8 1) : Sem Value).run Tryd.prog w = .ok (.int .u8 b1) w) (hget : (wb x y)[k]? = some (.int .u8 b0)) {x' y' : Nat} (hx' : x' < R) (hy' : y' < R) (ho : onB x' y' = true) (hset : (wb x y).set k (.int .u8 b1) = wb x' y') (ht : ∀ f : Nat → Value, VOk Tryd.prog w ⟨[.v (f 0), .v v, .v (f 2), .v (f 3), .v (f 4), .v (f 5), .v (f 6), .v (f 7), .v (f 8), .v (f 9), .v (f 10), .v (f 11), .v (f 12), .v (f 13), .v (f 14), .v (f 15), .v (f 16), .v (f 17), .v (f 18), .v (f 19), .v (f 20), .v (f 21), .v (f 22), .v (f 23), .v (f 24), .v (f 25), .v (f 26), .v (f 27), .v (f 28), .v (f 29), .v (f 30), .v (f 31), .v (f 32), .v (f 33), .v (f 34), .v (f 35), .v (f 36), .v (f 37), .v (f 38), .v (f 39), .v (f 40), .v (f 41), .v (f 42), .v (f 43), .v (f 44), .v (f 45), .v (f 46), .v (f 47), .v (f 48), .v (f 49), .v (f 50), .v (f 51), .v (f 52), .v (f 53), .v (f 54), .v (f 55), .v (f 56), .v (f 57), .v (f 58), .v (f 59), .v (f 60), .v (f 61), .v (f 62), .v (f 63), .v (f 64), .v (f 65), .v (f 66), .v (f 67), .v (f 68), .v (f 69), .v (f 70), .v (f 71), .v (f 72), .v (f 73), .v (f 74), .v (f 75), .v (f 76), .v (f 77), .v (f 78), .v (f 79), .v (f 80), .v (f 81), .v (f 82), .v (f 83), .v (f 84), .v (f 85), .v (f 86), .v (f 87), .v (f 88), .v (f 89), .v (f 90), .v (f 91), .v (f 92), .v (f 93), .v (f 94), .v (f 95), .v (f 96), .v (f 97), .v (f 98), .v (f 99), .v (f 100), .v (f 101), .v (f 102), .v (f 103), .v (f 104), .v (f 105), .v (f 106), .v (f 107), .v (f 108), .v (f 109), .v (f 110), .v (f 111), .v (f 112), .v (f 113), .v (f 114), .v (f 115), .v (f 116), .v (f 117), .v (f 118), .v (f 119), .v (f 120), .v (f 121), .v (f 122), .v (f 123), .v (f 124), .v (f 125), .v (f 126), .v (f 127), .v (f 128), .v (f 129), .v (f 130), .v (f 131), .v (f 132), .v (f 133), .v (f 134), .v (f 135), .v (f 136), .v (f 137), .v (f 138), .v (f 139), .v (f 140), .v (f 141), .v (f 142), .v (f 143), .v (f 144), .v (f 145), .v (f 146), .v (f 147), .v (f 148), .v (f 149)], memOf []⟩ (dropSeq 5 (bodyOf Tryd.f8)) (QB Tryd.prog Tryd.f8 w fun e w' => e = .returned (.bool true) ∧ Bw w w'))  : Calls Tryd.prog 8 #[B32 a, v, .int .i64 k0] w fun e w' => e = .returned (.bool true) ∧ Bw w w' := by
  go_enter Tryd.func8, Tryd.ntmps8
  refine ve_go ?_
  simp only [List.map_cons, List.map_nil]
  refine vseq ?_
  apply vrp
  · apply VE.cons
    · exact ev_box rfl rfl (gn rfl) rfl
    simp only [nmy, seval]
    apply VE.cons
    · exact ev_assign rfl (gn rfl)
    simp only [nmy, seval]
    exact VE.nil _
  · kernel_rfl
  change VOk _ _ _ _ _
  refine vseq ?_
  apply vrp
  · apply VE.cons
    · first | exact ev_load rfl (gn rfl) rfl rfl Tryd.underlying22 rfl Tryd.sizeOf22 rfl rfl | exact ev_loadx rfl (gn rfl) rfl Tryd.underlying22 rfl Tryd.sizeOf22 (by assumption) rfl | exact ev_loada rfl (gn rfl) rfl rfl Tryd.underlying22 rfl Tryd.sizeOf22 rfl
    simp only [nmy, seval]
    apply VE.cons
    · exact ev_call rfl (gn rfl) rfl (en_of Tryd.func20 (by kernel_rfl) rfl) (fun w' hw' => ofP hA hp w' (hL.bw hw'))
    simp only [nmy, seval]
    apply VE.cons
    · exact ev_alloc rfl rfl (gn rfl) Tryd.zeroValue24
    simp only [nmy, seval]
    apply VE.cons
    · exact ev_store rfl (gn rfl) rfl rfl rfl Tryd.sizeOf24 rfl (by simp) rfl
    simp only [nmy, seval]
    exact VE.nil _
  · kernel_rfl
  change VOk _ _ _ _ _
  refine vseq ?_
  apply vrp
  · apply VE.cons
    · first | exact ev_load rfl (gn rfl) rfl rfl Tryd.underlying24 rfl Tryd.sizeOf24 rfl rfl | exact ev_loadx rfl (gn rfl) rfl Tryd.underlying24 rfl Tryd.sizeOf24 (by assumption) rfl | exact ev_loada rfl (gn rfl) rfl rfl Tryd.underlying24 rfl Tryd.sizeOf24 rfl
    simp only [nmy, seval]
    apply VE.cons
    · exact ev_callrow [] rfl rfl (gn rfl) rfl (en_of Tryd.func29 (by kernel_rfl) rfl) (n := 65) (l := wb x y) rfl (fun ρ S w' hb _ => by have := write_pt op w' (hL.bw hb); rw [hw] at this; exact this)
    simp only [nmy, seval]
    apply VE.cons
    · exact ev_assign rfl (gn rfl)
    simp only [nmy, seval]
    exact VE.nil _
  · kernel_rfl
  change VOk _ _ _ _ _
  refine vseq ?_
  refine vseq ?_
  apply vrp
  · apply VE.cons
    · exact ev_call (v := .bool true) rfl (gn rfl) rfl (en_of Tryd.func11 (by kernel_rfl) rfl) (fun w' hw' => curves_ok w' (hL.bw hw'))
    simp only [nmy, seval]
    apply VE.cons
    · exact ev_not rfl (gn rfl) rfl
    simp only [nmy, seval]
    apply VE.cons
    · exact ev_move rfl (gn rfl)
    simp only [nmy, seval]
    apply VE.cons
    · first | exact Ev.skip (fun _ => rfl) | exact ev_move rfl (fun _ => rfl)
    simp only [nmy, seval]
    apply VE.cons
    · first | exact Ev.skip (fun _ => rfl) | exact ev_len rfl (fun _ => rfl) rfl Tryd.underlying48 (rdg_row rfl)
    simp only [nmy, seval]
    apply VE.cons
    · first | exact Ev.skip (fun _ => rfl) | exact ev_eql (p := false) rfl (fun _ => rfl) rfl rfl (by decide)
    simp only [nmy, seval]
    apply VE.cons
    · first | exact Ev.skip (fun _ => rfl) | exact ev_load rfl (fun _ => rfl) rfl rfl Tryd.underlying24 rfl Tryd.sizeOf24 rfl rfl | exact ev_loadx rfl (fun _ => rfl) rfl Tryd.underlying24 rfl Tryd.sizeOf24 (by assumption) rfl | exact ev_loada rfl (fun _ => rfl) rfl rfl Tryd.underlying24 rfl Tryd.sizeOf24 rfl
    simp only [nmy, seval]
    apply VE.cons
    · first | exact Ev.skip (fun _ => rfl) | exact ev_build rfl (fun _ => rfl) rfl (built24_0)
    simp only [nmy, seval]
    apply VE.cons
    · first | exact Ev.skip (fun _ => rfl) | exact ev_bin (c := .bool false) rfl (fun _ => rfl) rfl rfl (fun w => eqP_ninf op ip _ _ w)
    simp only [nmy, seval]
    apply VE.cons
    · first | exact Ev.skip (fun _ => rfl) | exact ev_bin (c := .bool false) rfl (fun _ => rfl) rfl rfl (fun w => ne_bool _ _ _ w)
    simp only [nmy, seval]
    apply VE.cons
    · first | exact ev_pick_t rfl (gn rfl) rfl rfl | exact ev_pick_f rfl (gn rfl) rfl rfl
    simp only [nmy, seval]
    exact VE.nil _
  · kernel_rfl
  change VOk _ _ _ _ _
  refine vcond_f rfl ?_
  refine vskip ?_
  change VOk _ _ _ _ _
  refine vseq ?_
  refine vseq ?_
  apply vrp
  · apply VE.cons
    · exact ev_move rfl (gn rfl)
    simp only [nmy, seval]
    apply VE.cons
    · exact ev_len rfl (gn rfl) rfl Tryd.underlying48 (rdg_row rfl)
    simp only [nmy, seval]
    apply VE.cons
    · exact ev_gtr (p := true) rfl (gn rfl) rfl rfl (by decide)
    simp only [nmy, seval]
    exact VE.nil _
  · kernel_rfl
  change VOk _ _ _ _ _
  refine vcond_t rfl ?_
  refine vseq ?_
  apply vrp
  · apply VE.cons
    · exact ev_move rfl (gn rfl)
    simp only [nmy, seval]
    apply VE.cons
    · exact ev_callp (v := .tuple #[PV p, .int .i64 0]) [23] rfl (gn rfl) rfl (en_of Tryd.func30 (by kernel_rfl) rfl) (fun ρ S w' hb hR => by obtain ⟨S1, hs⟩ := rdg_row rfl ρ S w' hb hR; rw [← hw] at hs; exact read_pt op ip w' (hL.bw hb) (by rw [hw] at hs ⊢; exact hs))
    simp only [nmy, seval]
    apply VE.cons
    · exact ev_move rfl (gn rfl)
    simp only [nmy, seval]
    apply VE.cons
    · first | exact ev_extract rfl (gn rfl) rfl rfl | exact ev_extractt rfl (gn rfl) rfl rfl
    simp only [nmy, seval]
    apply VE.cons
    · first | exact ev_extract rfl (gn rfl) rfl rfl | exact ev_extractt rfl (gn rfl) rfl rfl
    simp only [nmy, seval]
    apply VE.cons
    · exact ev_alloc rfl rfl (gn rfl) Tryd.zeroValue24
    simp only [nmy, seval]
    apply VE.cons
    · exact ev_store rfl (gn rfl) rfl rfl rfl Tryd.sizeOf24 rfl (by simp) rfl
    simp only [nmy, seval]
    apply VE.cons
    · exact ev_assign rfl (gn rfl)
    simp only [nmy, seval]
    exact VE.nil _
  · kernel_rfl
  change VOk _ _ _ _ _
  refine vseq ?_
  apply vrp
  · apply VE.cons
    · exact ev_move rfl (gn rfl)
    simp only [nmy, seval]
    apply VE.cons
    · exact ev_move rfl (gn rfl)
    simp only [nmy, seval]
    apply VE.cons
    · exact ev_conv rfl (gn rfl) rfl (fun w => hu w)
    simp only [nmy, seval]
    apply VE.cons
    · exact ev_bin rfl (gn rfl) rfl rfl (fun w => hr _ _ w)
    simp only [nmy, seval]
    apply VE.cons
    · exact ev_conv rfl (gn rfl) rfl (fun w => hj w)
    simp only [nmy, seval]
    apply VE.cons
    · exact ev_idx rfl (gn rfl) rfl rfl Tryd.underlying48 Tryd.sizeOf5 (rdg_row rfl) hk (by decide)
    simp only [nmy, seval]
    apply VE.cons
    · exact ev_loadi rfl (gn rfl) rfl Tryd.underlying5 rfl (rdg_row rfl) hget
    simp only [nmy, seval]
    apply VE.cons
    · exact ev_bin rfl (gn rfl) rfl rfl (fun w => hxor _ _ w)
    simp only [nmy, seval]
    apply VE.cons
    · exact ev_idx rfl (gn rfl) rfl rfl Tryd.underlying48 Tryd.sizeOf5 (rdg_row rfl) hk (by decide)
    simp only [nmy, seval]
    apply VE.cons
    · exact ev_storei rfl (gn rfl) rfl rfl rfl Tryd.sizeOf5 rfl rfl hk hset
    simp only [nmy, seval]
    exact VE.nil _
  · kernel_rfl
  change VOk _ _ _ _ _
  refine vseq ?_
  apply vrp
  · apply VE.cons
    · exact ev_move rfl (gn rfl)
    simp only [nmy, seval]
    apply VE.cons
    · exact ev_callp (v := .tuple #[PT x' y', .int .i64 0]) [23] rfl (gn rfl) rfl (en_of Tryd.func30 (by kernel_rfl) rfl) (fun ρ S w' hb hR => by obtain ⟨S1, hs⟩ := rdg_row rfl ρ S w' hb hR; exact read_on hx' hy' w' (hL.bw hb) hs ho)
    simp only [nmy, seval]
    apply VE.cons
    · exact ev_move rfl (gn rfl)
    simp only [nmy, seval]
    apply VE.cons
    · first | exact ev_extract rfl (gn rfl) rfl rfl | exact ev_extractt rfl (gn rfl) rfl rfl
    simp only [nmy, seval]
    apply VE.cons
    · first | exact ev_extract rfl (gn rfl) rfl rfl | exact ev_extractt rfl (gn rfl) rfl rfl
    simp only [nmy, seval]
    apply VE.cons
    · exact ev_alloc rfl rfl (gn rfl) Tryd.zeroValue24
    simp only [nmy, seval]
    apply VE.cons
    · exact ev_store rfl (gn rfl) rfl rfl rfl Tryd.sizeOf24 rfl (by simp) rfl
    simp only [nmy, seval]
    apply VE.cons
    · exact ev_assign rfl (gn rfl)
    simp only [nmy, seval]
    exact VE.nil _
  · kernel_rfl
  change VOk _ _ _ _ _
  refine vseq ?_
  apply vrp
  · apply VE.cons
    · exact ev_alloc rfl rfl (gn rfl) Tryd.zeroValue22
    simp only [nmy, seval]
    apply VE.cons
    · exact ev_alloc rfl rfl (gn rfl) Tryd.zeroValue22
    simp only [nmy, seval]
    exact VE.nil _
  · kernel_rfl
  change VOk _ _ _ _ _
  refine vseq ?_
  apply vrd (by kernel_rfl)
  · apply VE.cons
    · exact ev_slicea rfl (gn rfl) rfl Tryd.underlying22 Tryd.sizeOf5
    simp only [nmy, seval]
    apply VE.cons
    · exact ev_move rfl (gn rfl)
    simp only [nmy, seval]
    apply VE.cons
    · exact ev_cut (a := 1) (b := 33) rfl (gn rfl) rfl Tryd.underlying48 Tryd.sizeOf5 (rdg_row rfl) rfl rfl (by decide) (by decide)
    simp only [nmy, seval]
    apply VE.cons
    · exact ev_copy rfl (gn rfl) rfl rfl rfl (rdg_sub (l' := b32l x') (n := 65) (lo := 1) (hi := 33) (rdg_row rfl) (by decide) (by decide) rfl rfl) Tryd.underlying48 i5s rfl rfl (by decide) rfl (by decide)
    simp only [nmy, seval]
    exact VE.nil _
  · kernel_rfl
  change VOk _ _ _ _ _
  refine vseq ?_
  apply vrd (by kernel_rfl)
  · apply VE.cons
    · exact ev_slicea rfl (gn rfl) rfl Tryd.underlying22 Tryd.sizeOf5
    simp only [nmy, seval]
    apply VE.cons
    · exact ev_move rfl (gn rfl)
    simp only [nmy, seval]
    apply VE.cons
    · exact ev_cut (a := 33) (b := 65) rfl (gn rfl) rfl Tryd.underlying48 Tryd.sizeOf5 (rdg_row rfl) rfl rfl (by decide) (by decide)
    simp only [nmy, seval]
    apply VE.cons
    · exact ev_copy rfl (gn rfl) rfl rfl rfl (rdg_sub (l' := b32l y') (n := 65) (lo := 33) (hi := 65) (rdg_row rfl) (by decide) (by decide) rfl rfl) Tryd.underlying48 i5s rfl rfl (by decide) rfl (by decide)
    simp only [nmy, seval]
    exact VE.nil _
  · kernel_rfl
  change VOk _ _ _ _ _
  refine vseq ?_
  apply vrd (by kernel_rfl)
  · apply VE.cons
    · exact ev_move rfl (gn rfl)
    simp only [nmy, seval]
    apply VE.cons
    · exact ev_len rfl (gn rfl) rfl Tryd.underlying48 (rdg_row rfl)
    simp only [nmy, seval]
    apply VE.cons
    · exact ev_neq (p := false) rfl (gn rfl) rfl rfl (by decide)
    simp only [nmy, seval]
    apply VE.cons
    · exact ev_move rfl (gn rfl)
    simp only [nmy, seval]
    apply VE.cons
    · first | exact Ev.skip (fun _ => rfl) | exact ev_move rfl (fun _ => rfl)
    simp only [nmy, seval]
    apply VE.cons
    · first | exact Ev.skip (fun _ => rfl) | exact ev_neq (p := false) rfl (fun _ => rfl) rfl rfl (by decide)
    simp only [nmy, seval]
    apply VE.cons
    · first | exact ev_pick_t rfl (gn rfl) rfl rfl | exact ev_pick_f rfl (gn rfl) rfl rfl
    simp only [nmy, seval]
    apply VE.cons
    · exact ev_move rfl (gn rfl)
    simp only [nmy, seval]
    apply VE.cons
    · first | exact Ev.skip (fun _ => rfl) | exact ev_load rfl (fun _ => rfl) rfl rfl Tryd.underlying24 rfl Tryd.sizeOf24 rfl rfl | exact ev_loadx rfl (fun _ => rfl) rfl Tryd.underlying24 rfl Tryd.sizeOf24 (by assumption) rfl | exact ev_loada rfl (fun _ => rfl) rfl rfl Tryd.underlying24 rfl Tryd.sizeOf24 rfl
    simp only [nmy, seval]
    apply VE.cons
    · first | exact Ev.skip (fun _ => rfl) | exact ev_load rfl (fun _ => rfl) rfl rfl Tryd.underlying24 rfl Tryd.sizeOf24 rfl rfl | exact ev_loadx rfl (fun _ => rfl) rfl Tryd.underlying24 rfl Tryd.sizeOf24 (by assumption) rfl | exact ev_loada rfl (fun _ => rfl) rfl rfl Tryd.underlying24 rfl Tryd.sizeOf24 rfl
    simp only [nmy, seval]
    apply VE.cons
    · first | exact Ev.skip (fun _ => rfl) | exact ev_bin (c := .bool false) rfl (fun _ => rfl) rfl rfl (fun w => ne_pt_self _ _ w)
    simp only [nmy, seval]
    apply VE.cons
    · first | exact ev_pick_t rfl (gn rfl) rfl rfl | exact ev_pick_f rfl (gn rfl) rfl rfl
    simp only [nmy, seval]
    apply VE.cons
    · exact ev_move rfl (gn rfl)
    simp only [nmy, seval]
    apply VE.cons
    · first | exact Ev.skip (fun _ => rfl) | exact ev_move rfl (fun _ => rfl)
    simp only [nmy, seval]
    apply VE.cons
    · first | exact Ev.skip (fun _ => rfl) | exact ev_eql (p := true) rfl (fun _ => rfl) rfl rfl (by decide)
    simp only [nmy, seval]
    apply VE.cons
    · first | exact Ev.skip (fun _ => rfl) | exact ev_move rfl (fun _ => rfl)
    simp only [nmy, seval]
    apply VE.cons
    · first | exact Ev.skip (fun _ => rfl) | exact ev_idx rfl (fun _ => rfl) rfl rfl Tryd.underlying48 Tryd.sizeOf5 (rdg_row rfl) (by decide) (by decide)
    simp only [nmy, seval]
    apply VE.cons
    · first | exact Ev.skip (fun _ => rfl) | exact ev_loadi rfl (fun _ => rfl) rfl Tryd.underlying5 rfl (rdg_row rfl) rfl
    simp only [nmy, seval]
    apply VE.cons
    · first | exact Ev.skip (fun _ => rfl) | exact ev_eql (p := true) rfl (fun _ => rfl) rfl rfl (by decide)
    simp only [nmy, seval]
    apply VE.cons
    · first | exact Ev.skip (fun _ => rfl) | exact ev_move rfl (fun _ => rfl)
    simp only [nmy, seval]
    apply VE.cons
    · first | exact Ev.skip (fun _ => rfl) | exact ev_load rfl (fun _ => rfl) rfl rfl Tryd.underlying22 rfl Tryd.sizeOf22 rfl rfl | exact ev_loadx rfl (fun _ => rfl) rfl Tryd.underlying22 rfl Tryd.sizeOf22 (by assumption) rfl | exact ev_loada rfl (fun _ => rfl) rfl rfl Tryd.underlying22 rfl Tryd.sizeOf22 rfl
    simp only [nmy, seval]
    apply VE.cons
    · first | exact Ev.skip (fun _ => rfl) | exact ev_call rfl (fun _ => rfl) rfl (en_of Tryd.func19 (by kernel_rfl) rfl) (fun w' hw' => rofN x' hx' w')
    simp only [nmy, seval]
    apply VE.cons
    · first | exact Ev.skip (fun _ => rfl) | exact ev_load rfl (fun _ => rfl) rfl rfl Tryd.underlying22 rfl Tryd.sizeOf22 rfl rfl | exact ev_loadx rfl (fun _ => rfl) rfl Tryd.underlying22 rfl Tryd.sizeOf22 (by assumption) rfl | exact ev_loada rfl (fun _ => rfl) rfl rfl Tryd.underlying22 rfl Tryd.sizeOf22 rfl
    simp only [nmy, seval]
    apply VE.cons
    · first | exact Ev.skip (fun _ => rfl) | exact ev_call rfl (fun _ => rfl) rfl (en_of Tryd.func19 (by kernel_rfl) rfl) (fun w' hw' => rofN y' hy' w')
    simp only [nmy, seval]
    apply VE.cons
    · first | exact Ev.skip (fun _ => rfl) | exact ev_call (v := .bool true) rfl (fun _ => rfl) rfl (en_of Tryd.func18 (by kernel_rfl) rfl) (fun w' hw' => ho ▸ rOn_ok hx' hy' w')
    simp only [nmy, seval]
    apply VE.cons
    · first | exact Ev.skip (fun _ => rfl) | exact ev_pick_t rfl (fun _ => rfl) rfl rfl | exact ev_pick_f rfl (fun _ => rfl) rfl rfl
    simp only [nmy, seval]
    apply VE.cons
    · first | exact Ev.skip (fun _ => rfl) | exact ev_bin (c := .bool false) rfl (fun _ => rfl) rfl rfl (fun w => ne_bool _ _ _ w)
    simp only [nmy, seval]
    apply VE.cons
    · first | exact ev_pick_t rfl (gn rfl) rfl rfl | exact ev_pick_f rfl (gn rfl) rfl rfl
    simp only [nmy, seval]
    apply VE.cons
    · exact ev_move rfl (gn rfl)
    simp only [nmy, seval]
    apply VE.cons
    · first | exact Ev.skip (fun _ => rfl) | exact ev_move rfl (fun _ => rfl)
    simp only [nmy, seval]
    apply VE.cons
    · first | exact Ev.skip (fun _ => rfl) | exact ev_neq (p := false) rfl (fun _ => rfl) rfl rfl (by decide)
    simp only [nmy, seval]
    apply VE.cons
    · first | exact Ev.skip (fun _ => rfl) | exact ev_move rfl (fun _ => rfl)
    simp only [nmy, seval]
    apply VE.cons
    · first | exact Ev.skip (fun _ => rfl) | exact ev_move rfl (fun _ => rfl)
    simp only [nmy, seval]
    apply VE.cons
    · first | exact Ev.skip (fun _ => rfl) | exact ev_neq (p := false) rfl (fun _ => rfl) rfl rfl (by decide)
    simp only [nmy, seval]
    apply VE.cons
    · first | exact Ev.skip (fun _ => rfl) | exact ev_pick_t rfl (fun _ => rfl) rfl rfl | exact ev_pick_f rfl (fun _ => rfl) rfl rfl
    simp only [nmy, seval]
    apply VE.cons
    · first | exact ev_pick_t rfl (gn rfl) rfl rfl | exact ev_pick_f rfl (gn rfl) rfl rfl
    simp only [nmy, seval]
    exact VE.nil _
  · kernel_rfl
  change VOk _ _ _ _ _
  refine vcond_f rfl ?_
  refine vskip ?_
  change VOk _ _ _ _ _
  exact vforgetall (fun i => i == 1) ht
theorem bytes1_off {a : Nat} (hA : a < R) {v : Value} {k0 b0 b1 : Int} {u r : Value} (w : World) (hL : Laid w) {k : Nat} (hk : k < 65) {p : Pt} {x y : Nat} (_hx : x < R) (_hy : y < R) (op : p.on) (ip : p ≠ .inf) (hp : smul a base = p) (hw : wl p = wb x y) (hu : ∀ w, (convert 3 28 (.int .i64 k0)).run Tryd.prog w = .ok u w) (hr : ∀ a b w, (do eqGuard .rem 28 a b u (.int .u64 65); binOp .rem 28 u (.int .u64 65) : Sem Value).run Tryd.prog w = .ok r w) (hj : ∀ w, (convert 28 3 r).run Tryd.prog w = .ok (.int .i64 (k : Nat)) w) (hxor : ∀ p q w, (do eqGuard .xor 5 p q (.int .u8 b0) (.int .u8 1); binOp .xor 5 (.int .u8 b0) (.int .u8 1) : Sem Value).run Tryd.prog w = .ok (.int .u8 b1) w) (hget : (wb x y)[k]? = some (.int .u8 b0)) {x' y' : Nat} (hx' : x' < R) (hy' : y' < R) (ho : onB x' y' = false) (hset : (wb x y).set k (.int .u8 b1) = wb x' y') (ht : ∀ f : Nat → Value, VOk Tryd.prog w ⟨[.v (f 0), .v v, .v (f 2), .v (f 3), .v (f 4), .v (f 5), .v (f 6), .v (f 7), .v (f 8), .v (f 9), .v (f 10), .v (f 11), .v (f 12), .v (f 13), .v (f 14), .v (f 15), .v (f 16), .v (f 17), .v (f 18), .v (f 19), .v (f 20), .v (f 21), .v (f 22), .v (f 23), .v (f 24), .v (f 25), .v (f 26), .v (f 27), .v (f 28), .v (f 29), .v (f 30), .v (f 31), .v (f 32), .v (f 33), .v (f 34), .v (f 35), .v (f 36), .v (f 37), .v (f 38), .v (f 39), .v (f 40), .v (f 41), .v (f 42), .v (f 43), .v (f 44), .v (f 45), .v (f 46), .v (f 47), .v (f 48), .v (f 49), .v (f 50), .v (f 51), .v (f 52), .v (f 53), .v (f 54), .v (f 55), .v (f 56), .v (f 57), .v (f 58), .v (f 59), .v (f 60), .v (f 61), .v (f 62), .v (f 63), .v (f 64), .v (f 65), .v (f 66), .v (f 67), .v (f 68), .v (f 69), .v (f 70), .v (f 71), .v (f 72), .v (f 73), .v (f 74), .v (f 75), .v (f 76), .v (f 77), .v (f 78), .v (f 79), .v (f 80), .v (f 81), .v (f 82), .v (f 83), .v (f 84), .v (f 85), .v (f 86), .v (f 87), .v (f 88), .v (f 89), .v (f 90), .v (f 91), .v (f 92), .v (f 93), .v (f 94), .v (f 95), .v (f 96), .v (f 97), .v (f 98), .v (f 99), .v (f 100), .v (f 101), .v (f 102), .v (f 103), .v (f 104), .v (f 105), .v (f 106), .v (f 107), .v (f 108), .v (f 109), .v (f 110), .v (f 111), .v (f 112), .v (f 113), .v (f 114), .v (f 115), .v (f 116), .v (f 117), .v (f 118), .v (f 119), .v (f 120), .v (f 121), .v (f 122), .v (f 123), .v (f 124), .v (f 125), .v (f 126), .v (f 127), .v (f 128), .v (f 129), .v (f 130), .v (f 131), .v (f 132), .v (f 133), .v (f 134), .v (f 135), .v (f 136), .v (f 137), .v (f 138), .v (f 139), .v (f 140), .v (f 141), .v (f 142), .v (f 143), .v (f 144), .v (f 145), .v (f 146), .v (f 147), .v (f 148), .v (f 149)], memOf []⟩ (dropSeq 5 (bodyOf Tryd.f8)) (QB Tryd.prog Tryd.f8 w fun e w' => e = .returned (.bool true) ∧ Bw w w'))  : Calls Tryd.prog 8 #[B32 a, v, .int .i64 k0] w fun e w' => e = .returned (.bool true) ∧ Bw w w' := by
  go_enter Tryd.func8, Tryd.ntmps8
  refine ve_go ?_
  simp only [List.map_cons, List.map_nil]
  refine vseq ?_
  apply vrp
  · apply VE.cons
    · exact ev_box rfl rfl (gn rfl) rfl
    simp only [nmy, seval]
    apply VE.cons
    · exact ev_assign rfl (gn rfl)
    simp only [nmy, seval]
    exact VE.nil _
  · kernel_rfl
  change VOk _ _ _ _ _
  refine vseq ?_
  apply vrp
  · apply VE.cons
    · first | exact ev_load rfl (gn rfl) rfl rfl Tryd.underlying22 rfl Tryd.sizeOf22 rfl rfl | exact ev_loadx rfl (gn rfl) rfl Tryd.underlying22 rfl Tryd.sizeOf22 (by assumption) rfl | exact ev_loada rfl (gn rfl) rfl rfl Tryd.underlying22 rfl Tryd.sizeOf22 rfl
    simp only [nmy, seval]
    apply VE.cons
    · exact ev_call rfl (gn rfl) rfl (en_of Tryd.func20 (by kernel_rfl) rfl) (fun w' hw' => ofP hA hp w' (hL.bw hw'))
    simp only [nmy, seval]
    apply VE.cons
    · exact ev_alloc rfl rfl (gn rfl) Tryd.zeroValue24
    simp only [nmy, seval]
    apply VE.cons
    · exact ev_store rfl (gn rfl) rfl rfl rfl Tryd.sizeOf24 rfl (by simp) rfl
    simp only [nmy, seval]
    exact VE.nil _
  · kernel_rfl
  change VOk _ _ _ _ _
  refine vseq ?_
  apply vrp
  · apply VE.cons
    · first | exact ev_load rfl (gn rfl) rfl rfl Tryd.underlying24 rfl Tryd.sizeOf24 rfl rfl | exact ev_loadx rfl (gn rfl) rfl Tryd.underlying24 rfl Tryd.sizeOf24 (by assumption) rfl | exact ev_loada rfl (gn rfl) rfl rfl Tryd.underlying24 rfl Tryd.sizeOf24 rfl
    simp only [nmy, seval]
    apply VE.cons
    · exact ev_callrow [] rfl rfl (gn rfl) rfl (en_of Tryd.func29 (by kernel_rfl) rfl) (n := 65) (l := wb x y) rfl (fun ρ S w' hb _ => by have := write_pt op w' (hL.bw hb); rw [hw] at this; exact this)
    simp only [nmy, seval]
    apply VE.cons
    · exact ev_assign rfl (gn rfl)
    simp only [nmy, seval]
    exact VE.nil _
  · kernel_rfl
  change VOk _ _ _ _ _
  refine vseq ?_
  refine vseq ?_
  apply vrp
  · apply VE.cons
    · exact ev_call (v := .bool true) rfl (gn rfl) rfl (en_of Tryd.func11 (by kernel_rfl) rfl) (fun w' hw' => curves_ok w' (hL.bw hw'))
    simp only [nmy, seval]
    apply VE.cons
    · exact ev_not rfl (gn rfl) rfl
    simp only [nmy, seval]
    apply VE.cons
    · exact ev_move rfl (gn rfl)
    simp only [nmy, seval]
    apply VE.cons
    · first | exact Ev.skip (fun _ => rfl) | exact ev_move rfl (fun _ => rfl)
    simp only [nmy, seval]
    apply VE.cons
    · first | exact Ev.skip (fun _ => rfl) | exact ev_len rfl (fun _ => rfl) rfl Tryd.underlying48 (rdg_row rfl)
    simp only [nmy, seval]
    apply VE.cons
    · first | exact Ev.skip (fun _ => rfl) | exact ev_eql (p := false) rfl (fun _ => rfl) rfl rfl (by decide)
    simp only [nmy, seval]
    apply VE.cons
    · first | exact Ev.skip (fun _ => rfl) | exact ev_load rfl (fun _ => rfl) rfl rfl Tryd.underlying24 rfl Tryd.sizeOf24 rfl rfl | exact ev_loadx rfl (fun _ => rfl) rfl Tryd.underlying24 rfl Tryd.sizeOf24 (by assumption) rfl | exact ev_loada rfl (fun _ => rfl) rfl rfl Tryd.underlying24 rfl Tryd.sizeOf24 rfl
    simp only [nmy, seval]
    apply VE.cons
    · first | exact Ev.skip (fun _ => rfl) | exact ev_build rfl (fun _ => rfl) rfl (built24_0)
    simp only [nmy, seval]
    apply VE.cons
    · first | exact Ev.skip (fun _ => rfl) | exact ev_bin (c := .bool false) rfl (fun _ => rfl) rfl rfl (fun w => eqP_ninf op ip _ _ w)
    simp only [nmy, seval]
    apply VE.cons
    · first | exact Ev.skip (fun _ => rfl) | exact ev_bin (c := .bool false) rfl (fun _ => rfl) rfl rfl (fun w => ne_bool _ _ _ w)
    simp only [nmy, seval]
    apply VE.cons
    · first | exact ev_pick_t rfl (gn rfl) rfl rfl | exact ev_pick_f rfl (gn rfl) rfl rfl
    simp only [nmy, seval]
    exact VE.nil _
  · kernel_rfl
  change VOk _ _ _ _ _
  refine vcond_f rfl ?_
  refine vskip ?_
  change VOk _ _ _ _ _
  refine vseq ?_
  refine vseq ?_
  apply vrp
  · apply VE.cons
    · exact ev_move rfl (gn rfl)
    simp only [nmy, seval]
    apply VE.cons
    · exact ev_len rfl (gn rfl) rfl Tryd.underlying48 (rdg_row rfl)
    simp only [nmy, seval]
    apply VE.cons
    · exact ev_gtr (p := true) rfl (gn rfl) rfl rfl (by decide)
    simp only [nmy, seval]
    exact VE.nil _
  · kernel_rfl
  change VOk _ _ _ _ _
  refine vcond_t rfl ?_
  refine vseq ?_
  apply vrp
  · apply VE.cons
    · exact ev_move rfl (gn rfl)
    simp only [nmy, seval]
    apply VE.cons
    · exact ev_callp (v := .tuple #[PV p, .int .i64 0]) [23] rfl (gn rfl) rfl (en_of Tryd.func30 (by kernel_rfl) rfl) (fun ρ S w' hb hR => by obtain ⟨S1, hs⟩ := rdg_row rfl ρ S w' hb hR; rw [← hw] at hs; exact read_pt op ip w' (hL.bw hb) (by rw [hw] at hs ⊢; exact hs))
    simp only [nmy, seval]
    apply VE.cons
    · exact ev_move rfl (gn rfl)
    simp only [nmy, seval]
    apply VE.cons
    · first | exact ev_extract rfl (gn rfl) rfl rfl | exact ev_extractt rfl (gn rfl) rfl rfl
    simp only [nmy, seval]
    apply VE.cons
    · first | exact ev_extract rfl (gn rfl) rfl rfl | exact ev_extractt rfl (gn rfl) rfl rfl
    simp only [nmy, seval]
    apply VE.cons
    · exact ev_alloc rfl rfl (gn rfl) Tryd.zeroValue24
    simp only [nmy, seval]
    apply VE.cons
    · exact ev_store rfl (gn rfl) rfl rfl rfl Tryd.sizeOf24 rfl (by simp) rfl
    simp only [nmy, seval]
    apply VE.cons
    · exact ev_assign rfl (gn rfl)
    simp only [nmy, seval]
    exact VE.nil _
  · kernel_rfl
  change VOk _ _ _ _ _
  refine vseq ?_
  apply vrp
  · apply VE.cons
    · exact ev_move rfl (gn rfl)
    simp only [nmy, seval]
    apply VE.cons
    · exact ev_move rfl (gn rfl)
    simp only [nmy, seval]
    apply VE.cons
    · exact ev_conv rfl (gn rfl) rfl (fun w => hu w)
    simp only [nmy, seval]
    apply VE.cons
    · exact ev_bin rfl (gn rfl) rfl rfl (fun w => hr _ _ w)
    simp only [nmy, seval]
    apply VE.cons
    · exact ev_conv rfl (gn rfl) rfl (fun w => hj w)
    simp only [nmy, seval]
    apply VE.cons
    · exact ev_idx rfl (gn rfl) rfl rfl Tryd.underlying48 Tryd.sizeOf5 (rdg_row rfl) hk (by decide)
    simp only [nmy, seval]
    apply VE.cons
    · exact ev_loadi rfl (gn rfl) rfl Tryd.underlying5 rfl (rdg_row rfl) hget
    simp only [nmy, seval]
    apply VE.cons
    · exact ev_bin rfl (gn rfl) rfl rfl (fun w => hxor _ _ w)
    simp only [nmy, seval]
    apply VE.cons
    · exact ev_idx rfl (gn rfl) rfl rfl Tryd.underlying48 Tryd.sizeOf5 (rdg_row rfl) hk (by decide)
    simp only [nmy, seval]
    apply VE.cons
    · exact ev_storei rfl (gn rfl) rfl rfl rfl Tryd.sizeOf5 rfl rfl hk hset
    simp only [nmy, seval]
    exact VE.nil _
  · kernel_rfl
  change VOk _ _ _ _ _
  refine vseq ?_
  apply vrp
  · apply VE.cons
    · exact ev_move rfl (gn rfl)
    simp only [nmy, seval]
    apply VE.cons
    · exact ev_callp (v := .tuple #[.agg #[.int .u8 0, .int .u8 0, .int .u8 0, .int .u8 0, .int .u8 0, .int .u8 0, .int .u8 0, .int .u8 0, .int .u8 0, .int .u8 0, .int .u8 0, .int .u8 0, .int .u8 0, .int .u8 0, .int .u8 0, .int .u8 0, .int .u8 0, .int .u8 0, .int .u8 0, .int .u8 0, .int .u8 0, .int .u8 0, .int .u8 0, .int .u8 0, .int .u8 0, .int .u8 0, .int .u8 0, .int .u8 0, .int .u8 0, .int .u8 0, .int .u8 0, .int .u8 0, .int .u8 0, .int .u8 0, .int .u8 0, .int .u8 0, .int .u8 0, .int .u8 0, .int .u8 0, .int .u8 0, .int .u8 0, .int .u8 0, .int .u8 0, .int .u8 0, .int .u8 0, .int .u8 0, .int .u8 0, .int .u8 0, .int .u8 0, .int .u8 0, .int .u8 0, .int .u8 0, .int .u8 0, .int .u8 0, .int .u8 0, .int .u8 0, .int .u8 0, .int .u8 0, .int .u8 0, .int .u8 0, .int .u8 0, .int .u8 0, .int .u8 0, .int .u8 0], .int .i64 15]) [23] rfl (gn rfl) rfl (en_of Tryd.func30 (by kernel_rfl) rfl) (fun ρ S w' hb hR => by obtain ⟨S1, hs⟩ := rdg_row rfl ρ S w' hb hR; exact read_off hx' hy' w' (hL.bw hb) hs ho)
    simp only [nmy, seval]
    apply VE.cons
    · exact ev_move rfl (gn rfl)
    simp only [nmy, seval]
    apply VE.cons
    · first | exact ev_extract rfl (gn rfl) rfl rfl | exact ev_extractt rfl (gn rfl) rfl rfl
    simp only [nmy, seval]
    apply VE.cons
    · first | exact ev_extract rfl (gn rfl) rfl rfl | exact ev_extractt rfl (gn rfl) rfl rfl
    simp only [nmy, seval]
    apply VE.cons
    · exact ev_alloc rfl rfl (gn rfl) Tryd.zeroValue24
    simp only [nmy, seval]
    apply VE.cons
    · exact ev_store rfl (gn rfl) rfl rfl rfl Tryd.sizeOf24 rfl (by simp) rfl
    simp only [nmy, seval]
    apply VE.cons
    · exact ev_assign rfl (gn rfl)
    simp only [nmy, seval]
    exact VE.nil _
  · kernel_rfl
  change VOk _ _ _ _ _
  refine vseq ?_
  apply vrp
  · apply VE.cons
    · exact ev_alloc rfl rfl (gn rfl) Tryd.zeroValue22
    simp only [nmy, seval]
    apply VE.cons
    · exact ev_alloc rfl rfl (gn rfl) Tryd.zeroValue22
    simp only [nmy, seval]
    exact VE.nil _
  · kernel_rfl
  change VOk _ _ _ _ _
  refine vseq ?_
  apply vrd (by kernel_rfl)
  · apply VE.cons
    · exact ev_slicea rfl (gn rfl) rfl Tryd.underlying22 Tryd.sizeOf5
    simp only [nmy, seval]
    apply VE.cons
    · exact ev_move rfl (gn rfl)
    simp only [nmy, seval]
    apply VE.cons
    · exact ev_cut (a := 1) (b := 33) rfl (gn rfl) rfl Tryd.underlying48 Tryd.sizeOf5 (rdg_row rfl) rfl rfl (by decide) (by decide)
    simp only [nmy, seval]
    apply VE.cons
    · exact ev_copy rfl (gn rfl) rfl rfl rfl (rdg_sub (l' := b32l x') (n := 65) (lo := 1) (hi := 33) (rdg_row rfl) (by decide) (by decide) rfl rfl) Tryd.underlying48 i5s rfl rfl (by decide) rfl (by decide)
    simp only [nmy, seval]
    exact VE.nil _
  · kernel_rfl
  change VOk _ _ _ _ _
  refine vseq ?_
  apply vrd (by kernel_rfl)
  · apply VE.cons
    · exact ev_slicea rfl (gn rfl) rfl Tryd.underlying22 Tryd.sizeOf5
    simp only [nmy, seval]
    apply VE.cons
    · exact ev_move rfl (gn rfl)
    simp only [nmy, seval]
    apply VE.cons
    · exact ev_cut (a := 33) (b := 65) rfl (gn rfl) rfl Tryd.underlying48 Tryd.sizeOf5 (rdg_row rfl) rfl rfl (by decide) (by decide)
    simp only [nmy, seval]
    apply VE.cons
    · exact ev_copy rfl (gn rfl) rfl rfl rfl (rdg_sub (l' := b32l y') (n := 65) (lo := 33) (hi := 65) (rdg_row rfl) (by decide) (by decide) rfl rfl) Tryd.underlying48 i5s rfl rfl (by decide) rfl (by decide)
    simp only [nmy, seval]
    exact VE.nil _
  · kernel_rfl
  change VOk _ _ _ _ _
  refine vseq ?_
  apply vrd (by kernel_rfl)
  · apply VE.cons
    · exact ev_move rfl (gn rfl)
    simp only [nmy, seval]
    apply VE.cons
    · exact ev_len rfl (gn rfl) rfl Tryd.underlying48 (rdg_row rfl)
    simp only [nmy, seval]
    apply VE.cons
    · exact ev_neq (p := false) rfl (gn rfl) rfl rfl (by decide)
    simp only [nmy, seval]
    apply VE.cons
    · exact ev_move rfl (gn rfl)
    simp only [nmy, seval]
    apply VE.cons
    · first | exact Ev.skip (fun _ => rfl) | exact ev_move rfl (fun _ => rfl)
    simp only [nmy, seval]
    apply VE.cons
    · first | exact Ev.skip (fun _ => rfl) | exact ev_neq (p := false) rfl (fun _ => rfl) rfl rfl (by decide)
    simp only [nmy, seval]
    apply VE.cons
    · first | exact ev_pick_t rfl (gn rfl) rfl rfl | exact ev_pick_f rfl (gn rfl) rfl rfl
    simp only [nmy, seval]
    apply VE.cons
    · exact ev_move rfl (gn rfl)
    simp only [nmy, seval]
    apply VE.cons
    · first | exact Ev.skip (fun _ => rfl) | exact ev_load rfl (fun _ => rfl) rfl rfl Tryd.underlying24 rfl Tryd.sizeOf24 rfl rfl | exact ev_loadx rfl (fun _ => rfl) rfl Tryd.underlying24 rfl Tryd.sizeOf24 (by assumption) rfl | exact ev_loada rfl (fun _ => rfl) rfl rfl Tryd.underlying24 rfl Tryd.sizeOf24 rfl
    simp only [nmy, seval]
    apply VE.cons
    · first | exact Ev.skip (fun _ => rfl) | exact ev_load rfl (fun _ => rfl) rfl rfl Tryd.underlying24 rfl Tryd.sizeOf24 rfl rfl | exact ev_loadx rfl (fun _ => rfl) rfl Tryd.underlying24 rfl Tryd.sizeOf24 (by assumption) rfl | exact ev_loada rfl (fun _ => rfl) rfl rfl Tryd.underlying24 rfl Tryd.sizeOf24 rfl
    simp only [nmy, seval]
    apply VE.cons
    · first | exact Ev.skip (fun _ => rfl) | exact ev_bin (c := .bool false) rfl (fun _ => rfl) rfl rfl (fun w => ne_pt_self _ _ w)
    simp only [nmy, seval]
    apply VE.cons
    · first | exact ev_pick_t rfl (gn rfl) rfl rfl | exact ev_pick_f rfl (gn rfl) rfl rfl
    simp only [nmy, seval]
    apply VE.cons
    · exact ev_move rfl (gn rfl)
    simp only [nmy, seval]
    apply VE.cons
    · first | exact Ev.skip (fun _ => rfl) | exact ev_move rfl (fun _ => rfl)
    simp only [nmy, seval]
    apply VE.cons
    · first | exact Ev.skip (fun _ => rfl) | exact ev_eql (p := false) rfl (fun _ => rfl) rfl rfl (by decide)
    simp only [nmy, seval]
    apply VE.cons
    · first | exact Ev.skip (fun _ => rfl) | exact ev_move rfl (fun _ => rfl)
    simp only [nmy, seval]
    apply VE.cons
    · first | exact Ev.skip (fun _ => rfl) | exact ev_idx rfl (fun _ => rfl) rfl rfl Tryd.underlying48 Tryd.sizeOf5 (rdg_row rfl) (by decide) (by decide)
    simp only [nmy, seval]
    apply VE.cons
    · first | exact Ev.skip (fun _ => rfl) | exact ev_loadi rfl (fun _ => rfl) rfl Tryd.underlying5 rfl (rdg_row rfl) rfl
    simp only [nmy, seval]
    apply VE.cons
    · first | exact Ev.skip (fun _ => rfl) | exact ev_eql (p := true) rfl (fun _ => rfl) rfl rfl (by decide)
    simp only [nmy, seval]
    apply VE.cons
    · first | exact Ev.skip (fun _ => rfl) | exact ev_move rfl (fun _ => rfl)
    simp only [nmy, seval]
    apply VE.cons
    · first | exact Ev.skip (fun _ => rfl) | exact ev_load rfl (fun _ => rfl) rfl rfl Tryd.underlying22 rfl Tryd.sizeOf22 rfl rfl | exact ev_loadx rfl (fun _ => rfl) rfl Tryd.underlying22 rfl Tryd.sizeOf22 (by assumption) rfl | exact ev_loada rfl (fun _ => rfl) rfl rfl Tryd.underlying22 rfl Tryd.sizeOf22 rfl
    simp only [nmy, seval]
    apply VE.cons
    · first | exact Ev.skip (fun _ => rfl) | exact ev_call rfl (fun _ => rfl) rfl (en_of Tryd.func19 (by kernel_rfl) rfl) (fun w' hw' => rofN x' hx' w')
    simp only [nmy, seval]
    apply VE.cons
    · first | exact Ev.skip (fun _ => rfl) | exact ev_load rfl (fun _ => rfl) rfl rfl Tryd.underlying22 rfl Tryd.sizeOf22 rfl rfl | exact ev_loadx rfl (fun _ => rfl) rfl Tryd.underlying22 rfl Tryd.sizeOf22 (by assumption) rfl | exact ev_loada rfl (fun _ => rfl) rfl rfl Tryd.underlying22 rfl Tryd.sizeOf22 rfl
    simp only [nmy, seval]
    apply VE.cons
    · first | exact Ev.skip (fun _ => rfl) | exact ev_call rfl (fun _ => rfl) rfl (en_of Tryd.func19 (by kernel_rfl) rfl) (fun w' hw' => rofN y' hy' w')
    simp only [nmy, seval]
    apply VE.cons
    · first | exact Ev.skip (fun _ => rfl) | exact ev_call (v := .bool false) rfl (fun _ => rfl) rfl (en_of Tryd.func18 (by kernel_rfl) rfl) (fun w' hw' => ho ▸ rOn_ok hx' hy' w')
    simp only [nmy, seval]
    apply VE.cons
    · first | exact Ev.skip (fun _ => rfl) | exact ev_pick_t rfl (fun _ => rfl) rfl rfl | exact ev_pick_f rfl (fun _ => rfl) rfl rfl
    simp only [nmy, seval]
    apply VE.cons
    · first | exact Ev.skip (fun _ => rfl) | exact ev_bin (c := .bool false) rfl (fun _ => rfl) rfl rfl (fun w => ne_bool _ _ _ w)
    simp only [nmy, seval]
    apply VE.cons
    · first | exact ev_pick_t rfl (gn rfl) rfl rfl | exact ev_pick_f rfl (gn rfl) rfl rfl
    simp only [nmy, seval]
    apply VE.cons
    · exact ev_move rfl (gn rfl)
    simp only [nmy, seval]
    apply VE.cons
    · first | exact Ev.skip (fun _ => rfl) | exact ev_move rfl (fun _ => rfl)
    simp only [nmy, seval]
    apply VE.cons
    · first | exact Ev.skip (fun _ => rfl) | exact ev_neq (p := true) rfl (fun _ => rfl) rfl rfl (by decide)
    simp only [nmy, seval]
    apply VE.cons
    · first | exact Ev.skip (fun _ => rfl) | exact ev_move rfl (fun _ => rfl)
    simp only [nmy, seval]
    apply VE.cons
    · first | exact Ev.skip (fun _ => rfl) | exact ev_move rfl (fun _ => rfl)
    simp only [nmy, seval]
    apply VE.cons
    · first | exact Ev.skip (fun _ => rfl) | exact ev_neq (p := false) rfl (fun _ => rfl) rfl rfl (by decide)
    simp only [nmy, seval]
    apply VE.cons
    · first | exact Ev.skip (fun _ => rfl) | exact ev_pick_t rfl (fun _ => rfl) rfl rfl | exact ev_pick_f rfl (fun _ => rfl) rfl rfl
    simp only [nmy, seval]
    apply VE.cons
    · first | exact ev_pick_t rfl (gn rfl) rfl rfl | exact ev_pick_f rfl (gn rfl) rfl rfl
    simp only [nmy, seval]
    exact VE.nil _
  · kernel_rfl
  change VOk _ _ _ _ _
  refine vcond_f rfl ?_
  refine vskip ?_
  change VOk _ _ _ _ _
  exact vforgetall (fun i => i == 1) ht
def n32 (n : Nat) : List Nat := [byt n 0, byt n 1, byt n 2, byt n 3, byt n 4, byt n 5, byt n 6, byt n 7, byt n 8, byt n 9, byt n 10, byt n 11, byt n 12, byt n 13, byt n 14, byt n 15, byt n 16, byt n 17, byt n 18, byt n 19, byt n 20, byt n 21, byt n 22, byt n 23, byt n 24, byt n 25, byt n 26, byt n 27, byt n 28, byt n 29, byt n 30, byt n 31]
def bl (x y : Nat) : List Nat := 4 :: (n32 x ++ n32 y)
def b8 (b : Nat) : Value := .int .u8 (b : Int)
theorem wb_bl (x y : Nat) : wb x y = (bl x y).map b8 := rfl
theorem n32_lt (n : Nat) : ∀ b ∈ n32 n, b < 256 := fun b hb => by
  unfold n32 at hb
  simp only [List.mem_cons, List.not_mem_nil, or_false] at hb
  rcases hb with rfl | rfl | rfl | rfl | rfl | rfl | rfl | rfl | rfl | rfl | rfl | rfl | rfl | rfl | rfl | rfl | rfl | rfl | rfl | rfl | rfl | rfl | rfl | rfl | rfl | rfl | rfl | rfl | rfl | rfl | rfl | rfl <;> exact Nat.mod_lt _ (by decide)
theorem bl_lt (x y : Nat) : ∀ b ∈ bl x y, b < 256 := fun b hb => by
  rcases List.mem_cons.1 hb with h | h
  · omega
  · rcases List.mem_append.1 h with h | h
    · exact n32_lt x b h
    · exact n32_lt y b h
theorem bl_len (x y : Nat) : (bl x y).length = 65 := rfl
theorem wf_nat {b : Nat} (h : b < 256) : (Lit.int .u8 (b : Int)).wf = true := by
  simp [Lit.wf, IntKind.min, IntKind.max, IntKind.signed, IntKind.bits]; omega
theorem wf_nats {l : List Nat} (h : ∀ b ∈ l, b < 256) : ∀ z ∈ l.map (fun b : Nat => (b : Int)), (Lit.int .u8 z).wf = true := fun z hz => by
  obtain ⟨b, hb, rfl⟩ := List.mem_map.1 hz
  exact wf_nat (h b hb)
theorem b8_of {l : List Nat} (hl : l.length = 32) (h : ∀ b ∈ l, b < 256) : ∃ n, n < R ∧ l.map b8 = l32 n := by
  obtain ⟨n, hn, e⟩ := l32_of (zs := l.map (fun b : Nat => (b : Int))) (by simpa using hl) (wf_nats h)
  refine ⟨n, hn, ?_⟩
  rw [← e, List.map_map]; rfl
/-- a byte that isn't the first is another: the bytes of two other numbers. -/
theorem set_wb (x y : Nat) {k b1 : Nat} (h0 : 0 < k) (hb : b1 < 256) : ∃ x' y', x' < R ∧ y' < R ∧ (wb x y).set k (b8 b1) = wb x' y' := by
  obtain ⟨j, rfl⟩ : ∃ j, k = j + 1 := ⟨k - 1, by omega⟩
  have hlt : ∀ b ∈ (n32 x ++ n32 y).set j b1, b < 256 := fun b hbm => by
    rcases List.mem_or_eq_of_mem_set hbm with h | h
    · rcases List.mem_append.1 h with h | h
      · exact n32_lt x b h
      · exact n32_lt y b h
    · omega
  obtain ⟨x', hx, ex⟩ := b8_of (l := ((n32 x ++ n32 y).set j b1).take 32) (by rw [List.length_take, List.length_set]; rfl) (fun b h => hlt b (List.mem_of_mem_take h))
  obtain ⟨y', hy, ey⟩ := b8_of (l := ((n32 x ++ n32 y).set j b1).drop 32) (by rw [List.length_drop, List.length_set]; rfl) (fun b h => hlt b (List.mem_of_mem_drop h))
  refine ⟨x', y', hx, hy, ?_⟩
  rw [wb_bl]
  show ((bl x y).map b8).set (j + 1) (b8 b1) = .int .u8 4 :: (l32 x' ++ l32 y')
  rw [← List.map_set, ← ex, ← ey, ← List.map_append, List.take_append_drop]
  rfl
theorem cvk (k : Int) (w : World) : (convert 3 28 (.int .i64 k)).run Tryd.prog w = .ok (.int .u64 ((k % 18446744073709551616).toNat : Nat)) w := by
  unfold convert
  go_simp
  rw [IntKind.wrap_u64]; omega
theorem rem65 (x : Nat) (a b : Operand) (w : World) : (do eqGuard .rem 28 a b (.int .u64 (x : Nat)) (.int .u64 65); binOp .rem 28 (.int .u64 (x : Nat)) (.int .u64 65) : Sem Value).run Tryd.prog w = .ok (.int .u64 ((x % 65 : Nat) : Nat)) w := by
  go_simp
  rw [Int.tmod_eq_emod_of_nonneg (Int.natCast_nonneg _)]
theorem cvb {x j : Nat} (h : x = j) (hj : j < 65) (w : World) : (convert 28 3 (.int .u64 (x : Nat))).run Tryd.prog w = .ok (.int .i64 (j : Nat)) w := by
  subst h
  unfold convert
  go_simp
  rw [IntWalk.i64_in _ (by omega)]
theorem xor1 {b : Nat} (hb : b < 256) (p q : Operand) (w : World) : (do eqGuard .xor 5 p q (.int .u8 (b : Nat)) (.int .u8 1); binOp .xor 5 (.int .u8 (b : Nat)) (.int .u8 1) : Sem Value).run Tryd.prog w = .ok (.int .u8 ((b ^^^ 1 : Nat) : Int)) w := by
  go_simp
  exact u8_xor_nat b 1 hb (by decide)
theorem bytes2_any {v : Value} {n : Nat} {zs : List Int} {S : Nat → Prop} {w : World} (hv : SlAt w v n 1 (zs.map (Value.int .u8)) S) (hw : ∀ z ∈ zs, (Lit.int .u8 z).wf = true) (hL : Laid w) (f : Nat → Value) : VOk Tryd.prog w ⟨[.v (f 0), .v v, .v (f 2), .v (f 3), .v (f 4), .v (f 5), .v (f 6), .v (f 7), .v (f 8), .v (f 9), .v (f 10), .v (f 11), .v (f 12), .v (f 13), .v (f 14), .v (f 15), .v (f 16), .v (f 17), .v (f 18), .v (f 19), .v (f 20), .v (f 21), .v (f 22), .v (f 23), .v (f 24), .v (f 25), .v (f 26), .v (f 27), .v (f 28), .v (f 29), .v (f 30), .v (f 31), .v (f 32), .v (f 33), .v (f 34), .v (f 35), .v (f 36), .v (f 37), .v (f 38), .v (f 39), .v (f 40), .v (f 41), .v (f 42), .v (f 43), .v (f 44), .v (f 45), .v (f 46), .v (f 47), .v (f 48), .v (f 49), .v (f 50), .v (f 51), .v (f 52), .v (f 53), .v (f 54), .v (f 55), .v (f 56), .v (f 57), .v (f 58), .v (f 59), .v (f 60), .v (f 61), .v (f 62), .v (f 63), .v (f 64), .v (f 65), .v (f 66), .v (f 67), .v (f 68), .v (f 69), .v (f 70), .v (f 71), .v (f 72), .v (f 73), .v (f 74), .v (f 75), .v (f 76), .v (f 77), .v (f 78), .v (f 79), .v (f 80), .v (f 81), .v (f 82), .v (f 83), .v (f 84), .v (f 85), .v (f 86), .v (f 87), .v (f 88), .v (f 89), .v (f 90), .v (f 91), .v (f 92), .v (f 93), .v (f 94), .v (f 95), .v (f 96), .v (f 97), .v (f 98), .v (f 99), .v (f 100), .v (f 101), .v (f 102), .v (f 103), .v (f 104), .v (f 105), .v (f 106), .v (f 107), .v (f 108), .v (f 109), .v (f 110), .v (f 111), .v (f 112), .v (f 113), .v (f 114), .v (f 115), .v (f 116), .v (f 117), .v (f 118), .v (f 119), .v (f 120), .v (f 121), .v (f 122), .v (f 123), .v (f 124), .v (f 125), .v (f 126), .v (f 127), .v (f 128), .v (f 129), .v (f 130), .v (f 131), .v (f 132), .v (f 133), .v (f 134), .v (f 135), .v (f 136), .v (f 137), .v (f 138), .v (f 139), .v (f 140), .v (f 141), .v (f 142), .v (f 143), .v (f 144), .v (f 145), .v (f 146), .v (f 147), .v (f 148), .v (f 149)], memOf []⟩ (dropSeq 5 (bodyOf Tryd.f8)) (QB Tryd.prog Tryd.f8 w fun e w' => e = .returned (.bool true) ∧ Bw w w') := by
  have hv2 := sl_cut (lo := 0) (hi := min n 80) hv (Nat.zero_le _) (Nat.min_le_left _ _)
  rw [Nat.sub_zero, Nat.mul_one, Nat.mul_one, List.drop_zero, ← List.map_take] at hv2
  obtain ⟨m, hm⟩ : ∃ m, m = min n 80 := ⟨_, rfl⟩
  rw [← hm] at hv2
  have hw2 : ∀ z ∈ zs.take m, (Lit.int .u8 z).wf = true := fun z hz => hw z (List.mem_of_mem_take hz)
  obtain ⟨zs2, hzs2⟩ : ∃ zs2, zs2 = zs.take m := ⟨_, rfl⟩
  rw [← hzs2] at hv2 hw2
  by_cases hne : m = 65
  · subst hne
    have hlen : zs2.length = 65 := by obtain ⟨_, _, _, _, h, _⟩ := hv2; simpa using h
    obtain ⟨b, t, rfl, hb, ht, hwt⟩ := byte_cons hlen hw2
    by_cases h4 : b = 4
    · subst h4
      obtain ⟨x, hx, ex⟩ := l32_of (zs := t.take 32) (by simp; omega) (fun z hz => hwt z (List.mem_of_mem_take hz))
      obtain ⟨y, hy, ey⟩ := l32_of (zs := t.drop 32) (by simp; omega) (fun z hz => hwt z (List.mem_of_mem_drop hz))
      have el : (((4 : Nat) : Int) :: t).map (Value.int .u8) = wb x y := by
        rw [show t = t.take 32 ++ t.drop 32 from (List.take_append_drop 32 t).symm, List.map_cons, List.map_append, ex, ey]; rfl
      rw [el] at hv2
      cases ho : onB x y with
      | true => exact bytes2_on (l' := []) w hL hv rfl hm.symm hx hy hv2 ho f
      | false => exact bytes2_off (l' := []) w hL hv rfl hm.symm hx hy hv2 ho f
    · exact bytes2_tag (l' := []) w hL hv rfl hm.symm hv2 h4 f
  · exact bytes2_len w hL hv rfl hm.symm hv2 hne f
theorem bytes_law {a : Nat} (hA : a < R) {v : Value} {n : Nat} {zs : List Int} {S : Nat → Prop} {w : World} (k0 : Int) (hv : SlAt w v n 1 (zs.map (Value.int .u8)) S) (hw : ∀ z ∈ zs, (Lit.int .u8 z).wf = true) (hL : Laid w) : Calls Tryd.prog 8 #[B32 a, v, .int .i64 k0] w fun e w' => e = .returned (.bool true) ∧ Bw w w' := by
  have op := TollEc.smul_on TollEc.base_on a
  have ht := bytes2_any hv hw hL
  cases hp : smul a base with
  | inf => exact bytes1_inf hA w hL hp ht
  | aff X Y =>
    rw [hp] at op
    have hx := val_lt X
    have hy := val_lt Y
    have hkey := rem65 ((k0 % 18446744073709551616).toNat)
    obtain ⟨k, hk⟩ : ∃ k, (k0 % 18446744073709551616).toNat % 65 = k := ⟨_, rfl⟩
    have hk65 : k < 65 := by omega
    by_cases h0 : k = 0
    · subst h0
      exact bytes1_tag hA w hL hx hy op (fun c => by cases c) hp rfl (cvk k0) hkey (cvb hk (by decide)) (fun p q w => xor1 (b := 4) (by decide) p q w) rfl rfl ht
    · have hlen : k < (bl X.val Y.val).length := by rw [bl_len]; exact hk65
      obtain ⟨b0, hb0⟩ : ∃ b0, (bl X.val Y.val)[k]? = some b0 := ⟨_, List.getElem?_eq_getElem hlen⟩
      have hb0lt : b0 < 256 := bl_lt _ _ b0 (List.mem_of_getElem? hb0)
      have hget : (wb X.val Y.val)[k]? = some (.int .u8 (b0 : Int)) := by rw [wb_bl, List.getElem?_map, hb0]; rfl
      have hx1 : b0 ^^^ 1 < 256 := Nat.xor_lt_two_pow (n := 8) hb0lt (by decide)
      obtain ⟨x', y', hx', hy', hset⟩ := set_wb X.val Y.val (k := k) (b1 := b0 ^^^ 1) (by omega) hx1
      cases ho : onB x' y' with
      | true => exact bytes1_on hA w hL hk65 hx hy op (fun c => by cases c) hp rfl (cvk k0) hkey (cvb hk hk65) (fun p q w => xor1 hb0lt p q w) hget hx' hy' ho hset ht
      | false => exact bytes1_off hA w hL hk65 hx hy op (fun c => by cases c) hp rfl (cvk k0) hkey (cvb hk hk65) (fun p q w => xor1 hb0lt p q w) hget hx' hy' ho hset ht
end Go.Proofs.YtbnfanmolphliaaDoor
