import Derived.Test.YtmgmiiongleaeaaDoorDx
namespace Go.Proofs.YtmgmiiongleaeaaDoor
open Go.RowKit Go.Vx
open Go.Toll (Gw)
set_option maxHeartbeats 4000000
set_option maxRecDepth 100000
theorem cv53 {b : Nat} (h : b < 256) (w : World) : (convert 5 3 (.int .u8 (b : Nat))).run Tryd.prog w = .ok (.int .i64 (b : Nat)) w := by
  have e : IntKind.i64.wrap (b : Int) = (b : Int) := i64w (by omega) (by omega)
  go_simp
theorem shl_sm {v u : Nat} (hv : v < 65536) (hu : v * 256 = u) (p q : Operand) (w : World) : (do eqGuard .shl 3 p q (.int .i64 (v : Nat)) (.int .u64 8); binOp .shl 3 (.int .i64 (v : Nat)) (.int .u64 8) : Sem Value).run Tryd.prog w = .ok (.int .i64 ((u : Nat) : Int)) w := by
  subst hu
  have e : IntKind.i64.wrap ((v : Int) * 256) = (v : Int) * 256 := i64w (by omega) (by omega)
  go_simp
  try omega
theorem i64_or_sm (v b : Nat) (hv : v < 65536) (hb : b < 256) : bits .or .i64 ((v * 256 : Nat) : Int) (b : Int) = ((v * 256 + b : Nat) : Int) := by
  have h : (BitVec.ofInt 64 ((v * 256 : Nat) : Int) ||| BitVec.ofInt 64 (b : Int)).toNat = v * 256 + b := by
    rw [BitVec.toNat_or, BitVec.toNat_ofInt, BitVec.toNat_ofInt]
    have h1 : (((v * 256 : Nat) : Int) % ((2 ^ 64 : Nat) : Int)).toNat = v * 256 := by omega
    have h2 : ((b : Int) % ((2 ^ 64 : Nat) : Int)).toNat = b := by omega
    rw [h1, h2]
    have := Nat.two_pow_add_eq_or_of_lt (i := 8) (b := b) (by omega) v
    rw [Nat.mul_comm v 256]
    exact this.symm
  show IntKind.i64.wrap ((BitVec.ofInt 64 ((v * 256 : Nat) : Int) ||| BitVec.ofInt 64 (b : Int)).toNat : Int) = _
  rw [h]
  exact i64w (by omega) (by omega)
theorem or_sm {v b u z : Nat} (hv : v < 65536) (hb : b < 256) (hu : v * 256 = u) (hz : u + b = z) (p q : Operand) (w : World) : (do eqGuard .or 3 p q (.int .i64 (u : Nat)) (.int .i64 (b : Nat)); binOp .or 3 (.int .i64 (u : Nat)) (.int .i64 (b : Nat)) : Sem Value).run Tryd.prog w = .ok (.int .i64 ((z : Nat) : Int)) w := by
  subst hu
  subst hz
  have h := i64_or_sm v b hv hb
  rw [Int.natCast_add, Int.natCast_mul] at h
  go_simp
  exact h
theorem head_s {v : Value} {S : Nat → Prop} {b : List Nat} (w : World) (hv : SlAt w v b.length 1 (b.map b8) S) (hl : b.length < 2) (hm : b.length ≤ 1048576) : Calls Tryd.prog 50 #[v] w fun e w' => e = .returned (.tuple #[.int .i64 (0 : Nat), .int .i64 (0 : Nat), .int .i64 (0 : Nat)]) ∧ Bw w w' := by
  go_enter Tryd.func50, Tryd.ntmps50
  refine ve_go ?_
  simp only [List.map_cons, List.map_nil]
  refine vseq ?_
  apply vrp
  · apply VE.cons
    · exact ev_assign rfl (gn rfl)
    simp only [nm, seval]
    apply VE.cons
    · exact ev_assign rfl (gn rfl)
    simp only [nm, seval]
    apply VE.cons
    · exact ev_assign rfl (gn rfl)
    simp only [nm, seval]
    exact VE.nil _
  · kernel_rfl
  change VOk _ _ _ _ _
  refine vseq ?_
  refine vseq ?_
  apply vrp
  · apply VE.cons
    · exact ev_move rfl (gn rfl)
    simp only [nm, seval]
    apply VE.cons
    · exact ev_len rfl (gn rfl) rfl Tryd.underlying26 (rdg_arg hv)
    simp only [nm, seval]
    apply VE.cons
    · exact ev_lss (p := true) rfl (gn rfl) rfl rfl (decide_eq_true (by omega))
    simp only [nm, seval]
    exact VE.nil _
  · kernel_rfl
  change VOk _ _ _ _ _
  refine vcond_t rfl ?_
  refine vseq ?_
  apply vrp
  · apply VE.cons
    · exact ev_assign rfl (gn rfl)
    simp only [nm, seval]
    apply VE.cons
    · exact ev_assign rfl (gn rfl)
    simp only [nm, seval]
    apply VE.cons
    · exact ev_assign rfl (gn rfl)
    simp only [nm, seval]
    exact VE.nil _
  · kernel_rfl
  change VOk _ _ _ _ _
  refine vret ?_
  refine post_ret (res3 Tryd.results50 (rv_tmp rfl) (rv_tmp rfl) (rv_tmp rfl)) ?_
  intro ρ w' hr
  exact ⟨rfl, hr.1⟩
theorem head_a {v : Value} {S : Nat → Prop} {t c : Nat} {r : List Nat} (w : World) (hv : SlAt w v (t :: c :: r).length 1 ((t :: c :: r).map b8) S) (hc : c < 256) (ht : t < 256) (h : c < 128) (hm : r.length ≤ 1048576) : Calls Tryd.prog 50 #[v] w fun e w' => e = .returned (.tuple #[.int .i64 (t : Nat), .int .i64 (c : Nat), .int .i64 (2 : Nat)]) ∧ Bw w w' := by
  go_enter Tryd.func50, Tryd.ntmps50
  refine ve_go ?_
  simp only [List.map_cons, List.map_nil]
  refine vseq ?_
  apply vrp
  · apply VE.cons
    · exact ev_assign rfl (gn rfl)
    simp only [nm, seval]
    apply VE.cons
    · exact ev_assign rfl (gn rfl)
    simp only [nm, seval]
    apply VE.cons
    · exact ev_assign rfl (gn rfl)
    simp only [nm, seval]
    exact VE.nil _
  · kernel_rfl
  change VOk _ _ _ _ _
  refine vseq ?_
  refine vseq ?_
  apply vrp
  · apply VE.cons
    · exact ev_move rfl (gn rfl)
    simp only [nm, seval]
    apply VE.cons
    · exact ev_len rfl (gn rfl) rfl Tryd.underlying26 (rdg_arg hv)
    simp only [nm, seval]
    apply VE.cons
    · exact ev_lss (p := false) rfl (gn rfl) rfl rfl (decide_eq_false (by simp only [List.length_cons]; omega))
    simp only [nm, seval]
    exact VE.nil _
  · kernel_rfl
  change VOk _ _ _ _ _
  refine vcond_f rfl ?_
  refine vskip ?_
  change VOk _ _ _ _ _
  refine vseq ?_
  apply vrp
  · apply VE.cons
    · exact ev_move rfl (gn rfl)
    simp only [nm, seval]
    apply VE.cons
    · exact ev_idx (k := 1) rfl (gn rfl) rfl rfl Tryd.underlying26 Tryd.sizeOf5 (rdg_arg hv) (by simp) (by decide)
    simp only [nm, seval]
    apply VE.cons
    · exact ev_loadi rfl (gn rfl) rfl Tryd.underlying5 rfl (rdg_arg hv) (rfl)
    simp only [nm, seval]
    apply VE.cons
    · exact ev_conv rfl (gn rfl) rfl (fun w => cv53 hc w)
    simp only [nm, seval]
    apply VE.cons
    · exact ev_sub (c := ((c : Int) - 128)) rfl (gn rfl) rfl rfl (by rw [i64w (by omega) (by omega)])
    simp only [nm, seval]
    apply VE.cons
    · exact ev_assign rfl (gn rfl)
    simp only [nm, seval]
    exact VE.nil _
  · kernel_rfl
  change VOk _ _ _ _ _
  refine vseq ?_
  refine vblock ?_
  refine vseq ?_
  apply vrp
  · apply VE.cons
    · exact ev_move rfl (gn rfl)
    simp only [nm, seval]
    apply VE.cons
    · exact ev_lss (p := true) rfl (gn rfl) rfl rfl (decide_eq_true (by omega))
    simp only [nm, seval]
    apply VE.cons
    · exact ev_assign rfl (gn rfl)
    simp only [nm, seval]
    exact VE.nil _
  · kernel_rfl
  change VOk _ _ _ _ _
  refine vcond_t rfl ?_
  refine vseq ?_
  apply vrd (by kernel_rfl)
  · apply VE.cons
    · exact ev_move rfl (gn rfl)
    simp only [nm, seval]
    apply VE.cons
    · exact ev_idx (k := 0) rfl (gn rfl) rfl rfl Tryd.underlying26 Tryd.sizeOf5 (rdg_arg hv) (by simp) (by decide)
    simp only [nm, seval]
    apply VE.cons
    · exact ev_loadi rfl (gn rfl) rfl Tryd.underlying5 rfl (rdg_arg hv) (rfl)
    simp only [nm, seval]
    apply VE.cons
    · exact ev_conv rfl (gn rfl) rfl (fun w => cv53 ht w)
    simp only [nm, seval]
    apply VE.cons
    · exact ev_move rfl (gn rfl)
    simp only [nm, seval]
    apply VE.cons
    · exact ev_idx (k := 1) rfl (gn rfl) rfl rfl Tryd.underlying26 Tryd.sizeOf5 (rdg_arg hv) (by simp) (by decide)
    simp only [nm, seval]
    apply VE.cons
    · exact ev_loadi rfl (gn rfl) rfl Tryd.underlying5 rfl (rdg_arg hv) (rfl)
    simp only [nm, seval]
    apply VE.cons
    · exact ev_conv rfl (gn rfl) rfl (fun w => cv53 hc w)
    simp only [nm, seval]
    apply VE.cons
    · exact ev_assign rfl (gn rfl)
    simp only [nm, seval]
    apply VE.cons
    · exact ev_assign rfl (gn rfl)
    simp only [nm, seval]
    apply VE.cons
    · exact ev_assign rfl (gn rfl)
    simp only [nm, seval]
    exact VE.nil _
  · kernel_rfl
  change VOk _ _ _ _ _
  refine vret ?_
  refine post_ret (res3 Tryd.results50 (rv_tmp rfl) (rv_tmp rfl) (rv_tmp rfl)) ?_
  intro ρ w' hr
  exact ⟨rfl, hr.1⟩
theorem head_n0 {v : Value} {S : Nat → Prop} {t c : Nat} {r : List Nat} (w : World) (hv : SlAt w v (t :: c :: r).length 1 ((t :: c :: r).map b8) S) (hc : c < 256) (ht : t < 256) (h : c = 128) (hm : r.length ≤ 1048576) : Calls Tryd.prog 50 #[v] w fun e w' => e = .returned (.tuple #[.int .i64 (0 : Nat), .int .i64 (0 : Nat), .int .i64 (0 : Nat)]) ∧ Bw w w' := by
  go_enter Tryd.func50, Tryd.ntmps50
  refine ve_go ?_
  simp only [List.map_cons, List.map_nil]
  refine vseq ?_
  apply vrp
  · apply VE.cons
    · exact ev_assign rfl (gn rfl)
    simp only [nm, seval]
    apply VE.cons
    · exact ev_assign rfl (gn rfl)
    simp only [nm, seval]
    apply VE.cons
    · exact ev_assign rfl (gn rfl)
    simp only [nm, seval]
    exact VE.nil _
  · kernel_rfl
  change VOk _ _ _ _ _
  refine vseq ?_
  refine vseq ?_
  apply vrp
  · apply VE.cons
    · exact ev_move rfl (gn rfl)
    simp only [nm, seval]
    apply VE.cons
    · exact ev_len rfl (gn rfl) rfl Tryd.underlying26 (rdg_arg hv)
    simp only [nm, seval]
    apply VE.cons
    · exact ev_lss (p := false) rfl (gn rfl) rfl rfl (decide_eq_false (by simp only [List.length_cons]; omega))
    simp only [nm, seval]
    exact VE.nil _
  · kernel_rfl
  change VOk _ _ _ _ _
  refine vcond_f rfl ?_
  refine vskip ?_
  change VOk _ _ _ _ _
  refine vseq ?_
  apply vrp
  · apply VE.cons
    · exact ev_move rfl (gn rfl)
    simp only [nm, seval]
    apply VE.cons
    · exact ev_idx (k := 1) rfl (gn rfl) rfl rfl Tryd.underlying26 Tryd.sizeOf5 (rdg_arg hv) (by simp) (by decide)
    simp only [nm, seval]
    apply VE.cons
    · exact ev_loadi rfl (gn rfl) rfl Tryd.underlying5 rfl (rdg_arg hv) (rfl)
    simp only [nm, seval]
    apply VE.cons
    · exact ev_conv rfl (gn rfl) rfl (fun w => cv53 hc w)
    simp only [nm, seval]
    apply VE.cons
    · exact ev_sub (c := ((c : Int) - 128)) rfl (gn rfl) rfl rfl (by rw [i64w (by omega) (by omega)])
    simp only [nm, seval]
    apply VE.cons
    · exact ev_assign rfl (gn rfl)
    simp only [nm, seval]
    exact VE.nil _
  · kernel_rfl
  change VOk _ _ _ _ _
  refine vseq ?_
  refine vblock ?_
  refine vseq ?_
  apply vrp
  · apply VE.cons
    · exact ev_move rfl (gn rfl)
    simp only [nm, seval]
    apply VE.cons
    · exact ev_lss (p := false) rfl (gn rfl) rfl rfl (decide_eq_false (by omega))
    simp only [nm, seval]
    apply VE.cons
    · exact ev_assign rfl (gn rfl)
    simp only [nm, seval]
    exact VE.nil _
  · kernel_rfl
  change VOk _ _ _ _ _
  refine vcond_f rfl ?_
  refine vseq ?_
  apply vrp
  · apply VE.cons
    · exact ev_move rfl (gn rfl)
    simp only [nm, seval]
    apply VE.cons
    · exact ev_lss (p := true) rfl (gn rfl) rfl rfl (decide_eq_true (by omega))
    simp only [nm, seval]
    apply VE.cons
    · exact ev_move rfl (gn rfl)
    simp only [nm, seval]
    apply VE.cons
    · first | exact Ev.skip (fun _ => rfl) | exact ev_move rfl (fun _ => rfl)
    simp only [nm, seval]
    apply VE.cons
    · first | exact Ev.skip (fun _ => rfl) | refine ev_pure' (fun _ => rfl) (fun ρ w => by simp only [VS.act, SV.c, List.map_cons, List.map_nil]; go_simp; exact rfl) (fun _ _ => rfl)
    simp only [nm, seval]
    apply VE.cons
    · first | exact ev_pick_t rfl (gn rfl) rfl rfl | exact ev_pick_f rfl (gn rfl) rfl rfl
    simp only [nm, seval]
    apply VE.cons
    · exact ev_move rfl (gn rfl)
    simp only [nm, seval]
    apply VE.cons
    · first | exact Ev.skip (fun _ => rfl) | exact ev_move rfl (fun _ => rfl)
    simp only [nm, seval]
    apply VE.cons
    · first | exact Ev.skip (fun _ => rfl) | exact ev_len rfl (fun _ => rfl) rfl Tryd.underlying26 (rdg_arg hv)
    simp only [nm, seval]
    apply VE.cons
    · first | exact Ev.skip (fun _ => rfl) | exact ev_move rfl (fun _ => rfl)
    simp only [nm, seval]
    apply VE.cons
    · first | exact Ev.skip (fun _ => rfl) | refine ev_pure' (fun _ => rfl) (fun ρ w => by simp only [VS.act, SV.c, List.map_cons, List.map_nil]; go_simp; exact rfl) (fun _ _ => rfl)
    simp only [nm, seval]
    apply VE.cons
    · first | exact Ev.skip (fun _ => rfl) | refine ev_pure' (fun _ => rfl) (fun ρ w => by simp only [VS.act, SV.c, List.map_cons, List.map_nil]; go_simp; exact rfl) (fun _ _ => rfl)
    simp only [nm, seval]
    apply VE.cons
    · first | exact ev_pick_t rfl (gn rfl) rfl rfl | exact ev_pick_f rfl (gn rfl) rfl rfl
    simp only [nm, seval]
    apply VE.cons
    · exact ev_assign rfl (gn rfl)
    simp only [nm, seval]
    exact VE.nil _
  · kernel_rfl
  change VOk _ _ _ _ _
  refine vcond_t rfl ?_
  refine vseq ?_
  apply vrp
  · apply VE.cons
    · exact ev_assign rfl (gn rfl)
    simp only [nm, seval]
    apply VE.cons
    · exact ev_assign rfl (gn rfl)
    simp only [nm, seval]
    apply VE.cons
    · exact ev_assign rfl (gn rfl)
    simp only [nm, seval]
    exact VE.nil _
  · kernel_rfl
  change VOk _ _ _ _ _
  refine vret ?_
  refine post_ret (res3 Tryd.results50 (rv_tmp rfl) (rv_tmp rfl) (rv_tmp rfl)) ?_
  intro ρ w' hr
  exact ⟨rfl, hr.1⟩
theorem head_n1 {v : Value} {S : Nat → Prop} {t c : Nat} {r : List Nat} (w : World) (hv : SlAt w v (t :: c :: r).length 1 ((t :: c :: r).map b8) S) (hc : c < 256) (ht : t < 256) (h : 130 < c) (hm : r.length ≤ 1048576) : Calls Tryd.prog 50 #[v] w fun e w' => e = .returned (.tuple #[.int .i64 (0 : Nat), .int .i64 (0 : Nat), .int .i64 (0 : Nat)]) ∧ Bw w w' := by
  go_enter Tryd.func50, Tryd.ntmps50
  refine ve_go ?_
  simp only [List.map_cons, List.map_nil]
  refine vseq ?_
  apply vrp
  · apply VE.cons
    · exact ev_assign rfl (gn rfl)
    simp only [nm, seval]
    apply VE.cons
    · exact ev_assign rfl (gn rfl)
    simp only [nm, seval]
    apply VE.cons
    · exact ev_assign rfl (gn rfl)
    simp only [nm, seval]
    exact VE.nil _
  · kernel_rfl
  change VOk _ _ _ _ _
  refine vseq ?_
  refine vseq ?_
  apply vrp
  · apply VE.cons
    · exact ev_move rfl (gn rfl)
    simp only [nm, seval]
    apply VE.cons
    · exact ev_len rfl (gn rfl) rfl Tryd.underlying26 (rdg_arg hv)
    simp only [nm, seval]
    apply VE.cons
    · exact ev_lss (p := false) rfl (gn rfl) rfl rfl (decide_eq_false (by simp only [List.length_cons]; omega))
    simp only [nm, seval]
    exact VE.nil _
  · kernel_rfl
  change VOk _ _ _ _ _
  refine vcond_f rfl ?_
  refine vskip ?_
  change VOk _ _ _ _ _
  refine vseq ?_
  apply vrp
  · apply VE.cons
    · exact ev_move rfl (gn rfl)
    simp only [nm, seval]
    apply VE.cons
    · exact ev_idx (k := 1) rfl (gn rfl) rfl rfl Tryd.underlying26 Tryd.sizeOf5 (rdg_arg hv) (by simp) (by decide)
    simp only [nm, seval]
    apply VE.cons
    · exact ev_loadi rfl (gn rfl) rfl Tryd.underlying5 rfl (rdg_arg hv) (rfl)
    simp only [nm, seval]
    apply VE.cons
    · exact ev_conv rfl (gn rfl) rfl (fun w => cv53 hc w)
    simp only [nm, seval]
    apply VE.cons
    · exact ev_sub (c := ((c : Int) - 128)) rfl (gn rfl) rfl rfl (by rw [i64w (by omega) (by omega)])
    simp only [nm, seval]
    apply VE.cons
    · exact ev_assign rfl (gn rfl)
    simp only [nm, seval]
    exact VE.nil _
  · kernel_rfl
  change VOk _ _ _ _ _
  refine vseq ?_
  refine vblock ?_
  refine vseq ?_
  apply vrp
  · apply VE.cons
    · exact ev_move rfl (gn rfl)
    simp only [nm, seval]
    apply VE.cons
    · exact ev_lss (p := false) rfl (gn rfl) rfl rfl (decide_eq_false (by omega))
    simp only [nm, seval]
    apply VE.cons
    · exact ev_assign rfl (gn rfl)
    simp only [nm, seval]
    exact VE.nil _
  · kernel_rfl
  change VOk _ _ _ _ _
  refine vcond_f rfl ?_
  refine vseq ?_
  apply vrp
  · apply VE.cons
    · exact ev_move rfl (gn rfl)
    simp only [nm, seval]
    apply VE.cons
    · exact ev_lss (p := false) rfl (gn rfl) rfl rfl (decide_eq_false (by omega))
    simp only [nm, seval]
    apply VE.cons
    · exact ev_move rfl (gn rfl)
    simp only [nm, seval]
    apply VE.cons
    · first | exact Ev.skip (fun _ => rfl) | exact ev_move rfl (fun _ => rfl)
    simp only [nm, seval]
    apply VE.cons
    · first | exact Ev.skip (fun _ => rfl) | exact ev_gtr (p := true) rfl (fun _ => rfl) rfl rfl (decide_eq_true (by omega))
    simp only [nm, seval]
    apply VE.cons
    · first | exact ev_pick_t rfl (gn rfl) rfl rfl | exact ev_pick_f rfl (gn rfl) rfl rfl
    simp only [nm, seval]
    apply VE.cons
    · exact ev_move rfl (gn rfl)
    simp only [nm, seval]
    apply VE.cons
    · first | exact Ev.skip (fun _ => rfl) | exact ev_move rfl (fun _ => rfl)
    simp only [nm, seval]
    apply VE.cons
    · first | exact Ev.skip (fun _ => rfl) | exact ev_len rfl (fun _ => rfl) rfl Tryd.underlying26 (rdg_arg hv)
    simp only [nm, seval]
    apply VE.cons
    · first | exact Ev.skip (fun _ => rfl) | exact ev_move rfl (fun _ => rfl)
    simp only [nm, seval]
    apply VE.cons
    · first | exact Ev.skip (fun _ => rfl) | refine ev_pure' (fun _ => rfl) (fun ρ w => by simp only [VS.act, SV.c, List.map_cons, List.map_nil]; go_simp; exact rfl) (fun _ _ => rfl)
    simp only [nm, seval]
    apply VE.cons
    · first | exact Ev.skip (fun _ => rfl) | refine ev_pure' (fun _ => rfl) (fun ρ w => by simp only [VS.act, SV.c, List.map_cons, List.map_nil]; go_simp; exact rfl) (fun _ _ => rfl)
    simp only [nm, seval]
    apply VE.cons
    · first | exact ev_pick_t rfl (gn rfl) rfl rfl | exact ev_pick_f rfl (gn rfl) rfl rfl
    simp only [nm, seval]
    apply VE.cons
    · exact ev_assign rfl (gn rfl)
    simp only [nm, seval]
    exact VE.nil _
  · kernel_rfl
  change VOk _ _ _ _ _
  refine vcond_t rfl ?_
  refine vseq ?_
  apply vrp
  · apply VE.cons
    · exact ev_assign rfl (gn rfl)
    simp only [nm, seval]
    apply VE.cons
    · exact ev_assign rfl (gn rfl)
    simp only [nm, seval]
    apply VE.cons
    · exact ev_assign rfl (gn rfl)
    simp only [nm, seval]
    exact VE.nil _
  · kernel_rfl
  change VOk _ _ _ _ _
  refine vret ?_
  refine post_ret (res3 Tryd.results50 (rv_tmp rfl) (rv_tmp rfl) (rv_tmp rfl)) ?_
  intro ρ w' hr
  exact ⟨rfl, hr.1⟩
theorem head_n2 {v : Value} {S : Nat → Prop} {t c : Nat} {r : List Nat} (w : World) (hv : SlAt w v (t :: c :: r).length 1 ((t :: c :: r).map b8) S) (hc : c < 256) (ht : t < 256) (h : 128 < c) (h2 : c ≤ 130) (hl : r.length + 128 < c) (hm : r.length ≤ 1048576) : Calls Tryd.prog 50 #[v] w fun e w' => e = .returned (.tuple #[.int .i64 (0 : Nat), .int .i64 (0 : Nat), .int .i64 (0 : Nat)]) ∧ Bw w w' := by
  go_enter Tryd.func50, Tryd.ntmps50
  refine ve_go ?_
  simp only [List.map_cons, List.map_nil]
  refine vseq ?_
  apply vrp
  · apply VE.cons
    · exact ev_assign rfl (gn rfl)
    simp only [nm, seval]
    apply VE.cons
    · exact ev_assign rfl (gn rfl)
    simp only [nm, seval]
    apply VE.cons
    · exact ev_assign rfl (gn rfl)
    simp only [nm, seval]
    exact VE.nil _
  · kernel_rfl
  change VOk _ _ _ _ _
  refine vseq ?_
  refine vseq ?_
  apply vrp
  · apply VE.cons
    · exact ev_move rfl (gn rfl)
    simp only [nm, seval]
    apply VE.cons
    · exact ev_len rfl (gn rfl) rfl Tryd.underlying26 (rdg_arg hv)
    simp only [nm, seval]
    apply VE.cons
    · exact ev_lss (p := false) rfl (gn rfl) rfl rfl (decide_eq_false (by simp only [List.length_cons]; omega))
    simp only [nm, seval]
    exact VE.nil _
  · kernel_rfl
  change VOk _ _ _ _ _
  refine vcond_f rfl ?_
  refine vskip ?_
  change VOk _ _ _ _ _
  refine vseq ?_
  apply vrp
  · apply VE.cons
    · exact ev_move rfl (gn rfl)
    simp only [nm, seval]
    apply VE.cons
    · exact ev_idx (k := 1) rfl (gn rfl) rfl rfl Tryd.underlying26 Tryd.sizeOf5 (rdg_arg hv) (by simp) (by decide)
    simp only [nm, seval]
    apply VE.cons
    · exact ev_loadi rfl (gn rfl) rfl Tryd.underlying5 rfl (rdg_arg hv) (rfl)
    simp only [nm, seval]
    apply VE.cons
    · exact ev_conv rfl (gn rfl) rfl (fun w => cv53 hc w)
    simp only [nm, seval]
    apply VE.cons
    · exact ev_sub (c := ((c : Int) - 128)) rfl (gn rfl) rfl rfl (by rw [i64w (by omega) (by omega)])
    simp only [nm, seval]
    apply VE.cons
    · exact ev_assign rfl (gn rfl)
    simp only [nm, seval]
    exact VE.nil _
  · kernel_rfl
  change VOk _ _ _ _ _
  refine vseq ?_
  refine vblock ?_
  refine vseq ?_
  apply vrp
  · apply VE.cons
    · exact ev_move rfl (gn rfl)
    simp only [nm, seval]
    apply VE.cons
    · exact ev_lss (p := false) rfl (gn rfl) rfl rfl (decide_eq_false (by omega))
    simp only [nm, seval]
    apply VE.cons
    · exact ev_assign rfl (gn rfl)
    simp only [nm, seval]
    exact VE.nil _
  · kernel_rfl
  change VOk _ _ _ _ _
  refine vcond_f rfl ?_
  refine vseq ?_
  apply vrp
  · apply VE.cons
    · exact ev_move rfl (gn rfl)
    simp only [nm, seval]
    apply VE.cons
    · exact ev_lss (p := false) rfl (gn rfl) rfl rfl (decide_eq_false (by omega))
    simp only [nm, seval]
    apply VE.cons
    · exact ev_move rfl (gn rfl)
    simp only [nm, seval]
    apply VE.cons
    · first | exact Ev.skip (fun _ => rfl) | exact ev_move rfl (fun _ => rfl)
    simp only [nm, seval]
    apply VE.cons
    · first | exact Ev.skip (fun _ => rfl) | exact ev_gtr (p := false) rfl (fun _ => rfl) rfl rfl (decide_eq_false (by omega))
    simp only [nm, seval]
    apply VE.cons
    · first | exact ev_pick_t rfl (gn rfl) rfl rfl | exact ev_pick_f rfl (gn rfl) rfl rfl
    simp only [nm, seval]
    apply VE.cons
    · exact ev_move rfl (gn rfl)
    simp only [nm, seval]
    apply VE.cons
    · first | exact Ev.skip (fun _ => rfl) | exact ev_move rfl (fun _ => rfl)
    simp only [nm, seval]
    apply VE.cons
    · first | exact Ev.skip (fun _ => rfl) | exact ev_len rfl (fun _ => rfl) rfl Tryd.underlying26 (rdg_arg hv)
    simp only [nm, seval]
    apply VE.cons
    · first | exact Ev.skip (fun _ => rfl) | exact ev_move rfl (fun _ => rfl)
    simp only [nm, seval]
    apply VE.cons
    · first | exact Ev.skip (fun _ => rfl) | exact ev_add (c := (2 + ((c : Int) - 128))) rfl (fun _ => rfl) rfl rfl (by rw [i64w (by omega) (by omega)])
    simp only [nm, seval]
    apply VE.cons
    · first | exact Ev.skip (fun _ => rfl) | exact ev_lss (p := true) rfl (fun _ => rfl) rfl rfl (decide_eq_true (by simp only [List.length_cons]; omega))
    simp only [nm, seval]
    apply VE.cons
    · first | exact ev_pick_t rfl (gn rfl) rfl rfl | exact ev_pick_f rfl (gn rfl) rfl rfl
    simp only [nm, seval]
    apply VE.cons
    · exact ev_assign rfl (gn rfl)
    simp only [nm, seval]
    exact VE.nil _
  · kernel_rfl
  change VOk _ _ _ _ _
  refine vcond_t rfl ?_
  refine vseq ?_
  apply vrp
  · apply VE.cons
    · exact ev_assign rfl (gn rfl)
    simp only [nm, seval]
    apply VE.cons
    · exact ev_assign rfl (gn rfl)
    simp only [nm, seval]
    apply VE.cons
    · exact ev_assign rfl (gn rfl)
    simp only [nm, seval]
    exact VE.nil _
  · kernel_rfl
  change VOk _ _ _ _ _
  refine vret ?_
  refine post_ret (res3 Tryd.results50 (rv_tmp rfl) (rv_tmp rfl) (rv_tmp rfl)) ?_
  intro ρ w' hr
  exact ⟨rfl, hr.1⟩
theorem head_1 {v : Value} {S : Nat → Prop} {t x : Nat} {r : List Nat} (w : World) (hv : SlAt w v (t :: 129 :: x :: r).length 1 ((t :: 129 :: x :: r).map b8) S) (ht : t < 256) (hx : x < 256) (hm : r.length ≤ 1048576) : Calls Tryd.prog 50 #[v] w fun e w' => e = .returned (.tuple #[.int .i64 ((bif decide (x < 128) then 0 else t : Nat) : Nat), .int .i64 ((bif decide (x < 128) then 0 else x : Nat) : Nat), .int .i64 ((bif decide (x < 128) then 0 else 3 : Nat) : Nat)]) ∧ Bw w w' := by
  have hc : 129 < 256 := by decide
  have hcut : SlAt w (cutV 2 3 1 v) 1 1 [b8 x] S := by have := sl_cut (lo := 2) (hi := 3) hv (by decide) (by simp only [List.length_cons]; omega); exact this
  obtain ⟨q1, h_q1⟩ : ∃ p, decide (x < 128) = p := ⟨_, rfl⟩
  have h_q1' := (nat_lt x 128).trans h_q1
  rw [h_q1]
  go_enter Tryd.func50, Tryd.ntmps50
  refine ve_go ?_
  simp only [List.map_cons, List.map_nil]
  cases q1 <;>
  (
    refine vseq ?_
    apply vrp
    · apply VE.cons
      · exact ev_assign rfl (gn rfl)
      simp only [nm, seval]
      apply VE.cons
      · exact ev_assign rfl (gn rfl)
      simp only [nm, seval]
      apply VE.cons
      · exact ev_assign rfl (gn rfl)
      simp only [nm, seval]
      exact VE.nil _
    · kernel_rfl
    change VOk _ _ _ _ _
    refine vseq ?_
    refine vseq ?_
    apply vrp
    · apply VE.cons
      · exact ev_move rfl (gn rfl)
      simp only [nm, seval]
      apply VE.cons
      · exact ev_len rfl (gn rfl) rfl Tryd.underlying26 (rdg_arg hv)
      simp only [nm, seval]
      apply VE.cons
      · exact ev_lss (p := false) rfl (gn rfl) rfl rfl (decide_eq_false (by simp only [List.length_cons]; omega))
      simp only [nm, seval]
      exact VE.nil _
    · kernel_rfl
    change VOk _ _ _ _ _
    refine vcond_f rfl ?_
    refine vskip ?_
    change VOk _ _ _ _ _
    refine vseq ?_
    apply vrp
    · apply VE.cons
      · exact ev_move rfl (gn rfl)
      simp only [nm, seval]
      apply VE.cons
      · exact ev_idx (k := 1) rfl (gn rfl) rfl rfl Tryd.underlying26 Tryd.sizeOf5 (rdg_arg hv) (by simp) (by decide)
      simp only [nm, seval]
      apply VE.cons
      · exact ev_loadi rfl (gn rfl) rfl Tryd.underlying5 rfl (rdg_arg hv) (rfl)
      simp only [nm, seval]
      apply VE.cons
      · exact ev_conv rfl (gn rfl) rfl (fun w => cv53 hc w)
      simp only [nm, seval]
      apply VE.cons
      · exact ev_sub (c := 1) rfl (gn rfl) rfl rfl (by decide)
      simp only [nm, seval]
      apply VE.cons
      · exact ev_assign rfl (gn rfl)
      simp only [nm, seval]
      exact VE.nil _
    · kernel_rfl
    change VOk _ _ _ _ _
    refine vseq ?_
    refine vblock ?_
    refine vseq ?_
    apply vrp
    · apply VE.cons
      · exact ev_move rfl (gn rfl)
      simp only [nm, seval]
      apply VE.cons
      · exact ev_lss (p := false) rfl (gn rfl) rfl rfl (by decide)
      simp only [nm, seval]
      apply VE.cons
      · exact ev_assign rfl (gn rfl)
      simp only [nm, seval]
      exact VE.nil _
    · kernel_rfl
    change VOk _ _ _ _ _
    refine vcond_f rfl ?_
    refine vseq ?_
    apply vrp
    · apply VE.cons
      · exact ev_move rfl (gn rfl)
      simp only [nm, seval]
      apply VE.cons
      · exact ev_lss (p := false) rfl (gn rfl) rfl rfl (by decide)
      simp only [nm, seval]
      apply VE.cons
      · exact ev_move rfl (gn rfl)
      simp only [nm, seval]
      apply VE.cons
      · first | exact Ev.skip (fun _ => rfl) | exact ev_move rfl (fun _ => rfl)
      simp only [nm, seval]
      apply VE.cons
      · first | exact Ev.skip (fun _ => rfl) | exact ev_gtr (p := false) rfl (fun _ => rfl) rfl rfl (by decide)
      simp only [nm, seval]
      apply VE.cons
      · first | exact ev_pick_t rfl (gn rfl) rfl rfl | exact ev_pick_f rfl (gn rfl) rfl rfl
      simp only [nm, seval]
      apply VE.cons
      · exact ev_move rfl (gn rfl)
      simp only [nm, seval]
      apply VE.cons
      · first | exact Ev.skip (fun _ => rfl) | exact ev_move rfl (fun _ => rfl)
      simp only [nm, seval]
      apply VE.cons
      · first | exact Ev.skip (fun _ => rfl) | exact ev_len rfl (fun _ => rfl) rfl Tryd.underlying26 (rdg_arg hv)
      simp only [nm, seval]
      apply VE.cons
      · first | exact Ev.skip (fun _ => rfl) | exact ev_move rfl (fun _ => rfl)
      simp only [nm, seval]
      apply VE.cons
      · first | exact Ev.skip (fun _ => rfl) | exact ev_add (c := ((3 : Nat) : Int)) rfl (fun _ => rfl) rfl rfl (by rw [i64w (by omega) (by omega)]; omega)
      simp only [nm, seval]
      apply VE.cons
      · first | exact Ev.skip (fun _ => rfl) | exact ev_lss (p := false) rfl (fun _ => rfl) rfl rfl (decide_eq_false (by simp only [List.length_cons]; omega))
      simp only [nm, seval]
      apply VE.cons
      · first | exact ev_pick_t rfl (gn rfl) rfl rfl | exact ev_pick_f rfl (gn rfl) rfl rfl
      simp only [nm, seval]
      apply VE.cons
      · exact ev_assign rfl (gn rfl)
      simp only [nm, seval]
      exact VE.nil _
    · kernel_rfl
    change VOk _ _ _ _ _
    refine vcond_f rfl ?_
    refine vskip ?_
    change VOk _ _ _ _ _
    refine vseq ?_
    refine vseq ?_
    apply vrp
    · apply VE.cons
      · exact ev_move rfl (gn rfl)
      simp only [nm, seval]
      apply VE.cons
      · exact ev_move rfl (gn rfl)
      simp only [nm, seval]
      apply VE.cons
      · exact ev_add (c := ((3 : Nat) : Int)) rfl (gn rfl) rfl rfl (by rw [i64w (by omega) (by omega)]; omega)
      simp only [nm, seval]
      apply VE.cons
      · exact ev_cutx (a := 2) (b := 3) (v' := cutV (2) (3) 1 v) rfl (gn rfl) rfl Tryd.underlying26 Tryd.sizeOf5 (rdg_arg hv) rfl rfl (by decide) (by simp only [List.length_cons]; omega) rfl
      simp only [nm, seval]
      apply VE.cons
      · exact ev_len rfl (gn rfl) rfl Tryd.underlying26 (rdg_arg hcut)
      simp only [nm, seval]
      apply VE.cons
      · exact ev_move rfl (gn rfl)
      simp only [nm, seval]
      exact VE.nil _
    · kernel_rfl
    change VOk _ _ _ _ _
    refine vblock ?_
    refine vloop 2 ?_
    change VOk _ _ _ _ _
    refine vseq ?_
    apply vrp
    · apply VE.cons
      · exact ev_lss (p := true) rfl (gn rfl) rfl rfl (by decide)
      simp only [nm, seval]
      exact VE.nil _
    · kernel_rfl
    change VOk _ _ _ _ _
    refine vseq ?_
    refine vcond_t rfl ?_
    refine vskip ?_
    change VOk _ _ _ _ _
    refine vseq ?_
    refine vblock ?_
    refine vseq ?_
    apply vrp
    · apply VE.cons
      · exact ev_idx (k := 0) rfl (gn rfl) rfl rfl Tryd.underlying26 Tryd.sizeOf5 (rdg_arg hcut) (by decide) (by decide)
      simp only [nm, seval]
      apply VE.cons
      · exact ev_loadi rfl (gn rfl) rfl Tryd.underlying5 rfl (rdg_arg hcut) (rfl)
      simp only [nm, seval]
      apply VE.cons
      · exact ev_assign rfl (gn rfl)
      simp only [nm, seval]
      exact VE.nil _
    · kernel_rfl
    change VOk _ _ _ _ _
    apply vrp
    · apply VE.cons
      · exact ev_move rfl (gn rfl)
      simp only [nm, seval]
      apply VE.cons
      · exact ev_bin rfl (gn rfl) rfl rfl (fun w => shl_sm (v := 0) (u := 0) (by decide) rfl _ _ w)
      simp only [nm, seval]
      apply VE.cons
      · exact ev_move rfl (gn rfl)
      simp only [nm, seval]
      apply VE.cons
      · exact ev_conv rfl (gn rfl) rfl (fun w => cv53 hx w)
      simp only [nm, seval]
      apply VE.cons
      · exact ev_bin rfl (gn rfl) rfl rfl (fun w => or_sm (v := 0) (u := 0) (z := x) (by decide) hx rfl (by omega) _ _ w)
      simp only [nm, seval]
      apply VE.cons
      · exact ev_assign rfl (gn rfl)
      simp only [nm, seval]
      exact VE.nil _
    · kernel_rfl
    change VOk _ _ _ _ _
    apply vrp
    · apply VE.cons
      · exact ev_add (c := ((1 : Nat) : Int)) rfl (gn rfl) rfl rfl (by rw [i64w (by omega) (by omega)]; omega)
      simp only [nm, seval]
      apply VE.cons
      · exact ev_move rfl (gn rfl)
      simp only [nm, seval]
      exact VE.nil _
    · kernel_rfl
    change VOk _ _ _ _ _
    refine vseq ?_
    apply vrp
    · apply VE.cons
      · exact ev_lss (p := false) rfl (gn rfl) rfl rfl (by decide)
      simp only [nm, seval]
      exact VE.nil _
    · kernel_rfl
    change VOk _ _ _ _ _
    refine vseq ?_
    refine vcond_f rfl ?_
    refine vexit ?_
    change VOk _ _ _ _ _
    refine vseq ?_
    refine vseq ?_
    apply vrp
    · apply VE.cons
      · exact ev_move rfl (gn rfl)
      simp only [nm, seval]
      apply VE.cons
      · exact ev_lss rfl (gn rfl) rfl rfl h_q1'
      simp only [nm, seval]
      apply VE.cons
      · exact ev_move rfl (gn rfl)
      simp only [nm, seval]
      apply VE.cons
      · first | exact Ev.skip (fun _ => rfl) | exact ev_move rfl (fun _ => rfl)
      simp only [nm, seval]
      apply VE.cons
      · first | exact Ev.skip (fun _ => rfl) | exact ev_eql (p := false) rfl (fun _ => rfl) rfl rfl (by decide)
      simp only [nm, seval]
      apply VE.cons
      · first | exact Ev.skip (fun _ => rfl) | exact ev_move rfl (fun _ => rfl)
      simp only [nm, seval]
      apply VE.cons
      · first | exact Ev.skip (fun _ => rfl) | exact ev_move rfl (fun _ => rfl)
      simp only [nm, seval]
      apply VE.cons
      · first | exact Ev.skip (fun _ => rfl) | refine ev_pure' (fun _ => rfl) (fun ρ w => by simp only [VS.act, SV.c, List.map_cons, List.map_nil]; go_simp; exact rfl) (fun _ _ => rfl)
      simp only [nm, seval]
      apply VE.cons
      · first | exact Ev.skip (fun _ => rfl) | exact ev_pick_t rfl (fun _ => rfl) rfl rfl | exact ev_pick_f rfl (fun _ => rfl) rfl rfl
      simp only [nm, seval]
      apply VE.cons
      · first | exact ev_pick_t rfl (gn rfl) rfl rfl | exact ev_pick_f rfl (gn rfl) rfl rfl
      simp only [nm, seval]
      exact VE.nil _
    · kernel_rfl
    change VOk _ _ _ _ _
    first
    | (
        refine vcond_t rfl ?_
        refine vseq ?_
        apply vrp
        · apply VE.cons
          · exact ev_assign rfl (gn rfl)
          simp only [nm, seval]
          apply VE.cons
          · exact ev_assign rfl (gn rfl)
          simp only [nm, seval]
          apply VE.cons
          · exact ev_assign rfl (gn rfl)
          simp only [nm, seval]
          exact VE.nil _
        · kernel_rfl
        change VOk _ _ _ _ _
        refine vret ?_
        refine post_ret (res3 Tryd.results50 (rv_tmp rfl) (rv_tmp rfl) (rv_tmp rfl)) ?_
        intro ρ w' hr
        exact ⟨rfl, hr.1⟩
      )
    | (
        refine vcond_f rfl ?_
        refine vskip ?_
        change VOk _ _ _ _ _
        refine vseq ?_
        apply vrp
        · apply VE.cons
          · exact ev_move rfl (gn rfl)
          simp only [nm, seval]
          apply VE.cons
          · exact ev_idx (k := 0) rfl (gn rfl) rfl rfl Tryd.underlying26 Tryd.sizeOf5 (rdg_arg hv) (by simp) (by decide)
          simp only [nm, seval]
          apply VE.cons
          · exact ev_loadi rfl (gn rfl) rfl Tryd.underlying5 rfl (rdg_arg hv) (rfl)
          simp only [nm, seval]
          apply VE.cons
          · exact ev_conv rfl (gn rfl) rfl (fun w => cv53 ht w)
          simp only [nm, seval]
          apply VE.cons
          · exact ev_move rfl (gn rfl)
          simp only [nm, seval]
          apply VE.cons
          · exact ev_move rfl (gn rfl)
          simp only [nm, seval]
          apply VE.cons
          · exact ev_add (c := ((3 : Nat) : Int)) rfl (gn rfl) rfl rfl (by rw [i64w (by omega) (by omega)]; omega)
          simp only [nm, seval]
          apply VE.cons
          · exact ev_assign rfl (gn rfl)
          simp only [nm, seval]
          apply VE.cons
          · exact ev_assign rfl (gn rfl)
          simp only [nm, seval]
          apply VE.cons
          · exact ev_assign rfl (gn rfl)
          simp only [nm, seval]
          exact VE.nil _
        · kernel_rfl
        change VOk _ _ _ _ _
        refine vret ?_
        refine post_ret (res3 Tryd.results50 (rv_tmp rfl) (rv_tmp rfl) (rv_tmp rfl)) ?_
        intro ρ w' hr
        exact ⟨rfl, hr.1⟩
      )
  )
theorem head_2 {v : Value} {S : Nat → Prop} {t x y : Nat} {r : List Nat} (w : World) (hv : SlAt w v (t :: 130 :: x :: y :: r).length 1 ((t :: 130 :: x :: y :: r).map b8) S) (ht : t < 256) (hx : x < 256) (hy : y < 256) (hm : r.length ≤ 1048576) : Calls Tryd.prog 50 #[v] w fun e w' => e = .returned (.tuple #[.int .i64 ((bif decide (x * 256 + y < 256) then 0 else t : Nat) : Nat), .int .i64 ((bif decide (x * 256 + y < 256) then 0 else x * 256 + y : Nat) : Nat), .int .i64 ((bif decide (x * 256 + y < 256) then 0 else 4 : Nat) : Nat)]) ∧ Bw w w' := by
  have hc : 130 < 256 := by decide
  have hcut : SlAt w (cutV 2 4 1 v) 2 1 [b8 x, b8 y] S := by have := sl_cut (lo := 2) (hi := 4) hv (by decide) (by simp only [List.length_cons]; omega); exact this
  obtain ⟨q1, h_q1⟩ : ∃ p, decide (x * 256 + y < 128) = p := ⟨_, rfl⟩
  obtain ⟨q2, h_q2⟩ : ∃ p, decide (x * 256 + y < 256) = p := ⟨_, rfl⟩
  have h_q1' := (nat_lt (x * 256 + y) 128).trans h_q1
  have h_q2' := (nat_lt (x * 256 + y) 256).trans h_q2
  rw [h_q2]
  go_enter Tryd.func50, Tryd.ntmps50
  refine ve_go ?_
  simp only [List.map_cons, List.map_nil]
  cases q1 <;> cases q2 <;>
  (
    refine vseq ?_
    apply vrp
    · apply VE.cons
      · exact ev_assign rfl (gn rfl)
      simp only [nm, seval]
      apply VE.cons
      · exact ev_assign rfl (gn rfl)
      simp only [nm, seval]
      apply VE.cons
      · exact ev_assign rfl (gn rfl)
      simp only [nm, seval]
      exact VE.nil _
    · kernel_rfl
    change VOk _ _ _ _ _
    refine vseq ?_
    refine vseq ?_
    apply vrp
    · apply VE.cons
      · exact ev_move rfl (gn rfl)
      simp only [nm, seval]
      apply VE.cons
      · exact ev_len rfl (gn rfl) rfl Tryd.underlying26 (rdg_arg hv)
      simp only [nm, seval]
      apply VE.cons
      · exact ev_lss (p := false) rfl (gn rfl) rfl rfl (decide_eq_false (by simp only [List.length_cons]; omega))
      simp only [nm, seval]
      exact VE.nil _
    · kernel_rfl
    change VOk _ _ _ _ _
    refine vcond_f rfl ?_
    refine vskip ?_
    change VOk _ _ _ _ _
    refine vseq ?_
    apply vrp
    · apply VE.cons
      · exact ev_move rfl (gn rfl)
      simp only [nm, seval]
      apply VE.cons
      · exact ev_idx (k := 1) rfl (gn rfl) rfl rfl Tryd.underlying26 Tryd.sizeOf5 (rdg_arg hv) (by simp) (by decide)
      simp only [nm, seval]
      apply VE.cons
      · exact ev_loadi rfl (gn rfl) rfl Tryd.underlying5 rfl (rdg_arg hv) (rfl)
      simp only [nm, seval]
      apply VE.cons
      · exact ev_conv rfl (gn rfl) rfl (fun w => cv53 hc w)
      simp only [nm, seval]
      apply VE.cons
      · exact ev_sub (c := 2) rfl (gn rfl) rfl rfl (by decide)
      simp only [nm, seval]
      apply VE.cons
      · exact ev_assign rfl (gn rfl)
      simp only [nm, seval]
      exact VE.nil _
    · kernel_rfl
    change VOk _ _ _ _ _
    refine vseq ?_
    refine vblock ?_
    refine vseq ?_
    apply vrp
    · apply VE.cons
      · exact ev_move rfl (gn rfl)
      simp only [nm, seval]
      apply VE.cons
      · exact ev_lss (p := false) rfl (gn rfl) rfl rfl (by decide)
      simp only [nm, seval]
      apply VE.cons
      · exact ev_assign rfl (gn rfl)
      simp only [nm, seval]
      exact VE.nil _
    · kernel_rfl
    change VOk _ _ _ _ _
    refine vcond_f rfl ?_
    refine vseq ?_
    apply vrp
    · apply VE.cons
      · exact ev_move rfl (gn rfl)
      simp only [nm, seval]
      apply VE.cons
      · exact ev_lss (p := false) rfl (gn rfl) rfl rfl (by decide)
      simp only [nm, seval]
      apply VE.cons
      · exact ev_move rfl (gn rfl)
      simp only [nm, seval]
      apply VE.cons
      · first | exact Ev.skip (fun _ => rfl) | exact ev_move rfl (fun _ => rfl)
      simp only [nm, seval]
      apply VE.cons
      · first | exact Ev.skip (fun _ => rfl) | exact ev_gtr (p := false) rfl (fun _ => rfl) rfl rfl (by decide)
      simp only [nm, seval]
      apply VE.cons
      · first | exact ev_pick_t rfl (gn rfl) rfl rfl | exact ev_pick_f rfl (gn rfl) rfl rfl
      simp only [nm, seval]
      apply VE.cons
      · exact ev_move rfl (gn rfl)
      simp only [nm, seval]
      apply VE.cons
      · first | exact Ev.skip (fun _ => rfl) | exact ev_move rfl (fun _ => rfl)
      simp only [nm, seval]
      apply VE.cons
      · first | exact Ev.skip (fun _ => rfl) | exact ev_len rfl (fun _ => rfl) rfl Tryd.underlying26 (rdg_arg hv)
      simp only [nm, seval]
      apply VE.cons
      · first | exact Ev.skip (fun _ => rfl) | exact ev_move rfl (fun _ => rfl)
      simp only [nm, seval]
      apply VE.cons
      · first | exact Ev.skip (fun _ => rfl) | exact ev_add (c := ((4 : Nat) : Int)) rfl (fun _ => rfl) rfl rfl (by rw [i64w (by omega) (by omega)]; omega)
      simp only [nm, seval]
      apply VE.cons
      · first | exact Ev.skip (fun _ => rfl) | exact ev_lss (p := false) rfl (fun _ => rfl) rfl rfl (decide_eq_false (by simp only [List.length_cons]; omega))
      simp only [nm, seval]
      apply VE.cons
      · first | exact ev_pick_t rfl (gn rfl) rfl rfl | exact ev_pick_f rfl (gn rfl) rfl rfl
      simp only [nm, seval]
      apply VE.cons
      · exact ev_assign rfl (gn rfl)
      simp only [nm, seval]
      exact VE.nil _
    · kernel_rfl
    change VOk _ _ _ _ _
    refine vcond_f rfl ?_
    refine vskip ?_
    change VOk _ _ _ _ _
    refine vseq ?_
    refine vseq ?_
    apply vrp
    · apply VE.cons
      · exact ev_move rfl (gn rfl)
      simp only [nm, seval]
      apply VE.cons
      · exact ev_move rfl (gn rfl)
      simp only [nm, seval]
      apply VE.cons
      · exact ev_add (c := ((4 : Nat) : Int)) rfl (gn rfl) rfl rfl (by rw [i64w (by omega) (by omega)]; omega)
      simp only [nm, seval]
      apply VE.cons
      · exact ev_cutx (a := 2) (b := 4) (v' := cutV (2) (4) 1 v) rfl (gn rfl) rfl Tryd.underlying26 Tryd.sizeOf5 (rdg_arg hv) rfl rfl (by decide) (by simp only [List.length_cons]; omega) rfl
      simp only [nm, seval]
      apply VE.cons
      · exact ev_len rfl (gn rfl) rfl Tryd.underlying26 (rdg_arg hcut)
      simp only [nm, seval]
      apply VE.cons
      · exact ev_move rfl (gn rfl)
      simp only [nm, seval]
      exact VE.nil _
    · kernel_rfl
    change VOk _ _ _ _ _
    refine vblock ?_
    refine vloop 3 ?_
    change VOk _ _ _ _ _
    refine vseq ?_
    apply vrp
    · apply VE.cons
      · exact ev_lss (p := true) rfl (gn rfl) rfl rfl (by decide)
      simp only [nm, seval]
      exact VE.nil _
    · kernel_rfl
    change VOk _ _ _ _ _
    refine vseq ?_
    refine vcond_t rfl ?_
    refine vskip ?_
    change VOk _ _ _ _ _
    refine vseq ?_
    refine vblock ?_
    refine vseq ?_
    apply vrp
    · apply VE.cons
      · exact ev_idx (k := 0) rfl (gn rfl) rfl rfl Tryd.underlying26 Tryd.sizeOf5 (rdg_arg hcut) (by decide) (by decide)
      simp only [nm, seval]
      apply VE.cons
      · exact ev_loadi rfl (gn rfl) rfl Tryd.underlying5 rfl (rdg_arg hcut) (rfl)
      simp only [nm, seval]
      apply VE.cons
      · exact ev_assign rfl (gn rfl)
      simp only [nm, seval]
      exact VE.nil _
    · kernel_rfl
    change VOk _ _ _ _ _
    apply vrp
    · apply VE.cons
      · exact ev_move rfl (gn rfl)
      simp only [nm, seval]
      apply VE.cons
      · exact ev_bin rfl (gn rfl) rfl rfl (fun w => shl_sm (v := 0) (u := 0) (by decide) rfl _ _ w)
      simp only [nm, seval]
      apply VE.cons
      · exact ev_move rfl (gn rfl)
      simp only [nm, seval]
      apply VE.cons
      · exact ev_conv rfl (gn rfl) rfl (fun w => cv53 hx w)
      simp only [nm, seval]
      apply VE.cons
      · exact ev_bin rfl (gn rfl) rfl rfl (fun w => or_sm (v := 0) (u := 0) (z := x) (by decide) hx rfl (by omega) _ _ w)
      simp only [nm, seval]
      apply VE.cons
      · exact ev_assign rfl (gn rfl)
      simp only [nm, seval]
      exact VE.nil _
    · kernel_rfl
    change VOk _ _ _ _ _
    apply vrp
    · apply VE.cons
      · exact ev_add (c := ((1 : Nat) : Int)) rfl (gn rfl) rfl rfl (by rw [i64w (by omega) (by omega)]; omega)
      simp only [nm, seval]
      apply VE.cons
      · exact ev_move rfl (gn rfl)
      simp only [nm, seval]
      exact VE.nil _
    · kernel_rfl
    change VOk _ _ _ _ _
    refine vseq ?_
    apply vrp
    · apply VE.cons
      · exact ev_lss (p := true) rfl (gn rfl) rfl rfl (by decide)
      simp only [nm, seval]
      exact VE.nil _
    · kernel_rfl
    change VOk _ _ _ _ _
    refine vseq ?_
    refine vcond_t rfl ?_
    refine vskip ?_
    change VOk _ _ _ _ _
    refine vseq ?_
    refine vblock ?_
    refine vseq ?_
    apply vrp
    · apply VE.cons
      · exact ev_idx (k := 1) rfl (gn rfl) rfl rfl Tryd.underlying26 Tryd.sizeOf5 (rdg_arg hcut) (by decide) (by decide)
      simp only [nm, seval]
      apply VE.cons
      · exact ev_loadi rfl (gn rfl) rfl Tryd.underlying5 rfl (rdg_arg hcut) (rfl)
      simp only [nm, seval]
      apply VE.cons
      · exact ev_assign rfl (gn rfl)
      simp only [nm, seval]
      exact VE.nil _
    · kernel_rfl
    change VOk _ _ _ _ _
    apply vrp
    · apply VE.cons
      · exact ev_move rfl (gn rfl)
      simp only [nm, seval]
      apply VE.cons
      · exact ev_bin rfl (gn rfl) rfl rfl (fun w => shl_sm (v := x) (u := x * 256) (by omega) rfl _ _ w)
      simp only [nm, seval]
      apply VE.cons
      · exact ev_move rfl (gn rfl)
      simp only [nm, seval]
      apply VE.cons
      · exact ev_conv rfl (gn rfl) rfl (fun w => cv53 hy w)
      simp only [nm, seval]
      apply VE.cons
      · exact ev_bin rfl (gn rfl) rfl rfl (fun w => or_sm (v := x) (u := x * 256) (z := x * 256 + y) (by omega) hy rfl rfl _ _ w)
      simp only [nm, seval]
      apply VE.cons
      · exact ev_assign rfl (gn rfl)
      simp only [nm, seval]
      exact VE.nil _
    · kernel_rfl
    change VOk _ _ _ _ _
    apply vrp
    · apply VE.cons
      · exact ev_add (c := ((2 : Nat) : Int)) rfl (gn rfl) rfl rfl (by rw [i64w (by omega) (by omega)]; omega)
      simp only [nm, seval]
      apply VE.cons
      · exact ev_move rfl (gn rfl)
      simp only [nm, seval]
      exact VE.nil _
    · kernel_rfl
    change VOk _ _ _ _ _
    refine vseq ?_
    apply vrp
    · apply VE.cons
      · exact ev_lss (p := false) rfl (gn rfl) rfl rfl (by decide)
      simp only [nm, seval]
      exact VE.nil _
    · kernel_rfl
    change VOk _ _ _ _ _
    refine vseq ?_
    refine vcond_f rfl ?_
    refine vexit ?_
    change VOk _ _ _ _ _
    refine vseq ?_
    refine vseq ?_
    apply vrp
    · apply VE.cons
      · exact ev_move rfl (gn rfl)
      simp only [nm, seval]
      apply VE.cons
      · exact ev_lss rfl (gn rfl) rfl rfl h_q1'
      simp only [nm, seval]
      apply VE.cons
      · exact ev_move rfl (gn rfl)
      simp only [nm, seval]
      apply VE.cons
      · first | exact Ev.skip (fun _ => rfl) | exact ev_move rfl (fun _ => rfl)
      simp only [nm, seval]
      apply VE.cons
      · first | exact Ev.skip (fun _ => rfl) | exact ev_eql (p := true) rfl (fun _ => rfl) rfl rfl (by decide)
      simp only [nm, seval]
      apply VE.cons
      · first | exact Ev.skip (fun _ => rfl) | exact ev_move rfl (fun _ => rfl)
      simp only [nm, seval]
      apply VE.cons
      · first | exact Ev.skip (fun _ => rfl) | exact ev_move rfl (fun _ => rfl)
      simp only [nm, seval]
      apply VE.cons
      · first | exact Ev.skip (fun _ => rfl) | exact ev_lss rfl (fun _ => rfl) rfl rfl h_q2'
      simp only [nm, seval]
      apply VE.cons
      · first | exact Ev.skip (fun _ => rfl) | exact ev_pick_t rfl (fun _ => rfl) rfl rfl | exact ev_pick_f rfl (fun _ => rfl) rfl rfl
      simp only [nm, seval]
      apply VE.cons
      · first | exact ev_pick_t rfl (gn rfl) rfl rfl | exact ev_pick_f rfl (gn rfl) rfl rfl
      simp only [nm, seval]
      exact VE.nil _
    · kernel_rfl
    change VOk _ _ _ _ _
    first
    | (
        refine vcond_t rfl ?_
        refine vseq ?_
        apply vrp
        · apply VE.cons
          · exact ev_assign rfl (gn rfl)
          simp only [nm, seval]
          apply VE.cons
          · exact ev_assign rfl (gn rfl)
          simp only [nm, seval]
          apply VE.cons
          · exact ev_assign rfl (gn rfl)
          simp only [nm, seval]
          exact VE.nil _
        · kernel_rfl
        change VOk _ _ _ _ _
        refine vret ?_
        refine post_ret (res3 Tryd.results50 (rv_tmp rfl) (rv_tmp rfl) (rv_tmp rfl)) ?_
        intro ρ w' hr
        (first | exact ⟨rfl, hr.1⟩ | (exfalso; have g1 := of_decide_eq_true h_q1; have g2 := of_decide_eq_false h_q2; omega))
      )
    | (
        refine vcond_f rfl ?_
        refine vskip ?_
        change VOk _ _ _ _ _
        refine vseq ?_
        apply vrp
        · apply VE.cons
          · exact ev_move rfl (gn rfl)
          simp only [nm, seval]
          apply VE.cons
          · exact ev_idx (k := 0) rfl (gn rfl) rfl rfl Tryd.underlying26 Tryd.sizeOf5 (rdg_arg hv) (by simp) (by decide)
          simp only [nm, seval]
          apply VE.cons
          · exact ev_loadi rfl (gn rfl) rfl Tryd.underlying5 rfl (rdg_arg hv) (rfl)
          simp only [nm, seval]
          apply VE.cons
          · exact ev_conv rfl (gn rfl) rfl (fun w => cv53 ht w)
          simp only [nm, seval]
          apply VE.cons
          · exact ev_move rfl (gn rfl)
          simp only [nm, seval]
          apply VE.cons
          · exact ev_move rfl (gn rfl)
          simp only [nm, seval]
          apply VE.cons
          · exact ev_add (c := ((4 : Nat) : Int)) rfl (gn rfl) rfl rfl (by rw [i64w (by omega) (by omega)]; omega)
          simp only [nm, seval]
          apply VE.cons
          · exact ev_assign rfl (gn rfl)
          simp only [nm, seval]
          apply VE.cons
          · exact ev_assign rfl (gn rfl)
          simp only [nm, seval]
          apply VE.cons
          · exact ev_assign rfl (gn rfl)
          simp only [nm, seval]
          exact VE.nil _
        · kernel_rfl
        change VOk _ _ _ _ _
        refine vret ?_
        refine post_ret (res3 Tryd.results50 (rv_tmp rfl) (rv_tmp rfl) (rv_tmp rfl)) ?_
        intro ρ w' hr
        (first | exact ⟨rfl, hr.1⟩ | (exfalso; have g1 := of_decide_eq_true h_q1; have g2 := of_decide_eq_false h_q2; omega))
      )
  )
theorem head_ok {v : Value} {b : List Nat} {S : Nat → Prop} (w : World) (hv : SlAt w v b.length 1 (b.map b8) S) (h8 : ∀ x ∈ b, x < 256) (hm : b.length ≤ 1048576) : Calls Tryd.prog 50 #[v] w fun e w' => e = .returned (.tuple #[.int .i64 ((headN b).1 : Nat), .int .i64 ((headN b).2.1 : Nat), .int .i64 ((headN b).2.2 : Nat)]) ∧ Bw w w' := by
  match b, hv, h8, hm with
  | [], hv, _, _ => exact head_s w hv (by simp) (by simp)
  | [t], hv, _, _ => exact head_s w hv (by simp) (by simp)
  | t :: c :: r, hv, h8, hm =>
    have ht := h8 t (by simp)
    have hc := h8 c (by simp)
    simp only [List.length_cons] at hm
    by_cases h1 : c < 128
    · have e : headN (t :: c :: r) = (t, c, 2) := by simp only [headN, decide_eq_true h1, cond_true]
      rw [e]; exact head_a w hv hc ht h1 (by omega)
    · have e : headN (t :: c :: r) = bif decide (c = 129) && decide (1 ≤ r.length) then (bif decide (r.getD 0 0 < 128) then (0, 0, 0) else (t, r.getD 0 0, 3)) else
          bif decide (c = 130) && decide (2 ≤ r.length) then (bif decide (r.getD 0 0 * 256 + r.getD 1 0 < 256) then (0, 0, 0) else (t, r.getD 0 0 * 256 + r.getD 1 0, 4)) else (0, 0, 0) := by
        simp only [headN, decide_eq_false h1, cond_false]
      rw [e]
      by_cases h2 : c = 129
      · subst h2
        match r, hv, h8, hm with
        | [], hv, _, hm => exact head_n2 w hv hc ht (by decide) (by decide) (by simp) (by simp)
        | x :: r, hv, h8, hm =>
          have hx := h8 x (by simp)
          have := head_1 w hv ht hx (by simp only [List.length_cons] at hm; omega)
          have h5 : decide (1 ≤ (x :: r).length) = true := decide_eq_true (by simp)
          rw [h5, List.getD_cons_zero]
          cases hq : decide (x < 128) <;> rw [hq] at this <;> exact this
      · by_cases h3 : c = 130
        · subst h3
          match r, hv, h8, hm with
          | [], hv, _, hm => exact head_n2 w hv hc ht (by decide) (by decide) (by simp) (by simp)
          | [x], hv, _, hm => exact head_n2 w hv hc ht (by decide) (by decide) (by simp) (by simp)
          | x :: y :: r, hv, h8, hm =>
            have hx := h8 x (by simp)
            have hy := h8 y (by simp)
            have := head_2 w hv ht hx hy (by simp only [List.length_cons] at hm; omega)
            have h5 : decide (2 ≤ (x :: y :: r).length) = true := decide_eq_true (by simp)
            rw [h5, List.getD_cons_succ, List.getD_cons_zero, List.getD_cons_zero]
            cases hq : decide (x * 256 + y < 256) <;> rw [hq] at this <;> exact this
        · rw [decide_eq_false h2, decide_eq_false h3]
          by_cases h4 : c = 128
          · exact head_n0 w hv hc ht h4 (by omega)
          · exact head_n1 w hv hc ht (by omega) (by omega)
end Go.Proofs.YtmgmiiongleaeaaDoor
