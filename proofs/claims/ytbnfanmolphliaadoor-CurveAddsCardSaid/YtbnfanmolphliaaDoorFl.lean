import Derived.Test.YtbnfanmolphliaaDoorFk
import Derived.Test.YtbnfanmolphliaaDoorVp
namespace Go.Proofs.YtbnfanmolphliaaDoor
open Go.RowKit Go.Toll TollMont
open TollEc (F pp cb Jp Pt jdouble jadd smul add base nn neg)
set_option maxHeartbeats 4000000
set_option maxRecDepth 100000
theorem zeq29 (x : F) (p q : Operand) (w : World) : (do eqGuard .eql 29 p q (NF x) (.agg #[.int .u64 0, .int .u64 0, .int .u64 0, .int .u64 0]); binOp .eql 29 (NF x) (.agg #[.int .u64 0, .int .u64 0, .int .u64 0, .int .u64 0]) : Sem Value).run Tryd.prog w = .ok (.bool (decide (x = 0))) w := by
  have := eqF29 x 0 p q w
  exact this
theorem z29_t {x : F} (h : x = 0) (p q : Operand) (w : World) : (do eqGuard .eql 29 p q (NF x) (.agg #[.int .u64 0, .int .u64 0, .int .u64 0, .int .u64 0]); binOp .eql 29 (NF x) (.agg #[.int .u64 0, .int .u64 0, .int .u64 0, .int .u64 0]) : Sem Value).run Tryd.prog w = .ok (.bool true) w := by
  have := zeq29 x p q w; rw [decide_eq_true h] at this; exact this
theorem z29_f {x : F} (h : x ≠ 0) (p q : Operand) (w : World) : (do eqGuard .eql 29 p q (NF x) (.agg #[.int .u64 0, .int .u64 0, .int .u64 0, .int .u64 0]); binOp .eql 29 (NF x) (.agg #[.int .u64 0, .int .u64 0, .int .u64 0, .int .u64 0]) : Sem Value).run Tryd.prog w = .ok (.bool false) w := by
  have := zeq29 x p q w; rw [decide_eq_false h] at this; exact this
theorem e29_t {x y : F} (h : x = y) (p q : Operand) (w : World) : (do eqGuard .eql 29 p q (NF x) (NF y); binOp .eql 29 (NF x) (NF y) : Sem Value).run Tryd.prog w = .ok (.bool true) w := by
  have := eqF29 x y p q w; rw [decide_eq_true h] at this; exact this
theorem e29_f {x y : F} (h : x ≠ y) (p q : Operand) (w : World) : (do eqGuard .eql 29 p q (NF x) (NF y); binOp .eql 29 (NF x) (NF y) : Sem Value).run Tryd.prog w = .ok (.bool false) w := by
  have := eqF29 x y p q w; rw [decide_eq_false h] at this; exact this
theorem built29_two : Tryd.prog.built 29 [(0, .int .u64 2)] = some #[.int .u64 2, .int .u64 0, .int .u64 0, .int .u64 0] := by kernel_rfl
theorem rmulE {x y z : F} (h : x * y = z) (w : World) : Calls Tryd.prog 38 #[NF x, NF y, N pp] w fun e w' => e = .returned (NF z) ∧ Gw w w' := h ▸ rmulF x y w
theorem raddE {x y z : F} (h : x + y = z) (w : World) : Calls Tryd.prog 26 #[NF x, NF y, N pp] w fun e w' => e = .returned (NF z) ∧ Gw w w' := h ▸ raddF x y w
theorem rsubE {x y z : F} (h : x - y = z) (w : World) : Calls Tryd.prog 23 #[NF x, NF y, N pp] w fun e w' => e = .returned (NF z) ∧ Gw w w' := h ▸ rsubF x y w
theorem rsubE1 {x z : F} (h : x - 1 = z) (w : World) : Calls Tryd.prog 23 #[NF x, .agg #[.int .u64 1, .int .u64 0, .int .u64 0, .int .u64 0], N pp] w fun e w' => e = .returned (NF z) ∧ Gw w w' := by
  have := rsubE h w; rw [NF_1] at this; exact this
theorem rmulE3 {x z : F} (h : 3 * x = z) (w : World) : Calls Tryd.prog 38 #[.agg #[.int .u64 3, .int .u64 0, .int .u64 0, .int .u64 0], NF x, N pp] w fun e w' => e = .returned (NF z) ∧ Gw w w' := by
  have := rmulE h w; rw [NF_3] at this; exact this
theorem N_two : N 2 = .agg #[.int .u64 2, .int .u64 0, .int .u64 0, .int .u64 0] := N_small (k := 2) (by decide)
theorem rsub2 (w : World) : Calls Tryd.prog 23 #[.agg #[.int .u64 0, .int .u64 0, .int .u64 0, .int .u64 0], .agg #[.int .u64 2, .int .u64 0, .int .u64 0, .int .u64 0], N pp] w fun e w' => e = .returned (N (pp - 2)) ∧ Gw w w' := by
  have := rsub0 mdp (by decide : 2 < R) w
  rw [N_two, show subm pp 0 2 = pp - 2 by decide +kernel] at this; exact this
theorem pow_split (a n : Nat) : a ^ (n + 1) = a * a ^ n := Nat.pow_succ'
theorem inv_pow {a i n p : Nat} (hp : p = n + 2) (h1 : 1 < p) (hf : a ^ (n + 1) % p = 1) (hi : a * i % p = 1) (hl : i < p) : a ^ n % p = i := by
  have e1 : a ^ n * (a * i) % p = a ^ n % p := by rw [Nat.mul_mod, hi, Nat.mul_one, Nat.mod_mod]
  have e2 : a ^ n * (a * i) % p = i := by
    rw [← Nat.mul_assoc, Nat.mul_comm (a ^ n) a, ← pow_split, Nat.mul_mod, hf, Nat.one_mul, Nat.mod_mod, Nat.mod_eq_of_lt hl]
  rw [← e1, e2]
theorem rpowF {x i : F} (h : x * i = 1) (w : World) : Calls Tryd.prog 48 #[NF x, N (pp - 2), N pp] w fun e w' => e = .returned (NF i) ∧ Gw w w' := by
  have hv : x.val * i.val % pp = 1 := congrArg Fin.val h
  have hx : ¬ pp ∣ x.val := fun c => by
    have := Nat.mod_eq_zero_of_dvd (Nat.dvd_trans c ⟨i.val, rfl⟩ : pp ∣ x.val * i.val)
    rw [this] at hv; cases hv
  have hf := TollNt.fermat TollEc.prm_pp hx
  have key : ∀ n, n = pp - 2 → x.val ^ n % pp = i.val := fun n hn =>
    inv_pow (by rw [hn]; decide) (by decide) (by rw [show n + 1 = pp - 1 by rw [hn]; decide]; exact hf) hv i.isLt
  have := fun n (hn : n = pp - 2) => rpow_ok mdp (val_lt x) (show n < R by rw [hn]; decide) w
  have h2 : ∀ n, n = pp - 2 → Calls Tryd.prog 48 #[NF x, N n, N pp] w fun e w' => e = .returned (NF i) ∧ Gw w w' := fun n hn => by
    have h3 := this n hn
    rw [key n hn] at h3
    exact h3
  exact h2 _ rfl
theorem radd_p (x1 y1 x2 y2 : F) (w : World) (a : x1 = 0) (b : y1 = 0) : Calls Tryd.prog 25 #[NF x1, NF y1, NF x2, NF y2] w fun e w' => e = .returned (.tuple #[NF x2, NF y2]) ∧ Gw w w' := by
  go_enter Tryd.func25, Tryd.ntmps25
  refine ve_go ?_
  simp only [List.map_cons, List.map_nil]
  refine vseq ?_
  apply vrp
  · apply VE.cons
    · exact ev_box rfl rfl (gn rfl) rfl
    simp only [nm3, seval]
    apply VE.cons
    · exact ev_box rfl rfl (gn rfl) rfl
    simp only [nm3, seval]
    apply VE.cons
    · exact ev_box rfl rfl (gn rfl) rfl
    simp only [nm3, seval]
    apply VE.cons
    · exact ev_box rfl rfl (gn rfl) rfl
    simp only [nm3, seval]
    apply VE.cons
    · exact ev_alloc rfl rfl (gn rfl) Tryd.zeroValue29
    simp only [nm3, seval]
    apply VE.cons
    · exact ev_alloc rfl rfl (gn rfl) Tryd.zeroValue29
    simp only [nm3, seval]
    exact VE.nil _
  · kernel_rfl
  change VOk _ _ _ _ _
  refine vseq ?_
  apply vrp
  · apply VE.cons
    · exact ev_call rfl (gn rfl) rfl (en_of Tryd.func28 (by kernel_rfl) rfl) (fun w' hw' => c_P w')
    simp only [nm3, seval]
    apply VE.cons
    · exact ev_alloc rfl rfl (gn rfl) Tryd.zeroValue29
    simp only [nm3, seval]
    apply VE.cons
    · exact ev_store rfl (gn rfl) rfl rfl rfl Tryd.sizeOf29 rfl (by simp) rfl
    simp only [nm3, seval]
    exact VE.nil _
  · kernel_rfl
  change VOk _ _ _ _ _
  refine vseq ?_
  apply vrp
  · apply VE.cons
    · exact ev_build rfl (gn rfl) rfl built29_0
    simp only [nm3, seval]
    apply VE.cons
    · exact ev_alloc rfl rfl (gn rfl) Tryd.zeroValue29
    simp only [nm3, seval]
    apply VE.cons
    · exact ev_store rfl (gn rfl) rfl rfl rfl Tryd.sizeOf29 rfl (by simp) rfl
    simp only [nm3, seval]
    exact VE.nil _
  · kernel_rfl
  change VOk _ _ _ _ _
  refine vseq ?_
  refine vseq ?_
  apply vrp
  · apply VE.cons
    · first | exact ev_load rfl (gn rfl) rfl rfl Tryd.underlying29 rfl Tryd.sizeOf29 rfl rfl | exact ev_loadx rfl (gn rfl) rfl Tryd.underlying29 rfl Tryd.sizeOf29 (by assumption) rfl
    simp only [nm3, seval]
    apply VE.cons
    · first | exact ev_load rfl (gn rfl) rfl rfl Tryd.underlying29 rfl Tryd.sizeOf29 rfl rfl | exact ev_loadx rfl (gn rfl) rfl Tryd.underlying29 rfl Tryd.sizeOf29 (by assumption) rfl
    simp only [nm3, seval]
    apply VE.cons
    · exact ev_bin (c := .bool true) rfl (gn rfl) rfl rfl (fun w => z29_t a _ _ w)
    simp only [nm3, seval]
    apply VE.cons
    · exact ev_move rfl (gn rfl)
    simp only [nm3, seval]
    apply VE.cons
    · first | exact Ev.skip (fun _ => rfl) | exact ev_load rfl (fun _ => rfl) rfl rfl Tryd.underlying29 rfl Tryd.sizeOf29 rfl rfl | exact ev_loadx rfl (fun _ => rfl) rfl Tryd.underlying29 rfl Tryd.sizeOf29 (by assumption) rfl
    simp only [nm3, seval]
    apply VE.cons
    · first | exact Ev.skip (fun _ => rfl) | exact ev_load rfl (fun _ => rfl) rfl rfl Tryd.underlying29 rfl Tryd.sizeOf29 rfl rfl | exact ev_loadx rfl (fun _ => rfl) rfl Tryd.underlying29 rfl Tryd.sizeOf29 (by assumption) rfl
    simp only [nm3, seval]
    apply VE.cons
    · first | exact Ev.skip (fun _ => rfl) | exact ev_bin (c := .bool true) rfl (fun _ => rfl) rfl rfl (fun w => z29_t b _ _ w)
    simp only [nm3, seval]
    apply VE.cons
    · first | exact ev_pick_t rfl (gn rfl) rfl rfl | exact ev_pick_f rfl (gn rfl) rfl rfl
    simp only [nm3, seval]
    exact VE.nil _
  · kernel_rfl
  change VOk _ _ _ _ _
  refine vcond_t rfl ?_
  refine vseq ?_
  apply vrd (by kernel_rfl)
  · apply VE.cons
    · first | exact ev_load rfl (gn rfl) rfl rfl Tryd.underlying29 rfl Tryd.sizeOf29 rfl rfl | exact ev_loadx rfl (gn rfl) rfl Tryd.underlying29 rfl Tryd.sizeOf29 (by assumption) rfl
    simp only [nm3, seval]
    apply VE.cons
    · first | exact ev_load rfl (gn rfl) rfl rfl Tryd.underlying29 rfl Tryd.sizeOf29 rfl rfl | exact ev_loadx rfl (gn rfl) rfl Tryd.underlying29 rfl Tryd.sizeOf29 (by assumption) rfl
    simp only [nm3, seval]
    apply VE.cons
    · exact ev_store rfl (gn rfl) rfl rfl rfl Tryd.sizeOf29 rfl (by simp) rfl
    simp only [nm3, seval]
    apply VE.cons
    · exact ev_store rfl (gn rfl) rfl rfl rfl Tryd.sizeOf29 rfl (by simp) rfl
    simp only [nm3, seval]
    exact VE.nil _
  · kernel_rfl
  change VOk _ _ _ _ _
  refine vret ?_
  refine post_ret (res2 Tryd.results25 (rv_cell rfl rfl Tryd.underlying29 rfl Tryd.sizeOf29 rfl rfl) (rv_cell rfl rfl Tryd.underlying29 rfl Tryd.sizeOf29 rfl rfl)) ?_
  intro w' hg
  exact ⟨rfl, hg⟩
theorem radd_q_x (x1 y1 x2 y2 : F) (w : World) (a : x1 ≠ 0) (c : x2 = 0) (d : y2 = 0) : Calls Tryd.prog 25 #[NF x1, NF y1, NF x2, NF y2] w fun e w' => e = .returned (.tuple #[NF x1, NF y1]) ∧ Gw w w' := by
  go_enter Tryd.func25, Tryd.ntmps25
  refine ve_go ?_
  simp only [List.map_cons, List.map_nil]
  refine vseq ?_
  apply vrp
  · apply VE.cons
    · exact ev_box rfl rfl (gn rfl) rfl
    simp only [nm3, seval]
    apply VE.cons
    · exact ev_box rfl rfl (gn rfl) rfl
    simp only [nm3, seval]
    apply VE.cons
    · exact ev_box rfl rfl (gn rfl) rfl
    simp only [nm3, seval]
    apply VE.cons
    · exact ev_box rfl rfl (gn rfl) rfl
    simp only [nm3, seval]
    apply VE.cons
    · exact ev_alloc rfl rfl (gn rfl) Tryd.zeroValue29
    simp only [nm3, seval]
    apply VE.cons
    · exact ev_alloc rfl rfl (gn rfl) Tryd.zeroValue29
    simp only [nm3, seval]
    exact VE.nil _
  · kernel_rfl
  change VOk _ _ _ _ _
  refine vseq ?_
  apply vrp
  · apply VE.cons
    · exact ev_call rfl (gn rfl) rfl (en_of Tryd.func28 (by kernel_rfl) rfl) (fun w' hw' => c_P w')
    simp only [nm3, seval]
    apply VE.cons
    · exact ev_alloc rfl rfl (gn rfl) Tryd.zeroValue29
    simp only [nm3, seval]
    apply VE.cons
    · exact ev_store rfl (gn rfl) rfl rfl rfl Tryd.sizeOf29 rfl (by simp) rfl
    simp only [nm3, seval]
    exact VE.nil _
  · kernel_rfl
  change VOk _ _ _ _ _
  refine vseq ?_
  apply vrp
  · apply VE.cons
    · exact ev_build rfl (gn rfl) rfl built29_0
    simp only [nm3, seval]
    apply VE.cons
    · exact ev_alloc rfl rfl (gn rfl) Tryd.zeroValue29
    simp only [nm3, seval]
    apply VE.cons
    · exact ev_store rfl (gn rfl) rfl rfl rfl Tryd.sizeOf29 rfl (by simp) rfl
    simp only [nm3, seval]
    exact VE.nil _
  · kernel_rfl
  change VOk _ _ _ _ _
  refine vseq ?_
  refine vseq ?_
  apply vrp
  · apply VE.cons
    · first | exact ev_load rfl (gn rfl) rfl rfl Tryd.underlying29 rfl Tryd.sizeOf29 rfl rfl | exact ev_loadx rfl (gn rfl) rfl Tryd.underlying29 rfl Tryd.sizeOf29 (by assumption) rfl
    simp only [nm3, seval]
    apply VE.cons
    · first | exact ev_load rfl (gn rfl) rfl rfl Tryd.underlying29 rfl Tryd.sizeOf29 rfl rfl | exact ev_loadx rfl (gn rfl) rfl Tryd.underlying29 rfl Tryd.sizeOf29 (by assumption) rfl
    simp only [nm3, seval]
    apply VE.cons
    · exact ev_bin (c := .bool false) rfl (gn rfl) rfl rfl (fun w => z29_f a _ _ w)
    simp only [nm3, seval]
    apply VE.cons
    · exact ev_move rfl (gn rfl)
    simp only [nm3, seval]
    apply VE.cons
    · first | exact Ev.skip (fun _ => rfl) | exact ev_load rfl (fun _ => rfl) rfl rfl Tryd.underlying29 rfl Tryd.sizeOf29 rfl rfl | exact ev_loadx rfl (fun _ => rfl) rfl Tryd.underlying29 rfl Tryd.sizeOf29 (by assumption) rfl
    simp only [nm3, seval]
    apply VE.cons
    · first | exact Ev.skip (fun _ => rfl) | exact ev_load rfl (fun _ => rfl) rfl rfl Tryd.underlying29 rfl Tryd.sizeOf29 rfl rfl | exact ev_loadx rfl (fun _ => rfl) rfl Tryd.underlying29 rfl Tryd.sizeOf29 (by assumption) rfl
    simp only [nm3, seval]
    apply VE.cons
    · first | exact Ev.skip (fun _ => rfl) | refine ev_pure' (fun _ => rfl) (fun ρ w => by simp only [VS.act, SV.c, List.map_cons, List.map_nil]; go_simp; exact rfl) (fun _ _ => rfl)
    simp only [nm3, seval]
    apply VE.cons
    · first | exact ev_pick_t rfl (gn rfl) rfl rfl | exact ev_pick_f rfl (gn rfl) rfl rfl
    simp only [nm3, seval]
    exact VE.nil _
  · kernel_rfl
  change VOk _ _ _ _ _
  refine vcond_f rfl ?_
  refine vskip ?_
  change VOk _ _ _ _ _
  refine vseq ?_
  refine vseq ?_
  apply vrp
  · apply VE.cons
    · first | exact ev_load rfl (gn rfl) rfl rfl Tryd.underlying29 rfl Tryd.sizeOf29 rfl rfl | exact ev_loadx rfl (gn rfl) rfl Tryd.underlying29 rfl Tryd.sizeOf29 (by assumption) rfl
    simp only [nm3, seval]
    apply VE.cons
    · first | exact ev_load rfl (gn rfl) rfl rfl Tryd.underlying29 rfl Tryd.sizeOf29 rfl rfl | exact ev_loadx rfl (gn rfl) rfl Tryd.underlying29 rfl Tryd.sizeOf29 (by assumption) rfl
    simp only [nm3, seval]
    apply VE.cons
    · exact ev_bin (c := .bool true) rfl (gn rfl) rfl rfl (fun w => z29_t c _ _ w)
    simp only [nm3, seval]
    apply VE.cons
    · exact ev_move rfl (gn rfl)
    simp only [nm3, seval]
    apply VE.cons
    · first | exact Ev.skip (fun _ => rfl) | exact ev_load rfl (fun _ => rfl) rfl rfl Tryd.underlying29 rfl Tryd.sizeOf29 rfl rfl | exact ev_loadx rfl (fun _ => rfl) rfl Tryd.underlying29 rfl Tryd.sizeOf29 (by assumption) rfl
    simp only [nm3, seval]
    apply VE.cons
    · first | exact Ev.skip (fun _ => rfl) | exact ev_load rfl (fun _ => rfl) rfl rfl Tryd.underlying29 rfl Tryd.sizeOf29 rfl rfl | exact ev_loadx rfl (fun _ => rfl) rfl Tryd.underlying29 rfl Tryd.sizeOf29 (by assumption) rfl
    simp only [nm3, seval]
    apply VE.cons
    · first | exact Ev.skip (fun _ => rfl) | exact ev_bin (c := .bool true) rfl (fun _ => rfl) rfl rfl (fun w => z29_t d _ _ w)
    simp only [nm3, seval]
    apply VE.cons
    · first | exact ev_pick_t rfl (gn rfl) rfl rfl | exact ev_pick_f rfl (gn rfl) rfl rfl
    simp only [nm3, seval]
    exact VE.nil _
  · kernel_rfl
  change VOk _ _ _ _ _
  refine vcond_t rfl ?_
  refine vseq ?_
  apply vrd (by kernel_rfl)
  · apply VE.cons
    · first | exact ev_load rfl (gn rfl) rfl rfl Tryd.underlying29 rfl Tryd.sizeOf29 rfl rfl | exact ev_loadx rfl (gn rfl) rfl Tryd.underlying29 rfl Tryd.sizeOf29 (by assumption) rfl
    simp only [nm3, seval]
    apply VE.cons
    · first | exact ev_load rfl (gn rfl) rfl rfl Tryd.underlying29 rfl Tryd.sizeOf29 rfl rfl | exact ev_loadx rfl (gn rfl) rfl Tryd.underlying29 rfl Tryd.sizeOf29 (by assumption) rfl
    simp only [nm3, seval]
    apply VE.cons
    · exact ev_store rfl (gn rfl) rfl rfl rfl Tryd.sizeOf29 rfl (by simp) rfl
    simp only [nm3, seval]
    apply VE.cons
    · exact ev_store rfl (gn rfl) rfl rfl rfl Tryd.sizeOf29 rfl (by simp) rfl
    simp only [nm3, seval]
    exact VE.nil _
  · kernel_rfl
  change VOk _ _ _ _ _
  refine vret ?_
  refine post_ret (res2 Tryd.results25 (rv_cell rfl rfl Tryd.underlying29 rfl Tryd.sizeOf29 rfl rfl) (rv_cell rfl rfl Tryd.underlying29 rfl Tryd.sizeOf29 rfl rfl)) ?_
  intro w' hg
  exact ⟨rfl, hg⟩
theorem radd_q_y (x1 y1 x2 y2 : F) (w : World) (a : x1 = 0) (b : y1 ≠ 0) (c : x2 = 0) (d : y2 = 0) : Calls Tryd.prog 25 #[NF x1, NF y1, NF x2, NF y2] w fun e w' => e = .returned (.tuple #[NF x1, NF y1]) ∧ Gw w w' := by
  go_enter Tryd.func25, Tryd.ntmps25
  refine ve_go ?_
  simp only [List.map_cons, List.map_nil]
  refine vseq ?_
  apply vrp
  · apply VE.cons
    · exact ev_box rfl rfl (gn rfl) rfl
    simp only [nm3, seval]
    apply VE.cons
    · exact ev_box rfl rfl (gn rfl) rfl
    simp only [nm3, seval]
    apply VE.cons
    · exact ev_box rfl rfl (gn rfl) rfl
    simp only [nm3, seval]
    apply VE.cons
    · exact ev_box rfl rfl (gn rfl) rfl
    simp only [nm3, seval]
    apply VE.cons
    · exact ev_alloc rfl rfl (gn rfl) Tryd.zeroValue29
    simp only [nm3, seval]
    apply VE.cons
    · exact ev_alloc rfl rfl (gn rfl) Tryd.zeroValue29
    simp only [nm3, seval]
    exact VE.nil _
  · kernel_rfl
  change VOk _ _ _ _ _
  refine vseq ?_
  apply vrp
  · apply VE.cons
    · exact ev_call rfl (gn rfl) rfl (en_of Tryd.func28 (by kernel_rfl) rfl) (fun w' hw' => c_P w')
    simp only [nm3, seval]
    apply VE.cons
    · exact ev_alloc rfl rfl (gn rfl) Tryd.zeroValue29
    simp only [nm3, seval]
    apply VE.cons
    · exact ev_store rfl (gn rfl) rfl rfl rfl Tryd.sizeOf29 rfl (by simp) rfl
    simp only [nm3, seval]
    exact VE.nil _
  · kernel_rfl
  change VOk _ _ _ _ _
  refine vseq ?_
  apply vrp
  · apply VE.cons
    · exact ev_build rfl (gn rfl) rfl built29_0
    simp only [nm3, seval]
    apply VE.cons
    · exact ev_alloc rfl rfl (gn rfl) Tryd.zeroValue29
    simp only [nm3, seval]
    apply VE.cons
    · exact ev_store rfl (gn rfl) rfl rfl rfl Tryd.sizeOf29 rfl (by simp) rfl
    simp only [nm3, seval]
    exact VE.nil _
  · kernel_rfl
  change VOk _ _ _ _ _
  refine vseq ?_
  refine vseq ?_
  apply vrp
  · apply VE.cons
    · first | exact ev_load rfl (gn rfl) rfl rfl Tryd.underlying29 rfl Tryd.sizeOf29 rfl rfl | exact ev_loadx rfl (gn rfl) rfl Tryd.underlying29 rfl Tryd.sizeOf29 (by assumption) rfl
    simp only [nm3, seval]
    apply VE.cons
    · first | exact ev_load rfl (gn rfl) rfl rfl Tryd.underlying29 rfl Tryd.sizeOf29 rfl rfl | exact ev_loadx rfl (gn rfl) rfl Tryd.underlying29 rfl Tryd.sizeOf29 (by assumption) rfl
    simp only [nm3, seval]
    apply VE.cons
    · exact ev_bin (c := .bool true) rfl (gn rfl) rfl rfl (fun w => z29_t a _ _ w)
    simp only [nm3, seval]
    apply VE.cons
    · exact ev_move rfl (gn rfl)
    simp only [nm3, seval]
    apply VE.cons
    · first | exact Ev.skip (fun _ => rfl) | exact ev_load rfl (fun _ => rfl) rfl rfl Tryd.underlying29 rfl Tryd.sizeOf29 rfl rfl | exact ev_loadx rfl (fun _ => rfl) rfl Tryd.underlying29 rfl Tryd.sizeOf29 (by assumption) rfl
    simp only [nm3, seval]
    apply VE.cons
    · first | exact Ev.skip (fun _ => rfl) | exact ev_load rfl (fun _ => rfl) rfl rfl Tryd.underlying29 rfl Tryd.sizeOf29 rfl rfl | exact ev_loadx rfl (fun _ => rfl) rfl Tryd.underlying29 rfl Tryd.sizeOf29 (by assumption) rfl
    simp only [nm3, seval]
    apply VE.cons
    · first | exact Ev.skip (fun _ => rfl) | exact ev_bin (c := .bool false) rfl (fun _ => rfl) rfl rfl (fun w => z29_f b _ _ w)
    simp only [nm3, seval]
    apply VE.cons
    · first | exact ev_pick_t rfl (gn rfl) rfl rfl | exact ev_pick_f rfl (gn rfl) rfl rfl
    simp only [nm3, seval]
    exact VE.nil _
  · kernel_rfl
  change VOk _ _ _ _ _
  refine vcond_f rfl ?_
  refine vskip ?_
  change VOk _ _ _ _ _
  refine vseq ?_
  refine vseq ?_
  apply vrp
  · apply VE.cons
    · first | exact ev_load rfl (gn rfl) rfl rfl Tryd.underlying29 rfl Tryd.sizeOf29 rfl rfl | exact ev_loadx rfl (gn rfl) rfl Tryd.underlying29 rfl Tryd.sizeOf29 (by assumption) rfl
    simp only [nm3, seval]
    apply VE.cons
    · first | exact ev_load rfl (gn rfl) rfl rfl Tryd.underlying29 rfl Tryd.sizeOf29 rfl rfl | exact ev_loadx rfl (gn rfl) rfl Tryd.underlying29 rfl Tryd.sizeOf29 (by assumption) rfl
    simp only [nm3, seval]
    apply VE.cons
    · exact ev_bin (c := .bool true) rfl (gn rfl) rfl rfl (fun w => z29_t c _ _ w)
    simp only [nm3, seval]
    apply VE.cons
    · exact ev_move rfl (gn rfl)
    simp only [nm3, seval]
    apply VE.cons
    · first | exact Ev.skip (fun _ => rfl) | exact ev_load rfl (fun _ => rfl) rfl rfl Tryd.underlying29 rfl Tryd.sizeOf29 rfl rfl | exact ev_loadx rfl (fun _ => rfl) rfl Tryd.underlying29 rfl Tryd.sizeOf29 (by assumption) rfl
    simp only [nm3, seval]
    apply VE.cons
    · first | exact Ev.skip (fun _ => rfl) | exact ev_load rfl (fun _ => rfl) rfl rfl Tryd.underlying29 rfl Tryd.sizeOf29 rfl rfl | exact ev_loadx rfl (fun _ => rfl) rfl Tryd.underlying29 rfl Tryd.sizeOf29 (by assumption) rfl
    simp only [nm3, seval]
    apply VE.cons
    · first | exact Ev.skip (fun _ => rfl) | exact ev_bin (c := .bool true) rfl (fun _ => rfl) rfl rfl (fun w => z29_t d _ _ w)
    simp only [nm3, seval]
    apply VE.cons
    · first | exact ev_pick_t rfl (gn rfl) rfl rfl | exact ev_pick_f rfl (gn rfl) rfl rfl
    simp only [nm3, seval]
    exact VE.nil _
  · kernel_rfl
  change VOk _ _ _ _ _
  refine vcond_t rfl ?_
  refine vseq ?_
  apply vrd (by kernel_rfl)
  · apply VE.cons
    · first | exact ev_load rfl (gn rfl) rfl rfl Tryd.underlying29 rfl Tryd.sizeOf29 rfl rfl | exact ev_loadx rfl (gn rfl) rfl Tryd.underlying29 rfl Tryd.sizeOf29 (by assumption) rfl
    simp only [nm3, seval]
    apply VE.cons
    · first | exact ev_load rfl (gn rfl) rfl rfl Tryd.underlying29 rfl Tryd.sizeOf29 rfl rfl | exact ev_loadx rfl (gn rfl) rfl Tryd.underlying29 rfl Tryd.sizeOf29 (by assumption) rfl
    simp only [nm3, seval]
    apply VE.cons
    · exact ev_store rfl (gn rfl) rfl rfl rfl Tryd.sizeOf29 rfl (by simp) rfl
    simp only [nm3, seval]
    apply VE.cons
    · exact ev_store rfl (gn rfl) rfl rfl rfl Tryd.sizeOf29 rfl (by simp) rfl
    simp only [nm3, seval]
    exact VE.nil _
  · kernel_rfl
  change VOk _ _ _ _ _
  refine vret ?_
  refine post_ret (res2 Tryd.results25 (rv_cell rfl rfl Tryd.underlying29 rfl Tryd.sizeOf29 rfl rfl) (rv_cell rfl rfl Tryd.underlying29 rfl Tryd.sizeOf29 rfl rfl)) ?_
  intro w' hg
  exact ⟨rfl, hg⟩
theorem radd_ne_xx (x1 y1 x2 y2 i s v86 v89 x3 v98 v100 y3 : F) (w : World) (a : x1 ≠ 0) (c : x2 ≠ 0) (hx : x1 ≠ x2) (hi : (x2 - x1) * i = 1) (e82 : (y2 - y1) * i = s) (e86 : s * s = v86) (e89 : v86 - x1 = v89) (e92 : v89 - x2 = x3) (e98 : x1 - x3 = v98) (e100 : s * v98 = v100) (e103 : v100 - y1 = y3) : Calls Tryd.prog 25 #[NF x1, NF y1, NF x2, NF y2] w fun e w' => e = .returned (.tuple #[NF x3, NF y3]) ∧ Gw w w' := by
  go_enter Tryd.func25, Tryd.ntmps25
  refine ve_go ?_
  simp only [List.map_cons, List.map_nil]
  refine vseq ?_
  apply vrp
  · apply VE.cons
    · exact ev_box rfl rfl (gn rfl) rfl
    simp only [nm3, seval]
    apply VE.cons
    · exact ev_box rfl rfl (gn rfl) rfl
    simp only [nm3, seval]
    apply VE.cons
    · exact ev_box rfl rfl (gn rfl) rfl
    simp only [nm3, seval]
    apply VE.cons
    · exact ev_box rfl rfl (gn rfl) rfl
    simp only [nm3, seval]
    apply VE.cons
    · exact ev_alloc rfl rfl (gn rfl) Tryd.zeroValue29
    simp only [nm3, seval]
    apply VE.cons
    · exact ev_alloc rfl rfl (gn rfl) Tryd.zeroValue29
    simp only [nm3, seval]
    exact VE.nil _
  · kernel_rfl
  change VOk _ _ _ _ _
  refine vseq ?_
  apply vrp
  · apply VE.cons
    · exact ev_call rfl (gn rfl) rfl (en_of Tryd.func28 (by kernel_rfl) rfl) (fun w' hw' => c_P w')
    simp only [nm3, seval]
    apply VE.cons
    · exact ev_alloc rfl rfl (gn rfl) Tryd.zeroValue29
    simp only [nm3, seval]
    apply VE.cons
    · exact ev_store rfl (gn rfl) rfl rfl rfl Tryd.sizeOf29 rfl (by simp) rfl
    simp only [nm3, seval]
    exact VE.nil _
  · kernel_rfl
  change VOk _ _ _ _ _
  refine vseq ?_
  apply vrp
  · apply VE.cons
    · exact ev_build rfl (gn rfl) rfl built29_0
    simp only [nm3, seval]
    apply VE.cons
    · exact ev_alloc rfl rfl (gn rfl) Tryd.zeroValue29
    simp only [nm3, seval]
    apply VE.cons
    · exact ev_store rfl (gn rfl) rfl rfl rfl Tryd.sizeOf29 rfl (by simp) rfl
    simp only [nm3, seval]
    exact VE.nil _
  · kernel_rfl
  change VOk _ _ _ _ _
  refine vseq ?_
  refine vseq ?_
  apply vrp
  · apply VE.cons
    · first | exact ev_load rfl (gn rfl) rfl rfl Tryd.underlying29 rfl Tryd.sizeOf29 rfl rfl | exact ev_loadx rfl (gn rfl) rfl Tryd.underlying29 rfl Tryd.sizeOf29 (by assumption) rfl
    simp only [nm3, seval]
    apply VE.cons
    · first | exact ev_load rfl (gn rfl) rfl rfl Tryd.underlying29 rfl Tryd.sizeOf29 rfl rfl | exact ev_loadx rfl (gn rfl) rfl Tryd.underlying29 rfl Tryd.sizeOf29 (by assumption) rfl
    simp only [nm3, seval]
    apply VE.cons
    · exact ev_bin (c := .bool false) rfl (gn rfl) rfl rfl (fun w => z29_f a _ _ w)
    simp only [nm3, seval]
    apply VE.cons
    · exact ev_move rfl (gn rfl)
    simp only [nm3, seval]
    apply VE.cons
    · first | exact Ev.skip (fun _ => rfl) | exact ev_load rfl (fun _ => rfl) rfl rfl Tryd.underlying29 rfl Tryd.sizeOf29 rfl rfl | exact ev_loadx rfl (fun _ => rfl) rfl Tryd.underlying29 rfl Tryd.sizeOf29 (by assumption) rfl
    simp only [nm3, seval]
    apply VE.cons
    · first | exact Ev.skip (fun _ => rfl) | exact ev_load rfl (fun _ => rfl) rfl rfl Tryd.underlying29 rfl Tryd.sizeOf29 rfl rfl | exact ev_loadx rfl (fun _ => rfl) rfl Tryd.underlying29 rfl Tryd.sizeOf29 (by assumption) rfl
    simp only [nm3, seval]
    apply VE.cons
    · first | exact Ev.skip (fun _ => rfl) | refine ev_pure' (fun _ => rfl) (fun ρ w => by simp only [VS.act, SV.c, List.map_cons, List.map_nil]; go_simp; exact rfl) (fun _ _ => rfl)
    simp only [nm3, seval]
    apply VE.cons
    · first | exact ev_pick_t rfl (gn rfl) rfl rfl | exact ev_pick_f rfl (gn rfl) rfl rfl
    simp only [nm3, seval]
    exact VE.nil _
  · kernel_rfl
  change VOk _ _ _ _ _
  refine vcond_f rfl ?_
  refine vskip ?_
  change VOk _ _ _ _ _
  refine vseq ?_
  refine vseq ?_
  apply vrp
  · apply VE.cons
    · first | exact ev_load rfl (gn rfl) rfl rfl Tryd.underlying29 rfl Tryd.sizeOf29 rfl rfl | exact ev_loadx rfl (gn rfl) rfl Tryd.underlying29 rfl Tryd.sizeOf29 (by assumption) rfl
    simp only [nm3, seval]
    apply VE.cons
    · first | exact ev_load rfl (gn rfl) rfl rfl Tryd.underlying29 rfl Tryd.sizeOf29 rfl rfl | exact ev_loadx rfl (gn rfl) rfl Tryd.underlying29 rfl Tryd.sizeOf29 (by assumption) rfl
    simp only [nm3, seval]
    apply VE.cons
    · exact ev_bin (c := .bool false) rfl (gn rfl) rfl rfl (fun w => z29_f c _ _ w)
    simp only [nm3, seval]
    apply VE.cons
    · exact ev_move rfl (gn rfl)
    simp only [nm3, seval]
    apply VE.cons
    · first | exact Ev.skip (fun _ => rfl) | exact ev_load rfl (fun _ => rfl) rfl rfl Tryd.underlying29 rfl Tryd.sizeOf29 rfl rfl | exact ev_loadx rfl (fun _ => rfl) rfl Tryd.underlying29 rfl Tryd.sizeOf29 (by assumption) rfl
    simp only [nm3, seval]
    apply VE.cons
    · first | exact Ev.skip (fun _ => rfl) | exact ev_load rfl (fun _ => rfl) rfl rfl Tryd.underlying29 rfl Tryd.sizeOf29 rfl rfl | exact ev_loadx rfl (fun _ => rfl) rfl Tryd.underlying29 rfl Tryd.sizeOf29 (by assumption) rfl
    simp only [nm3, seval]
    apply VE.cons
    · first | exact Ev.skip (fun _ => rfl) | refine ev_pure' (fun _ => rfl) (fun ρ w => by simp only [VS.act, SV.c, List.map_cons, List.map_nil]; go_simp; exact rfl) (fun _ _ => rfl)
    simp only [nm3, seval]
    apply VE.cons
    · first | exact ev_pick_t rfl (gn rfl) rfl rfl | exact ev_pick_f rfl (gn rfl) rfl rfl
    simp only [nm3, seval]
    exact VE.nil _
  · kernel_rfl
  change VOk _ _ _ _ _
  refine vcond_f rfl ?_
  refine vskip ?_
  change VOk _ _ _ _ _
  refine vseq ?_
  apply vrd (by kernel_rfl)
  · apply VE.cons
    · first | exact ev_load rfl (gn rfl) rfl rfl Tryd.underlying29 rfl Tryd.sizeOf29 rfl rfl | exact ev_loadx rfl (gn rfl) rfl Tryd.underlying29 rfl Tryd.sizeOf29 (by assumption) rfl
    simp only [nm3, seval]
    apply VE.cons
    · first | exact ev_load rfl (gn rfl) rfl rfl Tryd.underlying29 rfl Tryd.sizeOf29 rfl rfl | exact ev_loadx rfl (gn rfl) rfl Tryd.underlying29 rfl Tryd.sizeOf29 (by assumption) rfl
    simp only [nm3, seval]
    apply VE.cons
    · first | exact ev_load rfl (gn rfl) rfl rfl Tryd.underlying29 rfl Tryd.sizeOf29 rfl rfl | exact ev_loadx rfl (gn rfl) rfl Tryd.underlying29 rfl Tryd.sizeOf29 (by assumption) rfl
    simp only [nm3, seval]
    apply VE.cons
    · exact ev_call rfl (gn rfl) rfl (en_of Tryd.func23 (by kernel_rfl) rfl) (fun w' hw' => rsubF _ _ w')
    simp only [nm3, seval]
    apply VE.cons
    · first | exact ev_load rfl (gn rfl) rfl rfl Tryd.underlying29 rfl Tryd.sizeOf29 rfl rfl | exact ev_loadx rfl (gn rfl) rfl Tryd.underlying29 rfl Tryd.sizeOf29 (by assumption) rfl
    simp only [nm3, seval]
    apply VE.cons
    · first | exact ev_load rfl (gn rfl) rfl rfl Tryd.underlying29 rfl Tryd.sizeOf29 rfl rfl | exact ev_loadx rfl (gn rfl) rfl Tryd.underlying29 rfl Tryd.sizeOf29 (by assumption) rfl
    simp only [nm3, seval]
    apply VE.cons
    · first | exact ev_load rfl (gn rfl) rfl rfl Tryd.underlying29 rfl Tryd.sizeOf29 rfl rfl | exact ev_loadx rfl (gn rfl) rfl Tryd.underlying29 rfl Tryd.sizeOf29 (by assumption) rfl
    simp only [nm3, seval]
    apply VE.cons
    · exact ev_call rfl (gn rfl) rfl (en_of Tryd.func23 (by kernel_rfl) rfl) (fun w' hw' => rsubF _ _ w')
    simp only [nm3, seval]
    apply VE.cons
    · exact ev_alloc rfl rfl (gn rfl) Tryd.zeroValue29
    simp only [nm3, seval]
    apply VE.cons
    · exact ev_alloc rfl rfl (gn rfl) Tryd.zeroValue29
    simp only [nm3, seval]
    apply VE.cons
    · exact ev_store rfl (gn rfl) rfl rfl rfl Tryd.sizeOf29 rfl (by simp) rfl
    simp only [nm3, seval]
    apply VE.cons
    · exact ev_store rfl (gn rfl) rfl rfl rfl Tryd.sizeOf29 rfl (by simp) rfl
    simp only [nm3, seval]
    exact VE.nil _
  · kernel_rfl
  change VOk _ _ _ _ _
  refine vseq ?_
  refine vseq ?_
  apply vrp
  · apply VE.cons
    · first | exact ev_load rfl (gn rfl) rfl rfl Tryd.underlying29 rfl Tryd.sizeOf29 rfl rfl | exact ev_loadx rfl (gn rfl) rfl Tryd.underlying29 rfl Tryd.sizeOf29 (by assumption) rfl
    simp only [nm3, seval]
    apply VE.cons
    · first | exact ev_load rfl (gn rfl) rfl rfl Tryd.underlying29 rfl Tryd.sizeOf29 rfl rfl | exact ev_loadx rfl (gn rfl) rfl Tryd.underlying29 rfl Tryd.sizeOf29 (by assumption) rfl
    simp only [nm3, seval]
    apply VE.cons
    · exact ev_bin (c := .bool false) rfl (gn rfl) rfl rfl (fun w => e29_f hx _ _ w)
    simp only [nm3, seval]
    exact VE.nil _
  · kernel_rfl
  change VOk _ _ _ _ _
  refine vcond_f rfl ?_
  refine vskip ?_
  change VOk _ _ _ _ _
  refine vseq ?_
  apply vrp
  · apply VE.cons
    · first | exact ev_load rfl (gn rfl) rfl rfl Tryd.underlying29 rfl Tryd.sizeOf29 rfl rfl | exact ev_loadx rfl (gn rfl) rfl Tryd.underlying29 rfl Tryd.sizeOf29 (by assumption) rfl
    simp only [nm3, seval]
    apply VE.cons
    · exact ev_build rfl (gn rfl) rfl built29_two
    simp only [nm3, seval]
    apply VE.cons
    · first | exact ev_load rfl (gn rfl) rfl rfl Tryd.underlying29 rfl Tryd.sizeOf29 rfl rfl | exact ev_loadx rfl (gn rfl) rfl Tryd.underlying29 rfl Tryd.sizeOf29 (by assumption) rfl
    simp only [nm3, seval]
    apply VE.cons
    · exact ev_call rfl (gn rfl) rfl (en_of Tryd.func23 (by kernel_rfl) rfl) (fun w' hw' => rsub2 w')
    simp only [nm3, seval]
    apply VE.cons
    · exact ev_alloc rfl rfl (gn rfl) Tryd.zeroValue29
    simp only [nm3, seval]
    apply VE.cons
    · exact ev_store rfl (gn rfl) rfl rfl rfl Tryd.sizeOf29 rfl (by simp) rfl
    simp only [nm3, seval]
    exact VE.nil _
  · kernel_rfl
  change VOk _ _ _ _ _
  refine vseq ?_
  apply vrd (by kernel_rfl)
  · apply VE.cons
    · first | exact ev_load rfl (gn rfl) rfl rfl Tryd.underlying29 rfl Tryd.sizeOf29 rfl rfl | exact ev_loadx rfl (gn rfl) rfl Tryd.underlying29 rfl Tryd.sizeOf29 (by assumption) rfl
    simp only [nm3, seval]
    apply VE.cons
    · first | exact ev_load rfl (gn rfl) rfl rfl Tryd.underlying29 rfl Tryd.sizeOf29 rfl rfl | exact ev_loadx rfl (gn rfl) rfl Tryd.underlying29 rfl Tryd.sizeOf29 (by assumption) rfl
    simp only [nm3, seval]
    apply VE.cons
    · first | exact ev_load rfl (gn rfl) rfl rfl Tryd.underlying29 rfl Tryd.sizeOf29 rfl rfl | exact ev_loadx rfl (gn rfl) rfl Tryd.underlying29 rfl Tryd.sizeOf29 (by assumption) rfl
    simp only [nm3, seval]
    apply VE.cons
    · first | exact ev_load rfl (gn rfl) rfl rfl Tryd.underlying29 rfl Tryd.sizeOf29 rfl rfl | exact ev_loadx rfl (gn rfl) rfl Tryd.underlying29 rfl Tryd.sizeOf29 (by assumption) rfl
    simp only [nm3, seval]
    apply VE.cons
    · exact ev_call rfl (gn rfl) rfl (en_of Tryd.func48 (by kernel_rfl) rfl) (fun w' hw' => rpowF hi w')
    simp only [nm3, seval]
    apply VE.cons
    · first | exact ev_load rfl (gn rfl) rfl rfl Tryd.underlying29 rfl Tryd.sizeOf29 rfl rfl | exact ev_loadx rfl (gn rfl) rfl Tryd.underlying29 rfl Tryd.sizeOf29 (by assumption) rfl
    simp only [nm3, seval]
    apply VE.cons
    · exact ev_call rfl (gn rfl) rfl (en_of Tryd.func38 (by kernel_rfl) rfl) (fun w' hw' => rmulE e82 w')
    simp only [nm3, seval]
    apply VE.cons
    · exact ev_alloc rfl rfl (gn rfl) Tryd.zeroValue29
    simp only [nm3, seval]
    apply VE.cons
    · exact ev_store rfl (gn rfl) rfl rfl rfl Tryd.sizeOf29 rfl (by simp) rfl
    simp only [nm3, seval]
    exact VE.nil _
  · kernel_rfl
  change VOk _ _ _ _ _
  refine vseq ?_
  apply vrd (by kernel_rfl)
  · apply VE.cons
    · first | exact ev_load rfl (gn rfl) rfl rfl Tryd.underlying29 rfl Tryd.sizeOf29 rfl rfl | exact ev_loadx rfl (gn rfl) rfl Tryd.underlying29 rfl Tryd.sizeOf29 (by assumption) rfl
    simp only [nm3, seval]
    apply VE.cons
    · first | exact ev_load rfl (gn rfl) rfl rfl Tryd.underlying29 rfl Tryd.sizeOf29 rfl rfl | exact ev_loadx rfl (gn rfl) rfl Tryd.underlying29 rfl Tryd.sizeOf29 (by assumption) rfl
    simp only [nm3, seval]
    apply VE.cons
    · first | exact ev_load rfl (gn rfl) rfl rfl Tryd.underlying29 rfl Tryd.sizeOf29 rfl rfl | exact ev_loadx rfl (gn rfl) rfl Tryd.underlying29 rfl Tryd.sizeOf29 (by assumption) rfl
    simp only [nm3, seval]
    apply VE.cons
    · exact ev_call rfl (gn rfl) rfl (en_of Tryd.func38 (by kernel_rfl) rfl) (fun w' hw' => rmulE e86 w')
    simp only [nm3, seval]
    apply VE.cons
    · first | exact ev_load rfl (gn rfl) rfl rfl Tryd.underlying29 rfl Tryd.sizeOf29 rfl rfl | exact ev_loadx rfl (gn rfl) rfl Tryd.underlying29 rfl Tryd.sizeOf29 (by assumption) rfl
    simp only [nm3, seval]
    apply VE.cons
    · first | exact ev_load rfl (gn rfl) rfl rfl Tryd.underlying29 rfl Tryd.sizeOf29 rfl rfl | exact ev_loadx rfl (gn rfl) rfl Tryd.underlying29 rfl Tryd.sizeOf29 (by assumption) rfl
    simp only [nm3, seval]
    apply VE.cons
    · exact ev_call rfl (gn rfl) rfl (en_of Tryd.func23 (by kernel_rfl) rfl) (fun w' hw' => rsubE e89 w')
    simp only [nm3, seval]
    apply VE.cons
    · first | exact ev_load rfl (gn rfl) rfl rfl Tryd.underlying29 rfl Tryd.sizeOf29 rfl rfl | exact ev_loadx rfl (gn rfl) rfl Tryd.underlying29 rfl Tryd.sizeOf29 (by assumption) rfl
    simp only [nm3, seval]
    apply VE.cons
    · first | exact ev_load rfl (gn rfl) rfl rfl Tryd.underlying29 rfl Tryd.sizeOf29 rfl rfl | exact ev_loadx rfl (gn rfl) rfl Tryd.underlying29 rfl Tryd.sizeOf29 (by assumption) rfl
    simp only [nm3, seval]
    apply VE.cons
    · exact ev_call rfl (gn rfl) rfl (en_of Tryd.func23 (by kernel_rfl) rfl) (fun w' hw' => rsubE e92 w')
    simp only [nm3, seval]
    apply VE.cons
    · exact ev_alloc rfl rfl (gn rfl) Tryd.zeroValue29
    simp only [nm3, seval]
    apply VE.cons
    · exact ev_store rfl (gn rfl) rfl rfl rfl Tryd.sizeOf29 rfl (by simp) rfl
    simp only [nm3, seval]
    exact VE.nil _
  · kernel_rfl
  change VOk _ _ _ _ _
  refine vseq ?_
  apply vrd (by kernel_rfl)
  · apply VE.cons
    · first | exact ev_load rfl (gn rfl) rfl rfl Tryd.underlying29 rfl Tryd.sizeOf29 rfl rfl | exact ev_loadx rfl (gn rfl) rfl Tryd.underlying29 rfl Tryd.sizeOf29 (by assumption) rfl
    simp only [nm3, seval]
    apply VE.cons
    · first | exact ev_load rfl (gn rfl) rfl rfl Tryd.underlying29 rfl Tryd.sizeOf29 rfl rfl | exact ev_loadx rfl (gn rfl) rfl Tryd.underlying29 rfl Tryd.sizeOf29 (by assumption) rfl
    simp only [nm3, seval]
    apply VE.cons
    · first | exact ev_load rfl (gn rfl) rfl rfl Tryd.underlying29 rfl Tryd.sizeOf29 rfl rfl | exact ev_loadx rfl (gn rfl) rfl Tryd.underlying29 rfl Tryd.sizeOf29 (by assumption) rfl
    simp only [nm3, seval]
    apply VE.cons
    · first | exact ev_load rfl (gn rfl) rfl rfl Tryd.underlying29 rfl Tryd.sizeOf29 rfl rfl | exact ev_loadx rfl (gn rfl) rfl Tryd.underlying29 rfl Tryd.sizeOf29 (by assumption) rfl
    simp only [nm3, seval]
    apply VE.cons
    · first | exact ev_load rfl (gn rfl) rfl rfl Tryd.underlying29 rfl Tryd.sizeOf29 rfl rfl | exact ev_loadx rfl (gn rfl) rfl Tryd.underlying29 rfl Tryd.sizeOf29 (by assumption) rfl
    simp only [nm3, seval]
    apply VE.cons
    · exact ev_call rfl (gn rfl) rfl (en_of Tryd.func23 (by kernel_rfl) rfl) (fun w' hw' => rsubE e98 w')
    simp only [nm3, seval]
    apply VE.cons
    · first | exact ev_load rfl (gn rfl) rfl rfl Tryd.underlying29 rfl Tryd.sizeOf29 rfl rfl | exact ev_loadx rfl (gn rfl) rfl Tryd.underlying29 rfl Tryd.sizeOf29 (by assumption) rfl
    simp only [nm3, seval]
    apply VE.cons
    · exact ev_call rfl (gn rfl) rfl (en_of Tryd.func38 (by kernel_rfl) rfl) (fun w' hw' => rmulE e100 w')
    simp only [nm3, seval]
    apply VE.cons
    · first | exact ev_load rfl (gn rfl) rfl rfl Tryd.underlying29 rfl Tryd.sizeOf29 rfl rfl | exact ev_loadx rfl (gn rfl) rfl Tryd.underlying29 rfl Tryd.sizeOf29 (by assumption) rfl
    simp only [nm3, seval]
    apply VE.cons
    · first | exact ev_load rfl (gn rfl) rfl rfl Tryd.underlying29 rfl Tryd.sizeOf29 rfl rfl | exact ev_loadx rfl (gn rfl) rfl Tryd.underlying29 rfl Tryd.sizeOf29 (by assumption) rfl
    simp only [nm3, seval]
    apply VE.cons
    · exact ev_call rfl (gn rfl) rfl (en_of Tryd.func23 (by kernel_rfl) rfl) (fun w' hw' => rsubE e103 w')
    simp only [nm3, seval]
    apply VE.cons
    · exact ev_store rfl (gn rfl) rfl rfl rfl Tryd.sizeOf29 rfl (by simp) rfl
    simp only [nm3, seval]
    apply VE.cons
    · exact ev_store rfl (gn rfl) rfl rfl rfl Tryd.sizeOf29 rfl (by simp) rfl
    simp only [nm3, seval]
    exact VE.nil _
  · kernel_rfl
  change VOk _ _ _ _ _
  refine vret ?_
  refine post_ret (res2 Tryd.results25 (rv_cell rfl rfl Tryd.underlying29 rfl Tryd.sizeOf29 rfl rfl) (rv_cell rfl rfl Tryd.underlying29 rfl Tryd.sizeOf29 rfl rfl)) ?_
  intro w' hg
  exact ⟨rfl, hg⟩
theorem radd_inf_xx (x1 y1 x2 y2 : F) (w : World) (a : x1 ≠ 0) (c : x2 ≠ 0) (hx : x1 = x2) (hs : y1 + y2 = 0) : Calls Tryd.prog 25 #[NF x1, NF y1, NF x2, NF y2] w fun e w' => e = .returned (.tuple #[.agg #[.int .u64 0, .int .u64 0, .int .u64 0, .int .u64 0], .agg #[.int .u64 0, .int .u64 0, .int .u64 0, .int .u64 0]]) ∧ Gw w w' := by
  go_enter Tryd.func25, Tryd.ntmps25
  refine ve_go ?_
  simp only [List.map_cons, List.map_nil]
  refine vseq ?_
  apply vrp
  · apply VE.cons
    · exact ev_box rfl rfl (gn rfl) rfl
    simp only [nm3, seval]
    apply VE.cons
    · exact ev_box rfl rfl (gn rfl) rfl
    simp only [nm3, seval]
    apply VE.cons
    · exact ev_box rfl rfl (gn rfl) rfl
    simp only [nm3, seval]
    apply VE.cons
    · exact ev_box rfl rfl (gn rfl) rfl
    simp only [nm3, seval]
    apply VE.cons
    · exact ev_alloc rfl rfl (gn rfl) Tryd.zeroValue29
    simp only [nm3, seval]
    apply VE.cons
    · exact ev_alloc rfl rfl (gn rfl) Tryd.zeroValue29
    simp only [nm3, seval]
    exact VE.nil _
  · kernel_rfl
  change VOk _ _ _ _ _
  refine vseq ?_
  apply vrp
  · apply VE.cons
    · exact ev_call rfl (gn rfl) rfl (en_of Tryd.func28 (by kernel_rfl) rfl) (fun w' hw' => c_P w')
    simp only [nm3, seval]
    apply VE.cons
    · exact ev_alloc rfl rfl (gn rfl) Tryd.zeroValue29
    simp only [nm3, seval]
    apply VE.cons
    · exact ev_store rfl (gn rfl) rfl rfl rfl Tryd.sizeOf29 rfl (by simp) rfl
    simp only [nm3, seval]
    exact VE.nil _
  · kernel_rfl
  change VOk _ _ _ _ _
  refine vseq ?_
  apply vrp
  · apply VE.cons
    · exact ev_build rfl (gn rfl) rfl built29_0
    simp only [nm3, seval]
    apply VE.cons
    · exact ev_alloc rfl rfl (gn rfl) Tryd.zeroValue29
    simp only [nm3, seval]
    apply VE.cons
    · exact ev_store rfl (gn rfl) rfl rfl rfl Tryd.sizeOf29 rfl (by simp) rfl
    simp only [nm3, seval]
    exact VE.nil _
  · kernel_rfl
  change VOk _ _ _ _ _
  refine vseq ?_
  refine vseq ?_
  apply vrp
  · apply VE.cons
    · first | exact ev_load rfl (gn rfl) rfl rfl Tryd.underlying29 rfl Tryd.sizeOf29 rfl rfl | exact ev_loadx rfl (gn rfl) rfl Tryd.underlying29 rfl Tryd.sizeOf29 (by assumption) rfl
    simp only [nm3, seval]
    apply VE.cons
    · first | exact ev_load rfl (gn rfl) rfl rfl Tryd.underlying29 rfl Tryd.sizeOf29 rfl rfl | exact ev_loadx rfl (gn rfl) rfl Tryd.underlying29 rfl Tryd.sizeOf29 (by assumption) rfl
    simp only [nm3, seval]
    apply VE.cons
    · exact ev_bin (c := .bool false) rfl (gn rfl) rfl rfl (fun w => z29_f a _ _ w)
    simp only [nm3, seval]
    apply VE.cons
    · exact ev_move rfl (gn rfl)
    simp only [nm3, seval]
    apply VE.cons
    · first | exact Ev.skip (fun _ => rfl) | exact ev_load rfl (fun _ => rfl) rfl rfl Tryd.underlying29 rfl Tryd.sizeOf29 rfl rfl | exact ev_loadx rfl (fun _ => rfl) rfl Tryd.underlying29 rfl Tryd.sizeOf29 (by assumption) rfl
    simp only [nm3, seval]
    apply VE.cons
    · first | exact Ev.skip (fun _ => rfl) | exact ev_load rfl (fun _ => rfl) rfl rfl Tryd.underlying29 rfl Tryd.sizeOf29 rfl rfl | exact ev_loadx rfl (fun _ => rfl) rfl Tryd.underlying29 rfl Tryd.sizeOf29 (by assumption) rfl
    simp only [nm3, seval]
    apply VE.cons
    · first | exact Ev.skip (fun _ => rfl) | refine ev_pure' (fun _ => rfl) (fun ρ w => by simp only [VS.act, SV.c, List.map_cons, List.map_nil]; go_simp; exact rfl) (fun _ _ => rfl)
    simp only [nm3, seval]
    apply VE.cons
    · first | exact ev_pick_t rfl (gn rfl) rfl rfl | exact ev_pick_f rfl (gn rfl) rfl rfl
    simp only [nm3, seval]
    exact VE.nil _
  · kernel_rfl
  change VOk _ _ _ _ _
  refine vcond_f rfl ?_
  refine vskip ?_
  change VOk _ _ _ _ _
  refine vseq ?_
  refine vseq ?_
  apply vrp
  · apply VE.cons
    · first | exact ev_load rfl (gn rfl) rfl rfl Tryd.underlying29 rfl Tryd.sizeOf29 rfl rfl | exact ev_loadx rfl (gn rfl) rfl Tryd.underlying29 rfl Tryd.sizeOf29 (by assumption) rfl
    simp only [nm3, seval]
    apply VE.cons
    · first | exact ev_load rfl (gn rfl) rfl rfl Tryd.underlying29 rfl Tryd.sizeOf29 rfl rfl | exact ev_loadx rfl (gn rfl) rfl Tryd.underlying29 rfl Tryd.sizeOf29 (by assumption) rfl
    simp only [nm3, seval]
    apply VE.cons
    · exact ev_bin (c := .bool false) rfl (gn rfl) rfl rfl (fun w => z29_f c _ _ w)
    simp only [nm3, seval]
    apply VE.cons
    · exact ev_move rfl (gn rfl)
    simp only [nm3, seval]
    apply VE.cons
    · first | exact Ev.skip (fun _ => rfl) | exact ev_load rfl (fun _ => rfl) rfl rfl Tryd.underlying29 rfl Tryd.sizeOf29 rfl rfl | exact ev_loadx rfl (fun _ => rfl) rfl Tryd.underlying29 rfl Tryd.sizeOf29 (by assumption) rfl
    simp only [nm3, seval]
    apply VE.cons
    · first | exact Ev.skip (fun _ => rfl) | exact ev_load rfl (fun _ => rfl) rfl rfl Tryd.underlying29 rfl Tryd.sizeOf29 rfl rfl | exact ev_loadx rfl (fun _ => rfl) rfl Tryd.underlying29 rfl Tryd.sizeOf29 (by assumption) rfl
    simp only [nm3, seval]
    apply VE.cons
    · first | exact Ev.skip (fun _ => rfl) | refine ev_pure' (fun _ => rfl) (fun ρ w => by simp only [VS.act, SV.c, List.map_cons, List.map_nil]; go_simp; exact rfl) (fun _ _ => rfl)
    simp only [nm3, seval]
    apply VE.cons
    · first | exact ev_pick_t rfl (gn rfl) rfl rfl | exact ev_pick_f rfl (gn rfl) rfl rfl
    simp only [nm3, seval]
    exact VE.nil _
  · kernel_rfl
  change VOk _ _ _ _ _
  refine vcond_f rfl ?_
  refine vskip ?_
  change VOk _ _ _ _ _
  refine vseq ?_
  apply vrd (by kernel_rfl)
  · apply VE.cons
    · first | exact ev_load rfl (gn rfl) rfl rfl Tryd.underlying29 rfl Tryd.sizeOf29 rfl rfl | exact ev_loadx rfl (gn rfl) rfl Tryd.underlying29 rfl Tryd.sizeOf29 (by assumption) rfl
    simp only [nm3, seval]
    apply VE.cons
    · first | exact ev_load rfl (gn rfl) rfl rfl Tryd.underlying29 rfl Tryd.sizeOf29 rfl rfl | exact ev_loadx rfl (gn rfl) rfl Tryd.underlying29 rfl Tryd.sizeOf29 (by assumption) rfl
    simp only [nm3, seval]
    apply VE.cons
    · first | exact ev_load rfl (gn rfl) rfl rfl Tryd.underlying29 rfl Tryd.sizeOf29 rfl rfl | exact ev_loadx rfl (gn rfl) rfl Tryd.underlying29 rfl Tryd.sizeOf29 (by assumption) rfl
    simp only [nm3, seval]
    apply VE.cons
    · exact ev_call rfl (gn rfl) rfl (en_of Tryd.func23 (by kernel_rfl) rfl) (fun w' hw' => rsubF _ _ w')
    simp only [nm3, seval]
    apply VE.cons
    · first | exact ev_load rfl (gn rfl) rfl rfl Tryd.underlying29 rfl Tryd.sizeOf29 rfl rfl | exact ev_loadx rfl (gn rfl) rfl Tryd.underlying29 rfl Tryd.sizeOf29 (by assumption) rfl
    simp only [nm3, seval]
    apply VE.cons
    · first | exact ev_load rfl (gn rfl) rfl rfl Tryd.underlying29 rfl Tryd.sizeOf29 rfl rfl | exact ev_loadx rfl (gn rfl) rfl Tryd.underlying29 rfl Tryd.sizeOf29 (by assumption) rfl
    simp only [nm3, seval]
    apply VE.cons
    · first | exact ev_load rfl (gn rfl) rfl rfl Tryd.underlying29 rfl Tryd.sizeOf29 rfl rfl | exact ev_loadx rfl (gn rfl) rfl Tryd.underlying29 rfl Tryd.sizeOf29 (by assumption) rfl
    simp only [nm3, seval]
    apply VE.cons
    · exact ev_call rfl (gn rfl) rfl (en_of Tryd.func23 (by kernel_rfl) rfl) (fun w' hw' => rsubF _ _ w')
    simp only [nm3, seval]
    apply VE.cons
    · exact ev_alloc rfl rfl (gn rfl) Tryd.zeroValue29
    simp only [nm3, seval]
    apply VE.cons
    · exact ev_alloc rfl rfl (gn rfl) Tryd.zeroValue29
    simp only [nm3, seval]
    apply VE.cons
    · exact ev_store rfl (gn rfl) rfl rfl rfl Tryd.sizeOf29 rfl (by simp) rfl
    simp only [nm3, seval]
    apply VE.cons
    · exact ev_store rfl (gn rfl) rfl rfl rfl Tryd.sizeOf29 rfl (by simp) rfl
    simp only [nm3, seval]
    exact VE.nil _
  · kernel_rfl
  change VOk _ _ _ _ _
  refine vseq ?_
  refine vseq ?_
  apply vrp
  · apply VE.cons
    · first | exact ev_load rfl (gn rfl) rfl rfl Tryd.underlying29 rfl Tryd.sizeOf29 rfl rfl | exact ev_loadx rfl (gn rfl) rfl Tryd.underlying29 rfl Tryd.sizeOf29 (by assumption) rfl
    simp only [nm3, seval]
    apply VE.cons
    · first | exact ev_load rfl (gn rfl) rfl rfl Tryd.underlying29 rfl Tryd.sizeOf29 rfl rfl | exact ev_loadx rfl (gn rfl) rfl Tryd.underlying29 rfl Tryd.sizeOf29 (by assumption) rfl
    simp only [nm3, seval]
    apply VE.cons
    · exact ev_bin (c := .bool true) rfl (gn rfl) rfl rfl (fun w => e29_t hx _ _ w)
    simp only [nm3, seval]
    exact VE.nil _
  · kernel_rfl
  change VOk _ _ _ _ _
  refine vcond_t rfl ?_
  refine vseq ?_
  refine vseq ?_
  apply vrd (by kernel_rfl)
  · apply VE.cons
    · first | exact ev_load rfl (gn rfl) rfl rfl Tryd.underlying29 rfl Tryd.sizeOf29 rfl rfl | exact ev_loadx rfl (gn rfl) rfl Tryd.underlying29 rfl Tryd.sizeOf29 (by assumption) rfl
    simp only [nm3, seval]
    apply VE.cons
    · first | exact ev_load rfl (gn rfl) rfl rfl Tryd.underlying29 rfl Tryd.sizeOf29 rfl rfl | exact ev_loadx rfl (gn rfl) rfl Tryd.underlying29 rfl Tryd.sizeOf29 (by assumption) rfl
    simp only [nm3, seval]
    apply VE.cons
    · first | exact ev_load rfl (gn rfl) rfl rfl Tryd.underlying29 rfl Tryd.sizeOf29 rfl rfl | exact ev_loadx rfl (gn rfl) rfl Tryd.underlying29 rfl Tryd.sizeOf29 (by assumption) rfl
    simp only [nm3, seval]
    apply VE.cons
    · exact ev_call rfl (gn rfl) rfl (en_of Tryd.func26 (by kernel_rfl) rfl) (fun w' hw' => raddF _ _ w')
    simp only [nm3, seval]
    apply VE.cons
    · first | exact ev_load rfl (gn rfl) rfl rfl Tryd.underlying29 rfl Tryd.sizeOf29 rfl rfl | exact ev_loadx rfl (gn rfl) rfl Tryd.underlying29 rfl Tryd.sizeOf29 (by assumption) rfl
    simp only [nm3, seval]
    apply VE.cons
    · exact ev_bin (c := .bool true) rfl (gn rfl) rfl rfl (fun w => z29_t hs _ _ w)
    simp only [nm3, seval]
    exact VE.nil _
  · kernel_rfl
  change VOk _ _ _ _ _
  refine vcond_t rfl ?_
  refine vseq ?_
  apply vrd (by kernel_rfl)
  · apply VE.cons
    · first | exact ev_load rfl (gn rfl) rfl rfl Tryd.underlying29 rfl Tryd.sizeOf29 rfl rfl | exact ev_loadx rfl (gn rfl) rfl Tryd.underlying29 rfl Tryd.sizeOf29 (by assumption) rfl
    simp only [nm3, seval]
    apply VE.cons
    · first | exact ev_load rfl (gn rfl) rfl rfl Tryd.underlying29 rfl Tryd.sizeOf29 rfl rfl | exact ev_loadx rfl (gn rfl) rfl Tryd.underlying29 rfl Tryd.sizeOf29 (by assumption) rfl
    simp only [nm3, seval]
    apply VE.cons
    · exact ev_store rfl (gn rfl) rfl rfl rfl Tryd.sizeOf29 rfl (by simp) rfl
    simp only [nm3, seval]
    apply VE.cons
    · exact ev_store rfl (gn rfl) rfl rfl rfl Tryd.sizeOf29 rfl (by simp) rfl
    simp only [nm3, seval]
    exact VE.nil _
  · kernel_rfl
  change VOk _ _ _ _ _
  refine vret ?_
  refine post_ret (res2 Tryd.results25 (rv_cell rfl rfl Tryd.underlying29 rfl Tryd.sizeOf29 rfl rfl) (rv_cell rfl rfl Tryd.underlying29 rfl Tryd.sizeOf29 rfl rfl)) ?_
  intro w' hg
  exact ⟨rfl, hg⟩
theorem radd_tan_xx (x1 y1 x2 y2 i s v86 v89 x3 v98 v100 y3 v62 v65 v67 v71 : F) (w : World) (a : x1 ≠ 0) (c : x2 ≠ 0) (hx : x1 = x2) (hs : y1 + y2 ≠ 0) (e62 : x1 * x1 = v62) (e65 : v62 - 1 = v65) (e67 : 3 * v65 = v67) (e71 : y1 + y1 = v71) (hi : v71 * i = 1) (e82 : v67 * i = s) (e86 : s * s = v86) (e89 : v86 - x1 = v89) (e92 : v89 - x2 = x3) (e98 : x1 - x3 = v98) (e100 : s * v98 = v100) (e103 : v100 - y1 = y3) : Calls Tryd.prog 25 #[NF x1, NF y1, NF x2, NF y2] w fun e w' => e = .returned (.tuple #[NF x3, NF y3]) ∧ Gw w w' := by
  go_enter Tryd.func25, Tryd.ntmps25
  refine ve_go ?_
  simp only [List.map_cons, List.map_nil]
  refine vseq ?_
  apply vrp
  · apply VE.cons
    · exact ev_box rfl rfl (gn rfl) rfl
    simp only [nm3, seval]
    apply VE.cons
    · exact ev_box rfl rfl (gn rfl) rfl
    simp only [nm3, seval]
    apply VE.cons
    · exact ev_box rfl rfl (gn rfl) rfl
    simp only [nm3, seval]
    apply VE.cons
    · exact ev_box rfl rfl (gn rfl) rfl
    simp only [nm3, seval]
    apply VE.cons
    · exact ev_alloc rfl rfl (gn rfl) Tryd.zeroValue29
    simp only [nm3, seval]
    apply VE.cons
    · exact ev_alloc rfl rfl (gn rfl) Tryd.zeroValue29
    simp only [nm3, seval]
    exact VE.nil _
  · kernel_rfl
  change VOk _ _ _ _ _
  refine vseq ?_
  apply vrp
  · apply VE.cons
    · exact ev_call rfl (gn rfl) rfl (en_of Tryd.func28 (by kernel_rfl) rfl) (fun w' hw' => c_P w')
    simp only [nm3, seval]
    apply VE.cons
    · exact ev_alloc rfl rfl (gn rfl) Tryd.zeroValue29
    simp only [nm3, seval]
    apply VE.cons
    · exact ev_store rfl (gn rfl) rfl rfl rfl Tryd.sizeOf29 rfl (by simp) rfl
    simp only [nm3, seval]
    exact VE.nil _
  · kernel_rfl
  change VOk _ _ _ _ _
  refine vseq ?_
  apply vrp
  · apply VE.cons
    · exact ev_build rfl (gn rfl) rfl built29_0
    simp only [nm3, seval]
    apply VE.cons
    · exact ev_alloc rfl rfl (gn rfl) Tryd.zeroValue29
    simp only [nm3, seval]
    apply VE.cons
    · exact ev_store rfl (gn rfl) rfl rfl rfl Tryd.sizeOf29 rfl (by simp) rfl
    simp only [nm3, seval]
    exact VE.nil _
  · kernel_rfl
  change VOk _ _ _ _ _
  refine vseq ?_
  refine vseq ?_
  apply vrp
  · apply VE.cons
    · first | exact ev_load rfl (gn rfl) rfl rfl Tryd.underlying29 rfl Tryd.sizeOf29 rfl rfl | exact ev_loadx rfl (gn rfl) rfl Tryd.underlying29 rfl Tryd.sizeOf29 (by assumption) rfl
    simp only [nm3, seval]
    apply VE.cons
    · first | exact ev_load rfl (gn rfl) rfl rfl Tryd.underlying29 rfl Tryd.sizeOf29 rfl rfl | exact ev_loadx rfl (gn rfl) rfl Tryd.underlying29 rfl Tryd.sizeOf29 (by assumption) rfl
    simp only [nm3, seval]
    apply VE.cons
    · exact ev_bin (c := .bool false) rfl (gn rfl) rfl rfl (fun w => z29_f a _ _ w)
    simp only [nm3, seval]
    apply VE.cons
    · exact ev_move rfl (gn rfl)
    simp only [nm3, seval]
    apply VE.cons
    · first | exact Ev.skip (fun _ => rfl) | exact ev_load rfl (fun _ => rfl) rfl rfl Tryd.underlying29 rfl Tryd.sizeOf29 rfl rfl | exact ev_loadx rfl (fun _ => rfl) rfl Tryd.underlying29 rfl Tryd.sizeOf29 (by assumption) rfl
    simp only [nm3, seval]
    apply VE.cons
    · first | exact Ev.skip (fun _ => rfl) | exact ev_load rfl (fun _ => rfl) rfl rfl Tryd.underlying29 rfl Tryd.sizeOf29 rfl rfl | exact ev_loadx rfl (fun _ => rfl) rfl Tryd.underlying29 rfl Tryd.sizeOf29 (by assumption) rfl
    simp only [nm3, seval]
    apply VE.cons
    · first | exact Ev.skip (fun _ => rfl) | refine ev_pure' (fun _ => rfl) (fun ρ w => by simp only [VS.act, SV.c, List.map_cons, List.map_nil]; go_simp; exact rfl) (fun _ _ => rfl)
    simp only [nm3, seval]
    apply VE.cons
    · first | exact ev_pick_t rfl (gn rfl) rfl rfl | exact ev_pick_f rfl (gn rfl) rfl rfl
    simp only [nm3, seval]
    exact VE.nil _
  · kernel_rfl
  change VOk _ _ _ _ _
  refine vcond_f rfl ?_
  refine vskip ?_
  change VOk _ _ _ _ _
  refine vseq ?_
  refine vseq ?_
  apply vrp
  · apply VE.cons
    · first | exact ev_load rfl (gn rfl) rfl rfl Tryd.underlying29 rfl Tryd.sizeOf29 rfl rfl | exact ev_loadx rfl (gn rfl) rfl Tryd.underlying29 rfl Tryd.sizeOf29 (by assumption) rfl
    simp only [nm3, seval]
    apply VE.cons
    · first | exact ev_load rfl (gn rfl) rfl rfl Tryd.underlying29 rfl Tryd.sizeOf29 rfl rfl | exact ev_loadx rfl (gn rfl) rfl Tryd.underlying29 rfl Tryd.sizeOf29 (by assumption) rfl
    simp only [nm3, seval]
    apply VE.cons
    · exact ev_bin (c := .bool false) rfl (gn rfl) rfl rfl (fun w => z29_f c _ _ w)
    simp only [nm3, seval]
    apply VE.cons
    · exact ev_move rfl (gn rfl)
    simp only [nm3, seval]
    apply VE.cons
    · first | exact Ev.skip (fun _ => rfl) | exact ev_load rfl (fun _ => rfl) rfl rfl Tryd.underlying29 rfl Tryd.sizeOf29 rfl rfl | exact ev_loadx rfl (fun _ => rfl) rfl Tryd.underlying29 rfl Tryd.sizeOf29 (by assumption) rfl
    simp only [nm3, seval]
    apply VE.cons
    · first | exact Ev.skip (fun _ => rfl) | exact ev_load rfl (fun _ => rfl) rfl rfl Tryd.underlying29 rfl Tryd.sizeOf29 rfl rfl | exact ev_loadx rfl (fun _ => rfl) rfl Tryd.underlying29 rfl Tryd.sizeOf29 (by assumption) rfl
    simp only [nm3, seval]
    apply VE.cons
    · first | exact Ev.skip (fun _ => rfl) | refine ev_pure' (fun _ => rfl) (fun ρ w => by simp only [VS.act, SV.c, List.map_cons, List.map_nil]; go_simp; exact rfl) (fun _ _ => rfl)
    simp only [nm3, seval]
    apply VE.cons
    · first | exact ev_pick_t rfl (gn rfl) rfl rfl | exact ev_pick_f rfl (gn rfl) rfl rfl
    simp only [nm3, seval]
    exact VE.nil _
  · kernel_rfl
  change VOk _ _ _ _ _
  refine vcond_f rfl ?_
  refine vskip ?_
  change VOk _ _ _ _ _
  refine vseq ?_
  apply vrd (by kernel_rfl)
  · apply VE.cons
    · first | exact ev_load rfl (gn rfl) rfl rfl Tryd.underlying29 rfl Tryd.sizeOf29 rfl rfl | exact ev_loadx rfl (gn rfl) rfl Tryd.underlying29 rfl Tryd.sizeOf29 (by assumption) rfl
    simp only [nm3, seval]
    apply VE.cons
    · first | exact ev_load rfl (gn rfl) rfl rfl Tryd.underlying29 rfl Tryd.sizeOf29 rfl rfl | exact ev_loadx rfl (gn rfl) rfl Tryd.underlying29 rfl Tryd.sizeOf29 (by assumption) rfl
    simp only [nm3, seval]
    apply VE.cons
    · first | exact ev_load rfl (gn rfl) rfl rfl Tryd.underlying29 rfl Tryd.sizeOf29 rfl rfl | exact ev_loadx rfl (gn rfl) rfl Tryd.underlying29 rfl Tryd.sizeOf29 (by assumption) rfl
    simp only [nm3, seval]
    apply VE.cons
    · exact ev_call rfl (gn rfl) rfl (en_of Tryd.func23 (by kernel_rfl) rfl) (fun w' hw' => rsubF _ _ w')
    simp only [nm3, seval]
    apply VE.cons
    · first | exact ev_load rfl (gn rfl) rfl rfl Tryd.underlying29 rfl Tryd.sizeOf29 rfl rfl | exact ev_loadx rfl (gn rfl) rfl Tryd.underlying29 rfl Tryd.sizeOf29 (by assumption) rfl
    simp only [nm3, seval]
    apply VE.cons
    · first | exact ev_load rfl (gn rfl) rfl rfl Tryd.underlying29 rfl Tryd.sizeOf29 rfl rfl | exact ev_loadx rfl (gn rfl) rfl Tryd.underlying29 rfl Tryd.sizeOf29 (by assumption) rfl
    simp only [nm3, seval]
    apply VE.cons
    · first | exact ev_load rfl (gn rfl) rfl rfl Tryd.underlying29 rfl Tryd.sizeOf29 rfl rfl | exact ev_loadx rfl (gn rfl) rfl Tryd.underlying29 rfl Tryd.sizeOf29 (by assumption) rfl
    simp only [nm3, seval]
    apply VE.cons
    · exact ev_call rfl (gn rfl) rfl (en_of Tryd.func23 (by kernel_rfl) rfl) (fun w' hw' => rsubF _ _ w')
    simp only [nm3, seval]
    apply VE.cons
    · exact ev_alloc rfl rfl (gn rfl) Tryd.zeroValue29
    simp only [nm3, seval]
    apply VE.cons
    · exact ev_alloc rfl rfl (gn rfl) Tryd.zeroValue29
    simp only [nm3, seval]
    apply VE.cons
    · exact ev_store rfl (gn rfl) rfl rfl rfl Tryd.sizeOf29 rfl (by simp) rfl
    simp only [nm3, seval]
    apply VE.cons
    · exact ev_store rfl (gn rfl) rfl rfl rfl Tryd.sizeOf29 rfl (by simp) rfl
    simp only [nm3, seval]
    exact VE.nil _
  · kernel_rfl
  change VOk _ _ _ _ _
  refine vseq ?_
  refine vseq ?_
  apply vrp
  · apply VE.cons
    · first | exact ev_load rfl (gn rfl) rfl rfl Tryd.underlying29 rfl Tryd.sizeOf29 rfl rfl | exact ev_loadx rfl (gn rfl) rfl Tryd.underlying29 rfl Tryd.sizeOf29 (by assumption) rfl
    simp only [nm3, seval]
    apply VE.cons
    · first | exact ev_load rfl (gn rfl) rfl rfl Tryd.underlying29 rfl Tryd.sizeOf29 rfl rfl | exact ev_loadx rfl (gn rfl) rfl Tryd.underlying29 rfl Tryd.sizeOf29 (by assumption) rfl
    simp only [nm3, seval]
    apply VE.cons
    · exact ev_bin (c := .bool true) rfl (gn rfl) rfl rfl (fun w => e29_t hx _ _ w)
    simp only [nm3, seval]
    exact VE.nil _
  · kernel_rfl
  change VOk _ _ _ _ _
  refine vcond_t rfl ?_
  refine vseq ?_
  refine vseq ?_
  apply vrd (by kernel_rfl)
  · apply VE.cons
    · first | exact ev_load rfl (gn rfl) rfl rfl Tryd.underlying29 rfl Tryd.sizeOf29 rfl rfl | exact ev_loadx rfl (gn rfl) rfl Tryd.underlying29 rfl Tryd.sizeOf29 (by assumption) rfl
    simp only [nm3, seval]
    apply VE.cons
    · first | exact ev_load rfl (gn rfl) rfl rfl Tryd.underlying29 rfl Tryd.sizeOf29 rfl rfl | exact ev_loadx rfl (gn rfl) rfl Tryd.underlying29 rfl Tryd.sizeOf29 (by assumption) rfl
    simp only [nm3, seval]
    apply VE.cons
    · first | exact ev_load rfl (gn rfl) rfl rfl Tryd.underlying29 rfl Tryd.sizeOf29 rfl rfl | exact ev_loadx rfl (gn rfl) rfl Tryd.underlying29 rfl Tryd.sizeOf29 (by assumption) rfl
    simp only [nm3, seval]
    apply VE.cons
    · exact ev_call rfl (gn rfl) rfl (en_of Tryd.func26 (by kernel_rfl) rfl) (fun w' hw' => raddF _ _ w')
    simp only [nm3, seval]
    apply VE.cons
    · first | exact ev_load rfl (gn rfl) rfl rfl Tryd.underlying29 rfl Tryd.sizeOf29 rfl rfl | exact ev_loadx rfl (gn rfl) rfl Tryd.underlying29 rfl Tryd.sizeOf29 (by assumption) rfl
    simp only [nm3, seval]
    apply VE.cons
    · exact ev_bin (c := .bool false) rfl (gn rfl) rfl rfl (fun w => z29_f hs _ _ w)
    simp only [nm3, seval]
    exact VE.nil _
  · kernel_rfl
  change VOk _ _ _ _ _
  refine vcond_f rfl ?_
  refine vskip ?_
  change VOk _ _ _ _ _
  refine vseq ?_
  apply vrd (by kernel_rfl)
  · apply VE.cons
    · exact ev_build rfl (gn rfl) rfl built29_three
    simp only [nm3, seval]
    apply VE.cons
    · first | exact ev_load rfl (gn rfl) rfl rfl Tryd.underlying29 rfl Tryd.sizeOf29 rfl rfl | exact ev_loadx rfl (gn rfl) rfl Tryd.underlying29 rfl Tryd.sizeOf29 (by assumption) rfl
    simp only [nm3, seval]
    apply VE.cons
    · first | exact ev_load rfl (gn rfl) rfl rfl Tryd.underlying29 rfl Tryd.sizeOf29 rfl rfl | exact ev_loadx rfl (gn rfl) rfl Tryd.underlying29 rfl Tryd.sizeOf29 (by assumption) rfl
    simp only [nm3, seval]
    apply VE.cons
    · first | exact ev_load rfl (gn rfl) rfl rfl Tryd.underlying29 rfl Tryd.sizeOf29 rfl rfl | exact ev_loadx rfl (gn rfl) rfl Tryd.underlying29 rfl Tryd.sizeOf29 (by assumption) rfl
    simp only [nm3, seval]
    apply VE.cons
    · exact ev_call rfl (gn rfl) rfl (en_of Tryd.func38 (by kernel_rfl) rfl) (fun w' hw' => rmulE e62 w')
    simp only [nm3, seval]
    apply VE.cons
    · exact ev_build rfl (gn rfl) rfl built29_one
    simp only [nm3, seval]
    apply VE.cons
    · first | exact ev_load rfl (gn rfl) rfl rfl Tryd.underlying29 rfl Tryd.sizeOf29 rfl rfl | exact ev_loadx rfl (gn rfl) rfl Tryd.underlying29 rfl Tryd.sizeOf29 (by assumption) rfl
    simp only [nm3, seval]
    apply VE.cons
    · exact ev_call rfl (gn rfl) rfl (en_of Tryd.func23 (by kernel_rfl) rfl) (fun w' hw' => rsubE1 e65 w')
    simp only [nm3, seval]
    apply VE.cons
    · first | exact ev_load rfl (gn rfl) rfl rfl Tryd.underlying29 rfl Tryd.sizeOf29 rfl rfl | exact ev_loadx rfl (gn rfl) rfl Tryd.underlying29 rfl Tryd.sizeOf29 (by assumption) rfl
    simp only [nm3, seval]
    apply VE.cons
    · exact ev_call rfl (gn rfl) rfl (en_of Tryd.func38 (by kernel_rfl) rfl) (fun w' hw' => rmulE3 e67 w')
    simp only [nm3, seval]
    apply VE.cons
    · exact ev_store rfl (gn rfl) rfl rfl rfl Tryd.sizeOf29 rfl (by simp) rfl
    simp only [nm3, seval]
    exact VE.nil _
  · kernel_rfl
  change VOk _ _ _ _ _
  apply vrp
  · apply VE.cons
    · first | exact ev_load rfl (gn rfl) rfl rfl Tryd.underlying29 rfl Tryd.sizeOf29 rfl rfl | exact ev_loadx rfl (gn rfl) rfl Tryd.underlying29 rfl Tryd.sizeOf29 (by assumption) rfl
    simp only [nm3, seval]
    apply VE.cons
    · first | exact ev_load rfl (gn rfl) rfl rfl Tryd.underlying29 rfl Tryd.sizeOf29 rfl rfl | exact ev_loadx rfl (gn rfl) rfl Tryd.underlying29 rfl Tryd.sizeOf29 (by assumption) rfl
    simp only [nm3, seval]
    apply VE.cons
    · first | exact ev_load rfl (gn rfl) rfl rfl Tryd.underlying29 rfl Tryd.sizeOf29 rfl rfl | exact ev_loadx rfl (gn rfl) rfl Tryd.underlying29 rfl Tryd.sizeOf29 (by assumption) rfl
    simp only [nm3, seval]
    apply VE.cons
    · exact ev_call rfl (gn rfl) rfl (en_of Tryd.func26 (by kernel_rfl) rfl) (fun w' hw' => raddE e71 w')
    simp only [nm3, seval]
    apply VE.cons
    · exact ev_store rfl (gn rfl) rfl rfl rfl Tryd.sizeOf29 rfl (by simp) rfl
    simp only [nm3, seval]
    exact VE.nil _
  · kernel_rfl
  change VOk _ _ _ _ _
  refine vseq ?_
  apply vrp
  · apply VE.cons
    · first | exact ev_load rfl (gn rfl) rfl rfl Tryd.underlying29 rfl Tryd.sizeOf29 rfl rfl | exact ev_loadx rfl (gn rfl) rfl Tryd.underlying29 rfl Tryd.sizeOf29 (by assumption) rfl
    simp only [nm3, seval]
    apply VE.cons
    · exact ev_build rfl (gn rfl) rfl built29_two
    simp only [nm3, seval]
    apply VE.cons
    · first | exact ev_load rfl (gn rfl) rfl rfl Tryd.underlying29 rfl Tryd.sizeOf29 rfl rfl | exact ev_loadx rfl (gn rfl) rfl Tryd.underlying29 rfl Tryd.sizeOf29 (by assumption) rfl
    simp only [nm3, seval]
    apply VE.cons
    · exact ev_call rfl (gn rfl) rfl (en_of Tryd.func23 (by kernel_rfl) rfl) (fun w' hw' => rsub2 w')
    simp only [nm3, seval]
    apply VE.cons
    · exact ev_alloc rfl rfl (gn rfl) Tryd.zeroValue29
    simp only [nm3, seval]
    apply VE.cons
    · exact ev_store rfl (gn rfl) rfl rfl rfl Tryd.sizeOf29 rfl (by simp) rfl
    simp only [nm3, seval]
    exact VE.nil _
  · kernel_rfl
  change VOk _ _ _ _ _
  refine vseq ?_
  apply vrd (by kernel_rfl)
  · apply VE.cons
    · first | exact ev_load rfl (gn rfl) rfl rfl Tryd.underlying29 rfl Tryd.sizeOf29 rfl rfl | exact ev_loadx rfl (gn rfl) rfl Tryd.underlying29 rfl Tryd.sizeOf29 (by assumption) rfl
    simp only [nm3, seval]
    apply VE.cons
    · first | exact ev_load rfl (gn rfl) rfl rfl Tryd.underlying29 rfl Tryd.sizeOf29 rfl rfl | exact ev_loadx rfl (gn rfl) rfl Tryd.underlying29 rfl Tryd.sizeOf29 (by assumption) rfl
    simp only [nm3, seval]
    apply VE.cons
    · first | exact ev_load rfl (gn rfl) rfl rfl Tryd.underlying29 rfl Tryd.sizeOf29 rfl rfl | exact ev_loadx rfl (gn rfl) rfl Tryd.underlying29 rfl Tryd.sizeOf29 (by assumption) rfl
    simp only [nm3, seval]
    apply VE.cons
    · first | exact ev_load rfl (gn rfl) rfl rfl Tryd.underlying29 rfl Tryd.sizeOf29 rfl rfl | exact ev_loadx rfl (gn rfl) rfl Tryd.underlying29 rfl Tryd.sizeOf29 (by assumption) rfl
    simp only [nm3, seval]
    apply VE.cons
    · exact ev_call rfl (gn rfl) rfl (en_of Tryd.func48 (by kernel_rfl) rfl) (fun w' hw' => rpowF hi w')
    simp only [nm3, seval]
    apply VE.cons
    · first | exact ev_load rfl (gn rfl) rfl rfl Tryd.underlying29 rfl Tryd.sizeOf29 rfl rfl | exact ev_loadx rfl (gn rfl) rfl Tryd.underlying29 rfl Tryd.sizeOf29 (by assumption) rfl
    simp only [nm3, seval]
    apply VE.cons
    · exact ev_call rfl (gn rfl) rfl (en_of Tryd.func38 (by kernel_rfl) rfl) (fun w' hw' => rmulE e82 w')
    simp only [nm3, seval]
    apply VE.cons
    · exact ev_alloc rfl rfl (gn rfl) Tryd.zeroValue29
    simp only [nm3, seval]
    apply VE.cons
    · exact ev_store rfl (gn rfl) rfl rfl rfl Tryd.sizeOf29 rfl (by simp) rfl
    simp only [nm3, seval]
    exact VE.nil _
  · kernel_rfl
  change VOk _ _ _ _ _
  refine vseq ?_
  apply vrd (by kernel_rfl)
  · apply VE.cons
    · first | exact ev_load rfl (gn rfl) rfl rfl Tryd.underlying29 rfl Tryd.sizeOf29 rfl rfl | exact ev_loadx rfl (gn rfl) rfl Tryd.underlying29 rfl Tryd.sizeOf29 (by assumption) rfl
    simp only [nm3, seval]
    apply VE.cons
    · first | exact ev_load rfl (gn rfl) rfl rfl Tryd.underlying29 rfl Tryd.sizeOf29 rfl rfl | exact ev_loadx rfl (gn rfl) rfl Tryd.underlying29 rfl Tryd.sizeOf29 (by assumption) rfl
    simp only [nm3, seval]
    apply VE.cons
    · first | exact ev_load rfl (gn rfl) rfl rfl Tryd.underlying29 rfl Tryd.sizeOf29 rfl rfl | exact ev_loadx rfl (gn rfl) rfl Tryd.underlying29 rfl Tryd.sizeOf29 (by assumption) rfl
    simp only [nm3, seval]
    apply VE.cons
    · exact ev_call rfl (gn rfl) rfl (en_of Tryd.func38 (by kernel_rfl) rfl) (fun w' hw' => rmulE e86 w')
    simp only [nm3, seval]
    apply VE.cons
    · first | exact ev_load rfl (gn rfl) rfl rfl Tryd.underlying29 rfl Tryd.sizeOf29 rfl rfl | exact ev_loadx rfl (gn rfl) rfl Tryd.underlying29 rfl Tryd.sizeOf29 (by assumption) rfl
    simp only [nm3, seval]
    apply VE.cons
    · first | exact ev_load rfl (gn rfl) rfl rfl Tryd.underlying29 rfl Tryd.sizeOf29 rfl rfl | exact ev_loadx rfl (gn rfl) rfl Tryd.underlying29 rfl Tryd.sizeOf29 (by assumption) rfl
    simp only [nm3, seval]
    apply VE.cons
    · exact ev_call rfl (gn rfl) rfl (en_of Tryd.func23 (by kernel_rfl) rfl) (fun w' hw' => rsubE e89 w')
    simp only [nm3, seval]
    apply VE.cons
    · first | exact ev_load rfl (gn rfl) rfl rfl Tryd.underlying29 rfl Tryd.sizeOf29 rfl rfl | exact ev_loadx rfl (gn rfl) rfl Tryd.underlying29 rfl Tryd.sizeOf29 (by assumption) rfl
    simp only [nm3, seval]
    apply VE.cons
    · first | exact ev_load rfl (gn rfl) rfl rfl Tryd.underlying29 rfl Tryd.sizeOf29 rfl rfl | exact ev_loadx rfl (gn rfl) rfl Tryd.underlying29 rfl Tryd.sizeOf29 (by assumption) rfl
    simp only [nm3, seval]
    apply VE.cons
    · exact ev_call rfl (gn rfl) rfl (en_of Tryd.func23 (by kernel_rfl) rfl) (fun w' hw' => rsubE e92 w')
    simp only [nm3, seval]
    apply VE.cons
    · exact ev_alloc rfl rfl (gn rfl) Tryd.zeroValue29
    simp only [nm3, seval]
    apply VE.cons
    · exact ev_store rfl (gn rfl) rfl rfl rfl Tryd.sizeOf29 rfl (by simp) rfl
    simp only [nm3, seval]
    exact VE.nil _
  · kernel_rfl
  change VOk _ _ _ _ _
  refine vseq ?_
  apply vrd (by kernel_rfl)
  · apply VE.cons
    · first | exact ev_load rfl (gn rfl) rfl rfl Tryd.underlying29 rfl Tryd.sizeOf29 rfl rfl | exact ev_loadx rfl (gn rfl) rfl Tryd.underlying29 rfl Tryd.sizeOf29 (by assumption) rfl
    simp only [nm3, seval]
    apply VE.cons
    · first | exact ev_load rfl (gn rfl) rfl rfl Tryd.underlying29 rfl Tryd.sizeOf29 rfl rfl | exact ev_loadx rfl (gn rfl) rfl Tryd.underlying29 rfl Tryd.sizeOf29 (by assumption) rfl
    simp only [nm3, seval]
    apply VE.cons
    · first | exact ev_load rfl (gn rfl) rfl rfl Tryd.underlying29 rfl Tryd.sizeOf29 rfl rfl | exact ev_loadx rfl (gn rfl) rfl Tryd.underlying29 rfl Tryd.sizeOf29 (by assumption) rfl
    simp only [nm3, seval]
    apply VE.cons
    · first | exact ev_load rfl (gn rfl) rfl rfl Tryd.underlying29 rfl Tryd.sizeOf29 rfl rfl | exact ev_loadx rfl (gn rfl) rfl Tryd.underlying29 rfl Tryd.sizeOf29 (by assumption) rfl
    simp only [nm3, seval]
    apply VE.cons
    · first | exact ev_load rfl (gn rfl) rfl rfl Tryd.underlying29 rfl Tryd.sizeOf29 rfl rfl | exact ev_loadx rfl (gn rfl) rfl Tryd.underlying29 rfl Tryd.sizeOf29 (by assumption) rfl
    simp only [nm3, seval]
    apply VE.cons
    · exact ev_call rfl (gn rfl) rfl (en_of Tryd.func23 (by kernel_rfl) rfl) (fun w' hw' => rsubE e98 w')
    simp only [nm3, seval]
    apply VE.cons
    · first | exact ev_load rfl (gn rfl) rfl rfl Tryd.underlying29 rfl Tryd.sizeOf29 rfl rfl | exact ev_loadx rfl (gn rfl) rfl Tryd.underlying29 rfl Tryd.sizeOf29 (by assumption) rfl
    simp only [nm3, seval]
    apply VE.cons
    · exact ev_call rfl (gn rfl) rfl (en_of Tryd.func38 (by kernel_rfl) rfl) (fun w' hw' => rmulE e100 w')
    simp only [nm3, seval]
    apply VE.cons
    · first | exact ev_load rfl (gn rfl) rfl rfl Tryd.underlying29 rfl Tryd.sizeOf29 rfl rfl | exact ev_loadx rfl (gn rfl) rfl Tryd.underlying29 rfl Tryd.sizeOf29 (by assumption) rfl
    simp only [nm3, seval]
    apply VE.cons
    · first | exact ev_load rfl (gn rfl) rfl rfl Tryd.underlying29 rfl Tryd.sizeOf29 rfl rfl | exact ev_loadx rfl (gn rfl) rfl Tryd.underlying29 rfl Tryd.sizeOf29 (by assumption) rfl
    simp only [nm3, seval]
    apply VE.cons
    · exact ev_call rfl (gn rfl) rfl (en_of Tryd.func23 (by kernel_rfl) rfl) (fun w' hw' => rsubE e103 w')
    simp only [nm3, seval]
    apply VE.cons
    · exact ev_store rfl (gn rfl) rfl rfl rfl Tryd.sizeOf29 rfl (by simp) rfl
    simp only [nm3, seval]
    apply VE.cons
    · exact ev_store rfl (gn rfl) rfl rfl rfl Tryd.sizeOf29 rfl (by simp) rfl
    simp only [nm3, seval]
    exact VE.nil _
  · kernel_rfl
  change VOk _ _ _ _ _
  refine vret ?_
  refine post_ret (res2 Tryd.results25 (rv_cell rfl rfl Tryd.underlying29 rfl Tryd.sizeOf29 rfl rfl) (rv_cell rfl rfl Tryd.underlying29 rfl Tryd.sizeOf29 rfl rfl)) ?_
  intro w' hg
  exact ⟨rfl, hg⟩
theorem radd_ne_xy (x1 y1 x2 y2 i s v86 v89 x3 v98 v100 y3 : F) (w : World) (a : x1 ≠ 0) (c : x2 = 0) (d : y2 ≠ 0) (hx : x1 ≠ x2) (hi : (x2 - x1) * i = 1) (e82 : (y2 - y1) * i = s) (e86 : s * s = v86) (e89 : v86 - x1 = v89) (e92 : v89 - x2 = x3) (e98 : x1 - x3 = v98) (e100 : s * v98 = v100) (e103 : v100 - y1 = y3) : Calls Tryd.prog 25 #[NF x1, NF y1, NF x2, NF y2] w fun e w' => e = .returned (.tuple #[NF x3, NF y3]) ∧ Gw w w' := by
  go_enter Tryd.func25, Tryd.ntmps25
  refine ve_go ?_
  simp only [List.map_cons, List.map_nil]
  refine vseq ?_
  apply vrp
  · apply VE.cons
    · exact ev_box rfl rfl (gn rfl) rfl
    simp only [nm3, seval]
    apply VE.cons
    · exact ev_box rfl rfl (gn rfl) rfl
    simp only [nm3, seval]
    apply VE.cons
    · exact ev_box rfl rfl (gn rfl) rfl
    simp only [nm3, seval]
    apply VE.cons
    · exact ev_box rfl rfl (gn rfl) rfl
    simp only [nm3, seval]
    apply VE.cons
    · exact ev_alloc rfl rfl (gn rfl) Tryd.zeroValue29
    simp only [nm3, seval]
    apply VE.cons
    · exact ev_alloc rfl rfl (gn rfl) Tryd.zeroValue29
    simp only [nm3, seval]
    exact VE.nil _
  · kernel_rfl
  change VOk _ _ _ _ _
  refine vseq ?_
  apply vrp
  · apply VE.cons
    · exact ev_call rfl (gn rfl) rfl (en_of Tryd.func28 (by kernel_rfl) rfl) (fun w' hw' => c_P w')
    simp only [nm3, seval]
    apply VE.cons
    · exact ev_alloc rfl rfl (gn rfl) Tryd.zeroValue29
    simp only [nm3, seval]
    apply VE.cons
    · exact ev_store rfl (gn rfl) rfl rfl rfl Tryd.sizeOf29 rfl (by simp) rfl
    simp only [nm3, seval]
    exact VE.nil _
  · kernel_rfl
  change VOk _ _ _ _ _
  refine vseq ?_
  apply vrp
  · apply VE.cons
    · exact ev_build rfl (gn rfl) rfl built29_0
    simp only [nm3, seval]
    apply VE.cons
    · exact ev_alloc rfl rfl (gn rfl) Tryd.zeroValue29
    simp only [nm3, seval]
    apply VE.cons
    · exact ev_store rfl (gn rfl) rfl rfl rfl Tryd.sizeOf29 rfl (by simp) rfl
    simp only [nm3, seval]
    exact VE.nil _
  · kernel_rfl
  change VOk _ _ _ _ _
  refine vseq ?_
  refine vseq ?_
  apply vrp
  · apply VE.cons
    · first | exact ev_load rfl (gn rfl) rfl rfl Tryd.underlying29 rfl Tryd.sizeOf29 rfl rfl | exact ev_loadx rfl (gn rfl) rfl Tryd.underlying29 rfl Tryd.sizeOf29 (by assumption) rfl
    simp only [nm3, seval]
    apply VE.cons
    · first | exact ev_load rfl (gn rfl) rfl rfl Tryd.underlying29 rfl Tryd.sizeOf29 rfl rfl | exact ev_loadx rfl (gn rfl) rfl Tryd.underlying29 rfl Tryd.sizeOf29 (by assumption) rfl
    simp only [nm3, seval]
    apply VE.cons
    · exact ev_bin (c := .bool false) rfl (gn rfl) rfl rfl (fun w => z29_f a _ _ w)
    simp only [nm3, seval]
    apply VE.cons
    · exact ev_move rfl (gn rfl)
    simp only [nm3, seval]
    apply VE.cons
    · first | exact Ev.skip (fun _ => rfl) | exact ev_load rfl (fun _ => rfl) rfl rfl Tryd.underlying29 rfl Tryd.sizeOf29 rfl rfl | exact ev_loadx rfl (fun _ => rfl) rfl Tryd.underlying29 rfl Tryd.sizeOf29 (by assumption) rfl
    simp only [nm3, seval]
    apply VE.cons
    · first | exact Ev.skip (fun _ => rfl) | exact ev_load rfl (fun _ => rfl) rfl rfl Tryd.underlying29 rfl Tryd.sizeOf29 rfl rfl | exact ev_loadx rfl (fun _ => rfl) rfl Tryd.underlying29 rfl Tryd.sizeOf29 (by assumption) rfl
    simp only [nm3, seval]
    apply VE.cons
    · first | exact Ev.skip (fun _ => rfl) | refine ev_pure' (fun _ => rfl) (fun ρ w => by simp only [VS.act, SV.c, List.map_cons, List.map_nil]; go_simp; exact rfl) (fun _ _ => rfl)
    simp only [nm3, seval]
    apply VE.cons
    · first | exact ev_pick_t rfl (gn rfl) rfl rfl | exact ev_pick_f rfl (gn rfl) rfl rfl
    simp only [nm3, seval]
    exact VE.nil _
  · kernel_rfl
  change VOk _ _ _ _ _
  refine vcond_f rfl ?_
  refine vskip ?_
  change VOk _ _ _ _ _
  refine vseq ?_
  refine vseq ?_
  apply vrp
  · apply VE.cons
    · first | exact ev_load rfl (gn rfl) rfl rfl Tryd.underlying29 rfl Tryd.sizeOf29 rfl rfl | exact ev_loadx rfl (gn rfl) rfl Tryd.underlying29 rfl Tryd.sizeOf29 (by assumption) rfl
    simp only [nm3, seval]
    apply VE.cons
    · first | exact ev_load rfl (gn rfl) rfl rfl Tryd.underlying29 rfl Tryd.sizeOf29 rfl rfl | exact ev_loadx rfl (gn rfl) rfl Tryd.underlying29 rfl Tryd.sizeOf29 (by assumption) rfl
    simp only [nm3, seval]
    apply VE.cons
    · exact ev_bin (c := .bool true) rfl (gn rfl) rfl rfl (fun w => z29_t c _ _ w)
    simp only [nm3, seval]
    apply VE.cons
    · exact ev_move rfl (gn rfl)
    simp only [nm3, seval]
    apply VE.cons
    · first | exact Ev.skip (fun _ => rfl) | exact ev_load rfl (fun _ => rfl) rfl rfl Tryd.underlying29 rfl Tryd.sizeOf29 rfl rfl | exact ev_loadx rfl (fun _ => rfl) rfl Tryd.underlying29 rfl Tryd.sizeOf29 (by assumption) rfl
    simp only [nm3, seval]
    apply VE.cons
    · first | exact Ev.skip (fun _ => rfl) | exact ev_load rfl (fun _ => rfl) rfl rfl Tryd.underlying29 rfl Tryd.sizeOf29 rfl rfl | exact ev_loadx rfl (fun _ => rfl) rfl Tryd.underlying29 rfl Tryd.sizeOf29 (by assumption) rfl
    simp only [nm3, seval]
    apply VE.cons
    · first | exact Ev.skip (fun _ => rfl) | exact ev_bin (c := .bool false) rfl (fun _ => rfl) rfl rfl (fun w => z29_f d _ _ w)
    simp only [nm3, seval]
    apply VE.cons
    · first | exact ev_pick_t rfl (gn rfl) rfl rfl | exact ev_pick_f rfl (gn rfl) rfl rfl
    simp only [nm3, seval]
    exact VE.nil _
  · kernel_rfl
  change VOk _ _ _ _ _
  refine vcond_f rfl ?_
  refine vskip ?_
  change VOk _ _ _ _ _
  refine vseq ?_
  apply vrd (by kernel_rfl)
  · apply VE.cons
    · first | exact ev_load rfl (gn rfl) rfl rfl Tryd.underlying29 rfl Tryd.sizeOf29 rfl rfl | exact ev_loadx rfl (gn rfl) rfl Tryd.underlying29 rfl Tryd.sizeOf29 (by assumption) rfl
    simp only [nm3, seval]
    apply VE.cons
    · first | exact ev_load rfl (gn rfl) rfl rfl Tryd.underlying29 rfl Tryd.sizeOf29 rfl rfl | exact ev_loadx rfl (gn rfl) rfl Tryd.underlying29 rfl Tryd.sizeOf29 (by assumption) rfl
    simp only [nm3, seval]
    apply VE.cons
    · first | exact ev_load rfl (gn rfl) rfl rfl Tryd.underlying29 rfl Tryd.sizeOf29 rfl rfl | exact ev_loadx rfl (gn rfl) rfl Tryd.underlying29 rfl Tryd.sizeOf29 (by assumption) rfl
    simp only [nm3, seval]
    apply VE.cons
    · exact ev_call rfl (gn rfl) rfl (en_of Tryd.func23 (by kernel_rfl) rfl) (fun w' hw' => rsubF _ _ w')
    simp only [nm3, seval]
    apply VE.cons
    · first | exact ev_load rfl (gn rfl) rfl rfl Tryd.underlying29 rfl Tryd.sizeOf29 rfl rfl | exact ev_loadx rfl (gn rfl) rfl Tryd.underlying29 rfl Tryd.sizeOf29 (by assumption) rfl
    simp only [nm3, seval]
    apply VE.cons
    · first | exact ev_load rfl (gn rfl) rfl rfl Tryd.underlying29 rfl Tryd.sizeOf29 rfl rfl | exact ev_loadx rfl (gn rfl) rfl Tryd.underlying29 rfl Tryd.sizeOf29 (by assumption) rfl
    simp only [nm3, seval]
    apply VE.cons
    · first | exact ev_load rfl (gn rfl) rfl rfl Tryd.underlying29 rfl Tryd.sizeOf29 rfl rfl | exact ev_loadx rfl (gn rfl) rfl Tryd.underlying29 rfl Tryd.sizeOf29 (by assumption) rfl
    simp only [nm3, seval]
    apply VE.cons
    · exact ev_call rfl (gn rfl) rfl (en_of Tryd.func23 (by kernel_rfl) rfl) (fun w' hw' => rsubF _ _ w')
    simp only [nm3, seval]
    apply VE.cons
    · exact ev_alloc rfl rfl (gn rfl) Tryd.zeroValue29
    simp only [nm3, seval]
    apply VE.cons
    · exact ev_alloc rfl rfl (gn rfl) Tryd.zeroValue29
    simp only [nm3, seval]
    apply VE.cons
    · exact ev_store rfl (gn rfl) rfl rfl rfl Tryd.sizeOf29 rfl (by simp) rfl
    simp only [nm3, seval]
    apply VE.cons
    · exact ev_store rfl (gn rfl) rfl rfl rfl Tryd.sizeOf29 rfl (by simp) rfl
    simp only [nm3, seval]
    exact VE.nil _
  · kernel_rfl
  change VOk _ _ _ _ _
  refine vseq ?_
  refine vseq ?_
  apply vrp
  · apply VE.cons
    · first | exact ev_load rfl (gn rfl) rfl rfl Tryd.underlying29 rfl Tryd.sizeOf29 rfl rfl | exact ev_loadx rfl (gn rfl) rfl Tryd.underlying29 rfl Tryd.sizeOf29 (by assumption) rfl
    simp only [nm3, seval]
    apply VE.cons
    · first | exact ev_load rfl (gn rfl) rfl rfl Tryd.underlying29 rfl Tryd.sizeOf29 rfl rfl | exact ev_loadx rfl (gn rfl) rfl Tryd.underlying29 rfl Tryd.sizeOf29 (by assumption) rfl
    simp only [nm3, seval]
    apply VE.cons
    · exact ev_bin (c := .bool false) rfl (gn rfl) rfl rfl (fun w => e29_f hx _ _ w)
    simp only [nm3, seval]
    exact VE.nil _
  · kernel_rfl
  change VOk _ _ _ _ _
  refine vcond_f rfl ?_
  refine vskip ?_
  change VOk _ _ _ _ _
  refine vseq ?_
  apply vrp
  · apply VE.cons
    · first | exact ev_load rfl (gn rfl) rfl rfl Tryd.underlying29 rfl Tryd.sizeOf29 rfl rfl | exact ev_loadx rfl (gn rfl) rfl Tryd.underlying29 rfl Tryd.sizeOf29 (by assumption) rfl
    simp only [nm3, seval]
    apply VE.cons
    · exact ev_build rfl (gn rfl) rfl built29_two
    simp only [nm3, seval]
    apply VE.cons
    · first | exact ev_load rfl (gn rfl) rfl rfl Tryd.underlying29 rfl Tryd.sizeOf29 rfl rfl | exact ev_loadx rfl (gn rfl) rfl Tryd.underlying29 rfl Tryd.sizeOf29 (by assumption) rfl
    simp only [nm3, seval]
    apply VE.cons
    · exact ev_call rfl (gn rfl) rfl (en_of Tryd.func23 (by kernel_rfl) rfl) (fun w' hw' => rsub2 w')
    simp only [nm3, seval]
    apply VE.cons
    · exact ev_alloc rfl rfl (gn rfl) Tryd.zeroValue29
    simp only [nm3, seval]
    apply VE.cons
    · exact ev_store rfl (gn rfl) rfl rfl rfl Tryd.sizeOf29 rfl (by simp) rfl
    simp only [nm3, seval]
    exact VE.nil _
  · kernel_rfl
  change VOk _ _ _ _ _
  refine vseq ?_
  apply vrd (by kernel_rfl)
  · apply VE.cons
    · first | exact ev_load rfl (gn rfl) rfl rfl Tryd.underlying29 rfl Tryd.sizeOf29 rfl rfl | exact ev_loadx rfl (gn rfl) rfl Tryd.underlying29 rfl Tryd.sizeOf29 (by assumption) rfl
    simp only [nm3, seval]
    apply VE.cons
    · first | exact ev_load rfl (gn rfl) rfl rfl Tryd.underlying29 rfl Tryd.sizeOf29 rfl rfl | exact ev_loadx rfl (gn rfl) rfl Tryd.underlying29 rfl Tryd.sizeOf29 (by assumption) rfl
    simp only [nm3, seval]
    apply VE.cons
    · first | exact ev_load rfl (gn rfl) rfl rfl Tryd.underlying29 rfl Tryd.sizeOf29 rfl rfl | exact ev_loadx rfl (gn rfl) rfl Tryd.underlying29 rfl Tryd.sizeOf29 (by assumption) rfl
    simp only [nm3, seval]
    apply VE.cons
    · first | exact ev_load rfl (gn rfl) rfl rfl Tryd.underlying29 rfl Tryd.sizeOf29 rfl rfl | exact ev_loadx rfl (gn rfl) rfl Tryd.underlying29 rfl Tryd.sizeOf29 (by assumption) rfl
    simp only [nm3, seval]
    apply VE.cons
    · exact ev_call rfl (gn rfl) rfl (en_of Tryd.func48 (by kernel_rfl) rfl) (fun w' hw' => rpowF hi w')
    simp only [nm3, seval]
    apply VE.cons
    · first | exact ev_load rfl (gn rfl) rfl rfl Tryd.underlying29 rfl Tryd.sizeOf29 rfl rfl | exact ev_loadx rfl (gn rfl) rfl Tryd.underlying29 rfl Tryd.sizeOf29 (by assumption) rfl
    simp only [nm3, seval]
    apply VE.cons
    · exact ev_call rfl (gn rfl) rfl (en_of Tryd.func38 (by kernel_rfl) rfl) (fun w' hw' => rmulE e82 w')
    simp only [nm3, seval]
    apply VE.cons
    · exact ev_alloc rfl rfl (gn rfl) Tryd.zeroValue29
    simp only [nm3, seval]
    apply VE.cons
    · exact ev_store rfl (gn rfl) rfl rfl rfl Tryd.sizeOf29 rfl (by simp) rfl
    simp only [nm3, seval]
    exact VE.nil _
  · kernel_rfl
  change VOk _ _ _ _ _
  refine vseq ?_
  apply vrd (by kernel_rfl)
  · apply VE.cons
    · first | exact ev_load rfl (gn rfl) rfl rfl Tryd.underlying29 rfl Tryd.sizeOf29 rfl rfl | exact ev_loadx rfl (gn rfl) rfl Tryd.underlying29 rfl Tryd.sizeOf29 (by assumption) rfl
    simp only [nm3, seval]
    apply VE.cons
    · first | exact ev_load rfl (gn rfl) rfl rfl Tryd.underlying29 rfl Tryd.sizeOf29 rfl rfl | exact ev_loadx rfl (gn rfl) rfl Tryd.underlying29 rfl Tryd.sizeOf29 (by assumption) rfl
    simp only [nm3, seval]
    apply VE.cons
    · first | exact ev_load rfl (gn rfl) rfl rfl Tryd.underlying29 rfl Tryd.sizeOf29 rfl rfl | exact ev_loadx rfl (gn rfl) rfl Tryd.underlying29 rfl Tryd.sizeOf29 (by assumption) rfl
    simp only [nm3, seval]
    apply VE.cons
    · exact ev_call rfl (gn rfl) rfl (en_of Tryd.func38 (by kernel_rfl) rfl) (fun w' hw' => rmulE e86 w')
    simp only [nm3, seval]
    apply VE.cons
    · first | exact ev_load rfl (gn rfl) rfl rfl Tryd.underlying29 rfl Tryd.sizeOf29 rfl rfl | exact ev_loadx rfl (gn rfl) rfl Tryd.underlying29 rfl Tryd.sizeOf29 (by assumption) rfl
    simp only [nm3, seval]
    apply VE.cons
    · first | exact ev_load rfl (gn rfl) rfl rfl Tryd.underlying29 rfl Tryd.sizeOf29 rfl rfl | exact ev_loadx rfl (gn rfl) rfl Tryd.underlying29 rfl Tryd.sizeOf29 (by assumption) rfl
    simp only [nm3, seval]
    apply VE.cons
    · exact ev_call rfl (gn rfl) rfl (en_of Tryd.func23 (by kernel_rfl) rfl) (fun w' hw' => rsubE e89 w')
    simp only [nm3, seval]
    apply VE.cons
    · first | exact ev_load rfl (gn rfl) rfl rfl Tryd.underlying29 rfl Tryd.sizeOf29 rfl rfl | exact ev_loadx rfl (gn rfl) rfl Tryd.underlying29 rfl Tryd.sizeOf29 (by assumption) rfl
    simp only [nm3, seval]
    apply VE.cons
    · first | exact ev_load rfl (gn rfl) rfl rfl Tryd.underlying29 rfl Tryd.sizeOf29 rfl rfl | exact ev_loadx rfl (gn rfl) rfl Tryd.underlying29 rfl Tryd.sizeOf29 (by assumption) rfl
    simp only [nm3, seval]
    apply VE.cons
    · exact ev_call rfl (gn rfl) rfl (en_of Tryd.func23 (by kernel_rfl) rfl) (fun w' hw' => rsubE e92 w')
    simp only [nm3, seval]
    apply VE.cons
    · exact ev_alloc rfl rfl (gn rfl) Tryd.zeroValue29
    simp only [nm3, seval]
    apply VE.cons
    · exact ev_store rfl (gn rfl) rfl rfl rfl Tryd.sizeOf29 rfl (by simp) rfl
    simp only [nm3, seval]
    exact VE.nil _
  · kernel_rfl
  change VOk _ _ _ _ _
  refine vseq ?_
  apply vrd (by kernel_rfl)
  · apply VE.cons
    · first | exact ev_load rfl (gn rfl) rfl rfl Tryd.underlying29 rfl Tryd.sizeOf29 rfl rfl | exact ev_loadx rfl (gn rfl) rfl Tryd.underlying29 rfl Tryd.sizeOf29 (by assumption) rfl
    simp only [nm3, seval]
    apply VE.cons
    · first | exact ev_load rfl (gn rfl) rfl rfl Tryd.underlying29 rfl Tryd.sizeOf29 rfl rfl | exact ev_loadx rfl (gn rfl) rfl Tryd.underlying29 rfl Tryd.sizeOf29 (by assumption) rfl
    simp only [nm3, seval]
    apply VE.cons
    · first | exact ev_load rfl (gn rfl) rfl rfl Tryd.underlying29 rfl Tryd.sizeOf29 rfl rfl | exact ev_loadx rfl (gn rfl) rfl Tryd.underlying29 rfl Tryd.sizeOf29 (by assumption) rfl
    simp only [nm3, seval]
    apply VE.cons
    · first | exact ev_load rfl (gn rfl) rfl rfl Tryd.underlying29 rfl Tryd.sizeOf29 rfl rfl | exact ev_loadx rfl (gn rfl) rfl Tryd.underlying29 rfl Tryd.sizeOf29 (by assumption) rfl
    simp only [nm3, seval]
    apply VE.cons
    · first | exact ev_load rfl (gn rfl) rfl rfl Tryd.underlying29 rfl Tryd.sizeOf29 rfl rfl | exact ev_loadx rfl (gn rfl) rfl Tryd.underlying29 rfl Tryd.sizeOf29 (by assumption) rfl
    simp only [nm3, seval]
    apply VE.cons
    · exact ev_call rfl (gn rfl) rfl (en_of Tryd.func23 (by kernel_rfl) rfl) (fun w' hw' => rsubE e98 w')
    simp only [nm3, seval]
    apply VE.cons
    · first | exact ev_load rfl (gn rfl) rfl rfl Tryd.underlying29 rfl Tryd.sizeOf29 rfl rfl | exact ev_loadx rfl (gn rfl) rfl Tryd.underlying29 rfl Tryd.sizeOf29 (by assumption) rfl
    simp only [nm3, seval]
    apply VE.cons
    · exact ev_call rfl (gn rfl) rfl (en_of Tryd.func38 (by kernel_rfl) rfl) (fun w' hw' => rmulE e100 w')
    simp only [nm3, seval]
    apply VE.cons
    · first | exact ev_load rfl (gn rfl) rfl rfl Tryd.underlying29 rfl Tryd.sizeOf29 rfl rfl | exact ev_loadx rfl (gn rfl) rfl Tryd.underlying29 rfl Tryd.sizeOf29 (by assumption) rfl
    simp only [nm3, seval]
    apply VE.cons
    · first | exact ev_load rfl (gn rfl) rfl rfl Tryd.underlying29 rfl Tryd.sizeOf29 rfl rfl | exact ev_loadx rfl (gn rfl) rfl Tryd.underlying29 rfl Tryd.sizeOf29 (by assumption) rfl
    simp only [nm3, seval]
    apply VE.cons
    · exact ev_call rfl (gn rfl) rfl (en_of Tryd.func23 (by kernel_rfl) rfl) (fun w' hw' => rsubE e103 w')
    simp only [nm3, seval]
    apply VE.cons
    · exact ev_store rfl (gn rfl) rfl rfl rfl Tryd.sizeOf29 rfl (by simp) rfl
    simp only [nm3, seval]
    apply VE.cons
    · exact ev_store rfl (gn rfl) rfl rfl rfl Tryd.sizeOf29 rfl (by simp) rfl
    simp only [nm3, seval]
    exact VE.nil _
  · kernel_rfl
  change VOk _ _ _ _ _
  refine vret ?_
  refine post_ret (res2 Tryd.results25 (rv_cell rfl rfl Tryd.underlying29 rfl Tryd.sizeOf29 rfl rfl) (rv_cell rfl rfl Tryd.underlying29 rfl Tryd.sizeOf29 rfl rfl)) ?_
  intro w' hg
  exact ⟨rfl, hg⟩
theorem radd_inf_xy (x1 y1 x2 y2 : F) (w : World) (a : x1 ≠ 0) (c : x2 = 0) (d : y2 ≠ 0) (hx : x1 = x2) (hs : y1 + y2 = 0) : Calls Tryd.prog 25 #[NF x1, NF y1, NF x2, NF y2] w fun e w' => e = .returned (.tuple #[.agg #[.int .u64 0, .int .u64 0, .int .u64 0, .int .u64 0], .agg #[.int .u64 0, .int .u64 0, .int .u64 0, .int .u64 0]]) ∧ Gw w w' := by
  go_enter Tryd.func25, Tryd.ntmps25
  refine ve_go ?_
  simp only [List.map_cons, List.map_nil]
  refine vseq ?_
  apply vrp
  · apply VE.cons
    · exact ev_box rfl rfl (gn rfl) rfl
    simp only [nm3, seval]
    apply VE.cons
    · exact ev_box rfl rfl (gn rfl) rfl
    simp only [nm3, seval]
    apply VE.cons
    · exact ev_box rfl rfl (gn rfl) rfl
    simp only [nm3, seval]
    apply VE.cons
    · exact ev_box rfl rfl (gn rfl) rfl
    simp only [nm3, seval]
    apply VE.cons
    · exact ev_alloc rfl rfl (gn rfl) Tryd.zeroValue29
    simp only [nm3, seval]
    apply VE.cons
    · exact ev_alloc rfl rfl (gn rfl) Tryd.zeroValue29
    simp only [nm3, seval]
    exact VE.nil _
  · kernel_rfl
  change VOk _ _ _ _ _
  refine vseq ?_
  apply vrp
  · apply VE.cons
    · exact ev_call rfl (gn rfl) rfl (en_of Tryd.func28 (by kernel_rfl) rfl) (fun w' hw' => c_P w')
    simp only [nm3, seval]
    apply VE.cons
    · exact ev_alloc rfl rfl (gn rfl) Tryd.zeroValue29
    simp only [nm3, seval]
    apply VE.cons
    · exact ev_store rfl (gn rfl) rfl rfl rfl Tryd.sizeOf29 rfl (by simp) rfl
    simp only [nm3, seval]
    exact VE.nil _
  · kernel_rfl
  change VOk _ _ _ _ _
  refine vseq ?_
  apply vrp
  · apply VE.cons
    · exact ev_build rfl (gn rfl) rfl built29_0
    simp only [nm3, seval]
    apply VE.cons
    · exact ev_alloc rfl rfl (gn rfl) Tryd.zeroValue29
    simp only [nm3, seval]
    apply VE.cons
    · exact ev_store rfl (gn rfl) rfl rfl rfl Tryd.sizeOf29 rfl (by simp) rfl
    simp only [nm3, seval]
    exact VE.nil _
  · kernel_rfl
  change VOk _ _ _ _ _
  refine vseq ?_
  refine vseq ?_
  apply vrp
  · apply VE.cons
    · first | exact ev_load rfl (gn rfl) rfl rfl Tryd.underlying29 rfl Tryd.sizeOf29 rfl rfl | exact ev_loadx rfl (gn rfl) rfl Tryd.underlying29 rfl Tryd.sizeOf29 (by assumption) rfl
    simp only [nm3, seval]
    apply VE.cons
    · first | exact ev_load rfl (gn rfl) rfl rfl Tryd.underlying29 rfl Tryd.sizeOf29 rfl rfl | exact ev_loadx rfl (gn rfl) rfl Tryd.underlying29 rfl Tryd.sizeOf29 (by assumption) rfl
    simp only [nm3, seval]
    apply VE.cons
    · exact ev_bin (c := .bool false) rfl (gn rfl) rfl rfl (fun w => z29_f a _ _ w)
    simp only [nm3, seval]
    apply VE.cons
    · exact ev_move rfl (gn rfl)
    simp only [nm3, seval]
    apply VE.cons
    · first | exact Ev.skip (fun _ => rfl) | exact ev_load rfl (fun _ => rfl) rfl rfl Tryd.underlying29 rfl Tryd.sizeOf29 rfl rfl | exact ev_loadx rfl (fun _ => rfl) rfl Tryd.underlying29 rfl Tryd.sizeOf29 (by assumption) rfl
    simp only [nm3, seval]
    apply VE.cons
    · first | exact Ev.skip (fun _ => rfl) | exact ev_load rfl (fun _ => rfl) rfl rfl Tryd.underlying29 rfl Tryd.sizeOf29 rfl rfl | exact ev_loadx rfl (fun _ => rfl) rfl Tryd.underlying29 rfl Tryd.sizeOf29 (by assumption) rfl
    simp only [nm3, seval]
    apply VE.cons
    · first | exact Ev.skip (fun _ => rfl) | refine ev_pure' (fun _ => rfl) (fun ρ w => by simp only [VS.act, SV.c, List.map_cons, List.map_nil]; go_simp; exact rfl) (fun _ _ => rfl)
    simp only [nm3, seval]
    apply VE.cons
    · first | exact ev_pick_t rfl (gn rfl) rfl rfl | exact ev_pick_f rfl (gn rfl) rfl rfl
    simp only [nm3, seval]
    exact VE.nil _
  · kernel_rfl
  change VOk _ _ _ _ _
  refine vcond_f rfl ?_
  refine vskip ?_
  change VOk _ _ _ _ _
  refine vseq ?_
  refine vseq ?_
  apply vrp
  · apply VE.cons
    · first | exact ev_load rfl (gn rfl) rfl rfl Tryd.underlying29 rfl Tryd.sizeOf29 rfl rfl | exact ev_loadx rfl (gn rfl) rfl Tryd.underlying29 rfl Tryd.sizeOf29 (by assumption) rfl
    simp only [nm3, seval]
    apply VE.cons
    · first | exact ev_load rfl (gn rfl) rfl rfl Tryd.underlying29 rfl Tryd.sizeOf29 rfl rfl | exact ev_loadx rfl (gn rfl) rfl Tryd.underlying29 rfl Tryd.sizeOf29 (by assumption) rfl
    simp only [nm3, seval]
    apply VE.cons
    · exact ev_bin (c := .bool true) rfl (gn rfl) rfl rfl (fun w => z29_t c _ _ w)
    simp only [nm3, seval]
    apply VE.cons
    · exact ev_move rfl (gn rfl)
    simp only [nm3, seval]
    apply VE.cons
    · first | exact Ev.skip (fun _ => rfl) | exact ev_load rfl (fun _ => rfl) rfl rfl Tryd.underlying29 rfl Tryd.sizeOf29 rfl rfl | exact ev_loadx rfl (fun _ => rfl) rfl Tryd.underlying29 rfl Tryd.sizeOf29 (by assumption) rfl
    simp only [nm3, seval]
    apply VE.cons
    · first | exact Ev.skip (fun _ => rfl) | exact ev_load rfl (fun _ => rfl) rfl rfl Tryd.underlying29 rfl Tryd.sizeOf29 rfl rfl | exact ev_loadx rfl (fun _ => rfl) rfl Tryd.underlying29 rfl Tryd.sizeOf29 (by assumption) rfl
    simp only [nm3, seval]
    apply VE.cons
    · first | exact Ev.skip (fun _ => rfl) | exact ev_bin (c := .bool false) rfl (fun _ => rfl) rfl rfl (fun w => z29_f d _ _ w)
    simp only [nm3, seval]
    apply VE.cons
    · first | exact ev_pick_t rfl (gn rfl) rfl rfl | exact ev_pick_f rfl (gn rfl) rfl rfl
    simp only [nm3, seval]
    exact VE.nil _
  · kernel_rfl
  change VOk _ _ _ _ _
  refine vcond_f rfl ?_
  refine vskip ?_
  change VOk _ _ _ _ _
  refine vseq ?_
  apply vrd (by kernel_rfl)
  · apply VE.cons
    · first | exact ev_load rfl (gn rfl) rfl rfl Tryd.underlying29 rfl Tryd.sizeOf29 rfl rfl | exact ev_loadx rfl (gn rfl) rfl Tryd.underlying29 rfl Tryd.sizeOf29 (by assumption) rfl
    simp only [nm3, seval]
    apply VE.cons
    · first | exact ev_load rfl (gn rfl) rfl rfl Tryd.underlying29 rfl Tryd.sizeOf29 rfl rfl | exact ev_loadx rfl (gn rfl) rfl Tryd.underlying29 rfl Tryd.sizeOf29 (by assumption) rfl
    simp only [nm3, seval]
    apply VE.cons
    · first | exact ev_load rfl (gn rfl) rfl rfl Tryd.underlying29 rfl Tryd.sizeOf29 rfl rfl | exact ev_loadx rfl (gn rfl) rfl Tryd.underlying29 rfl Tryd.sizeOf29 (by assumption) rfl
    simp only [nm3, seval]
    apply VE.cons
    · exact ev_call rfl (gn rfl) rfl (en_of Tryd.func23 (by kernel_rfl) rfl) (fun w' hw' => rsubF _ _ w')
    simp only [nm3, seval]
    apply VE.cons
    · first | exact ev_load rfl (gn rfl) rfl rfl Tryd.underlying29 rfl Tryd.sizeOf29 rfl rfl | exact ev_loadx rfl (gn rfl) rfl Tryd.underlying29 rfl Tryd.sizeOf29 (by assumption) rfl
    simp only [nm3, seval]
    apply VE.cons
    · first | exact ev_load rfl (gn rfl) rfl rfl Tryd.underlying29 rfl Tryd.sizeOf29 rfl rfl | exact ev_loadx rfl (gn rfl) rfl Tryd.underlying29 rfl Tryd.sizeOf29 (by assumption) rfl
    simp only [nm3, seval]
    apply VE.cons
    · first | exact ev_load rfl (gn rfl) rfl rfl Tryd.underlying29 rfl Tryd.sizeOf29 rfl rfl | exact ev_loadx rfl (gn rfl) rfl Tryd.underlying29 rfl Tryd.sizeOf29 (by assumption) rfl
    simp only [nm3, seval]
    apply VE.cons
    · exact ev_call rfl (gn rfl) rfl (en_of Tryd.func23 (by kernel_rfl) rfl) (fun w' hw' => rsubF _ _ w')
    simp only [nm3, seval]
    apply VE.cons
    · exact ev_alloc rfl rfl (gn rfl) Tryd.zeroValue29
    simp only [nm3, seval]
    apply VE.cons
    · exact ev_alloc rfl rfl (gn rfl) Tryd.zeroValue29
    simp only [nm3, seval]
    apply VE.cons
    · exact ev_store rfl (gn rfl) rfl rfl rfl Tryd.sizeOf29 rfl (by simp) rfl
    simp only [nm3, seval]
    apply VE.cons
    · exact ev_store rfl (gn rfl) rfl rfl rfl Tryd.sizeOf29 rfl (by simp) rfl
    simp only [nm3, seval]
    exact VE.nil _
  · kernel_rfl
  change VOk _ _ _ _ _
  refine vseq ?_
  refine vseq ?_
  apply vrp
  · apply VE.cons
    · first | exact ev_load rfl (gn rfl) rfl rfl Tryd.underlying29 rfl Tryd.sizeOf29 rfl rfl | exact ev_loadx rfl (gn rfl) rfl Tryd.underlying29 rfl Tryd.sizeOf29 (by assumption) rfl
    simp only [nm3, seval]
    apply VE.cons
    · first | exact ev_load rfl (gn rfl) rfl rfl Tryd.underlying29 rfl Tryd.sizeOf29 rfl rfl | exact ev_loadx rfl (gn rfl) rfl Tryd.underlying29 rfl Tryd.sizeOf29 (by assumption) rfl
    simp only [nm3, seval]
    apply VE.cons
    · exact ev_bin (c := .bool true) rfl (gn rfl) rfl rfl (fun w => e29_t hx _ _ w)
    simp only [nm3, seval]
    exact VE.nil _
  · kernel_rfl
  change VOk _ _ _ _ _
  refine vcond_t rfl ?_
  refine vseq ?_
  refine vseq ?_
  apply vrd (by kernel_rfl)
  · apply VE.cons
    · first | exact ev_load rfl (gn rfl) rfl rfl Tryd.underlying29 rfl Tryd.sizeOf29 rfl rfl | exact ev_loadx rfl (gn rfl) rfl Tryd.underlying29 rfl Tryd.sizeOf29 (by assumption) rfl
    simp only [nm3, seval]
    apply VE.cons
    · first | exact ev_load rfl (gn rfl) rfl rfl Tryd.underlying29 rfl Tryd.sizeOf29 rfl rfl | exact ev_loadx rfl (gn rfl) rfl Tryd.underlying29 rfl Tryd.sizeOf29 (by assumption) rfl
    simp only [nm3, seval]
    apply VE.cons
    · first | exact ev_load rfl (gn rfl) rfl rfl Tryd.underlying29 rfl Tryd.sizeOf29 rfl rfl | exact ev_loadx rfl (gn rfl) rfl Tryd.underlying29 rfl Tryd.sizeOf29 (by assumption) rfl
    simp only [nm3, seval]
    apply VE.cons
    · exact ev_call rfl (gn rfl) rfl (en_of Tryd.func26 (by kernel_rfl) rfl) (fun w' hw' => raddF _ _ w')
    simp only [nm3, seval]
    apply VE.cons
    · first | exact ev_load rfl (gn rfl) rfl rfl Tryd.underlying29 rfl Tryd.sizeOf29 rfl rfl | exact ev_loadx rfl (gn rfl) rfl Tryd.underlying29 rfl Tryd.sizeOf29 (by assumption) rfl
    simp only [nm3, seval]
    apply VE.cons
    · exact ev_bin (c := .bool true) rfl (gn rfl) rfl rfl (fun w => z29_t hs _ _ w)
    simp only [nm3, seval]
    exact VE.nil _
  · kernel_rfl
  change VOk _ _ _ _ _
  refine vcond_t rfl ?_
  refine vseq ?_
  apply vrd (by kernel_rfl)
  · apply VE.cons
    · first | exact ev_load rfl (gn rfl) rfl rfl Tryd.underlying29 rfl Tryd.sizeOf29 rfl rfl | exact ev_loadx rfl (gn rfl) rfl Tryd.underlying29 rfl Tryd.sizeOf29 (by assumption) rfl
    simp only [nm3, seval]
    apply VE.cons
    · first | exact ev_load rfl (gn rfl) rfl rfl Tryd.underlying29 rfl Tryd.sizeOf29 rfl rfl | exact ev_loadx rfl (gn rfl) rfl Tryd.underlying29 rfl Tryd.sizeOf29 (by assumption) rfl
    simp only [nm3, seval]
    apply VE.cons
    · exact ev_store rfl (gn rfl) rfl rfl rfl Tryd.sizeOf29 rfl (by simp) rfl
    simp only [nm3, seval]
    apply VE.cons
    · exact ev_store rfl (gn rfl) rfl rfl rfl Tryd.sizeOf29 rfl (by simp) rfl
    simp only [nm3, seval]
    exact VE.nil _
  · kernel_rfl
  change VOk _ _ _ _ _
  refine vret ?_
  refine post_ret (res2 Tryd.results25 (rv_cell rfl rfl Tryd.underlying29 rfl Tryd.sizeOf29 rfl rfl) (rv_cell rfl rfl Tryd.underlying29 rfl Tryd.sizeOf29 rfl rfl)) ?_
  intro w' hg
  exact ⟨rfl, hg⟩
theorem radd_tan_xy (x1 y1 x2 y2 i s v86 v89 x3 v98 v100 y3 v62 v65 v67 v71 : F) (w : World) (a : x1 ≠ 0) (c : x2 = 0) (d : y2 ≠ 0) (hx : x1 = x2) (hs : y1 + y2 ≠ 0) (e62 : x1 * x1 = v62) (e65 : v62 - 1 = v65) (e67 : 3 * v65 = v67) (e71 : y1 + y1 = v71) (hi : v71 * i = 1) (e82 : v67 * i = s) (e86 : s * s = v86) (e89 : v86 - x1 = v89) (e92 : v89 - x2 = x3) (e98 : x1 - x3 = v98) (e100 : s * v98 = v100) (e103 : v100 - y1 = y3) : Calls Tryd.prog 25 #[NF x1, NF y1, NF x2, NF y2] w fun e w' => e = .returned (.tuple #[NF x3, NF y3]) ∧ Gw w w' := by
  go_enter Tryd.func25, Tryd.ntmps25
  refine ve_go ?_
  simp only [List.map_cons, List.map_nil]
  refine vseq ?_
  apply vrp
  · apply VE.cons
    · exact ev_box rfl rfl (gn rfl) rfl
    simp only [nm3, seval]
    apply VE.cons
    · exact ev_box rfl rfl (gn rfl) rfl
    simp only [nm3, seval]
    apply VE.cons
    · exact ev_box rfl rfl (gn rfl) rfl
    simp only [nm3, seval]
    apply VE.cons
    · exact ev_box rfl rfl (gn rfl) rfl
    simp only [nm3, seval]
    apply VE.cons
    · exact ev_alloc rfl rfl (gn rfl) Tryd.zeroValue29
    simp only [nm3, seval]
    apply VE.cons
    · exact ev_alloc rfl rfl (gn rfl) Tryd.zeroValue29
    simp only [nm3, seval]
    exact VE.nil _
  · kernel_rfl
  change VOk _ _ _ _ _
  refine vseq ?_
  apply vrp
  · apply VE.cons
    · exact ev_call rfl (gn rfl) rfl (en_of Tryd.func28 (by kernel_rfl) rfl) (fun w' hw' => c_P w')
    simp only [nm3, seval]
    apply VE.cons
    · exact ev_alloc rfl rfl (gn rfl) Tryd.zeroValue29
    simp only [nm3, seval]
    apply VE.cons
    · exact ev_store rfl (gn rfl) rfl rfl rfl Tryd.sizeOf29 rfl (by simp) rfl
    simp only [nm3, seval]
    exact VE.nil _
  · kernel_rfl
  change VOk _ _ _ _ _
  refine vseq ?_
  apply vrp
  · apply VE.cons
    · exact ev_build rfl (gn rfl) rfl built29_0
    simp only [nm3, seval]
    apply VE.cons
    · exact ev_alloc rfl rfl (gn rfl) Tryd.zeroValue29
    simp only [nm3, seval]
    apply VE.cons
    · exact ev_store rfl (gn rfl) rfl rfl rfl Tryd.sizeOf29 rfl (by simp) rfl
    simp only [nm3, seval]
    exact VE.nil _
  · kernel_rfl
  change VOk _ _ _ _ _
  refine vseq ?_
  refine vseq ?_
  apply vrp
  · apply VE.cons
    · first | exact ev_load rfl (gn rfl) rfl rfl Tryd.underlying29 rfl Tryd.sizeOf29 rfl rfl | exact ev_loadx rfl (gn rfl) rfl Tryd.underlying29 rfl Tryd.sizeOf29 (by assumption) rfl
    simp only [nm3, seval]
    apply VE.cons
    · first | exact ev_load rfl (gn rfl) rfl rfl Tryd.underlying29 rfl Tryd.sizeOf29 rfl rfl | exact ev_loadx rfl (gn rfl) rfl Tryd.underlying29 rfl Tryd.sizeOf29 (by assumption) rfl
    simp only [nm3, seval]
    apply VE.cons
    · exact ev_bin (c := .bool false) rfl (gn rfl) rfl rfl (fun w => z29_f a _ _ w)
    simp only [nm3, seval]
    apply VE.cons
    · exact ev_move rfl (gn rfl)
    simp only [nm3, seval]
    apply VE.cons
    · first | exact Ev.skip (fun _ => rfl) | exact ev_load rfl (fun _ => rfl) rfl rfl Tryd.underlying29 rfl Tryd.sizeOf29 rfl rfl | exact ev_loadx rfl (fun _ => rfl) rfl Tryd.underlying29 rfl Tryd.sizeOf29 (by assumption) rfl
    simp only [nm3, seval]
    apply VE.cons
    · first | exact Ev.skip (fun _ => rfl) | exact ev_load rfl (fun _ => rfl) rfl rfl Tryd.underlying29 rfl Tryd.sizeOf29 rfl rfl | exact ev_loadx rfl (fun _ => rfl) rfl Tryd.underlying29 rfl Tryd.sizeOf29 (by assumption) rfl
    simp only [nm3, seval]
    apply VE.cons
    · first | exact Ev.skip (fun _ => rfl) | refine ev_pure' (fun _ => rfl) (fun ρ w => by simp only [VS.act, SV.c, List.map_cons, List.map_nil]; go_simp; exact rfl) (fun _ _ => rfl)
    simp only [nm3, seval]
    apply VE.cons
    · first | exact ev_pick_t rfl (gn rfl) rfl rfl | exact ev_pick_f rfl (gn rfl) rfl rfl
    simp only [nm3, seval]
    exact VE.nil _
  · kernel_rfl
  change VOk _ _ _ _ _
  refine vcond_f rfl ?_
  refine vskip ?_
  change VOk _ _ _ _ _
  refine vseq ?_
  refine vseq ?_
  apply vrp
  · apply VE.cons
    · first | exact ev_load rfl (gn rfl) rfl rfl Tryd.underlying29 rfl Tryd.sizeOf29 rfl rfl | exact ev_loadx rfl (gn rfl) rfl Tryd.underlying29 rfl Tryd.sizeOf29 (by assumption) rfl
    simp only [nm3, seval]
    apply VE.cons
    · first | exact ev_load rfl (gn rfl) rfl rfl Tryd.underlying29 rfl Tryd.sizeOf29 rfl rfl | exact ev_loadx rfl (gn rfl) rfl Tryd.underlying29 rfl Tryd.sizeOf29 (by assumption) rfl
    simp only [nm3, seval]
    apply VE.cons
    · exact ev_bin (c := .bool true) rfl (gn rfl) rfl rfl (fun w => z29_t c _ _ w)
    simp only [nm3, seval]
    apply VE.cons
    · exact ev_move rfl (gn rfl)
    simp only [nm3, seval]
    apply VE.cons
    · first | exact Ev.skip (fun _ => rfl) | exact ev_load rfl (fun _ => rfl) rfl rfl Tryd.underlying29 rfl Tryd.sizeOf29 rfl rfl | exact ev_loadx rfl (fun _ => rfl) rfl Tryd.underlying29 rfl Tryd.sizeOf29 (by assumption) rfl
    simp only [nm3, seval]
    apply VE.cons
    · first | exact Ev.skip (fun _ => rfl) | exact ev_load rfl (fun _ => rfl) rfl rfl Tryd.underlying29 rfl Tryd.sizeOf29 rfl rfl | exact ev_loadx rfl (fun _ => rfl) rfl Tryd.underlying29 rfl Tryd.sizeOf29 (by assumption) rfl
    simp only [nm3, seval]
    apply VE.cons
    · first | exact Ev.skip (fun _ => rfl) | exact ev_bin (c := .bool false) rfl (fun _ => rfl) rfl rfl (fun w => z29_f d _ _ w)
    simp only [nm3, seval]
    apply VE.cons
    · first | exact ev_pick_t rfl (gn rfl) rfl rfl | exact ev_pick_f rfl (gn rfl) rfl rfl
    simp only [nm3, seval]
    exact VE.nil _
  · kernel_rfl
  change VOk _ _ _ _ _
  refine vcond_f rfl ?_
  refine vskip ?_
  change VOk _ _ _ _ _
  refine vseq ?_
  apply vrd (by kernel_rfl)
  · apply VE.cons
    · first | exact ev_load rfl (gn rfl) rfl rfl Tryd.underlying29 rfl Tryd.sizeOf29 rfl rfl | exact ev_loadx rfl (gn rfl) rfl Tryd.underlying29 rfl Tryd.sizeOf29 (by assumption) rfl
    simp only [nm3, seval]
    apply VE.cons
    · first | exact ev_load rfl (gn rfl) rfl rfl Tryd.underlying29 rfl Tryd.sizeOf29 rfl rfl | exact ev_loadx rfl (gn rfl) rfl Tryd.underlying29 rfl Tryd.sizeOf29 (by assumption) rfl
    simp only [nm3, seval]
    apply VE.cons
    · first | exact ev_load rfl (gn rfl) rfl rfl Tryd.underlying29 rfl Tryd.sizeOf29 rfl rfl | exact ev_loadx rfl (gn rfl) rfl Tryd.underlying29 rfl Tryd.sizeOf29 (by assumption) rfl
    simp only [nm3, seval]
    apply VE.cons
    · exact ev_call rfl (gn rfl) rfl (en_of Tryd.func23 (by kernel_rfl) rfl) (fun w' hw' => rsubF _ _ w')
    simp only [nm3, seval]
    apply VE.cons
    · first | exact ev_load rfl (gn rfl) rfl rfl Tryd.underlying29 rfl Tryd.sizeOf29 rfl rfl | exact ev_loadx rfl (gn rfl) rfl Tryd.underlying29 rfl Tryd.sizeOf29 (by assumption) rfl
    simp only [nm3, seval]
    apply VE.cons
    · first | exact ev_load rfl (gn rfl) rfl rfl Tryd.underlying29 rfl Tryd.sizeOf29 rfl rfl | exact ev_loadx rfl (gn rfl) rfl Tryd.underlying29 rfl Tryd.sizeOf29 (by assumption) rfl
    simp only [nm3, seval]
    apply VE.cons
    · first | exact ev_load rfl (gn rfl) rfl rfl Tryd.underlying29 rfl Tryd.sizeOf29 rfl rfl | exact ev_loadx rfl (gn rfl) rfl Tryd.underlying29 rfl Tryd.sizeOf29 (by assumption) rfl
    simp only [nm3, seval]
    apply VE.cons
    · exact ev_call rfl (gn rfl) rfl (en_of Tryd.func23 (by kernel_rfl) rfl) (fun w' hw' => rsubF _ _ w')
    simp only [nm3, seval]
    apply VE.cons
    · exact ev_alloc rfl rfl (gn rfl) Tryd.zeroValue29
    simp only [nm3, seval]
    apply VE.cons
    · exact ev_alloc rfl rfl (gn rfl) Tryd.zeroValue29
    simp only [nm3, seval]
    apply VE.cons
    · exact ev_store rfl (gn rfl) rfl rfl rfl Tryd.sizeOf29 rfl (by simp) rfl
    simp only [nm3, seval]
    apply VE.cons
    · exact ev_store rfl (gn rfl) rfl rfl rfl Tryd.sizeOf29 rfl (by simp) rfl
    simp only [nm3, seval]
    exact VE.nil _
  · kernel_rfl
  change VOk _ _ _ _ _
  refine vseq ?_
  refine vseq ?_
  apply vrp
  · apply VE.cons
    · first | exact ev_load rfl (gn rfl) rfl rfl Tryd.underlying29 rfl Tryd.sizeOf29 rfl rfl | exact ev_loadx rfl (gn rfl) rfl Tryd.underlying29 rfl Tryd.sizeOf29 (by assumption) rfl
    simp only [nm3, seval]
    apply VE.cons
    · first | exact ev_load rfl (gn rfl) rfl rfl Tryd.underlying29 rfl Tryd.sizeOf29 rfl rfl | exact ev_loadx rfl (gn rfl) rfl Tryd.underlying29 rfl Tryd.sizeOf29 (by assumption) rfl
    simp only [nm3, seval]
    apply VE.cons
    · exact ev_bin (c := .bool true) rfl (gn rfl) rfl rfl (fun w => e29_t hx _ _ w)
    simp only [nm3, seval]
    exact VE.nil _
  · kernel_rfl
  change VOk _ _ _ _ _
  refine vcond_t rfl ?_
  refine vseq ?_
  refine vseq ?_
  apply vrd (by kernel_rfl)
  · apply VE.cons
    · first | exact ev_load rfl (gn rfl) rfl rfl Tryd.underlying29 rfl Tryd.sizeOf29 rfl rfl | exact ev_loadx rfl (gn rfl) rfl Tryd.underlying29 rfl Tryd.sizeOf29 (by assumption) rfl
    simp only [nm3, seval]
    apply VE.cons
    · first | exact ev_load rfl (gn rfl) rfl rfl Tryd.underlying29 rfl Tryd.sizeOf29 rfl rfl | exact ev_loadx rfl (gn rfl) rfl Tryd.underlying29 rfl Tryd.sizeOf29 (by assumption) rfl
    simp only [nm3, seval]
    apply VE.cons
    · first | exact ev_load rfl (gn rfl) rfl rfl Tryd.underlying29 rfl Tryd.sizeOf29 rfl rfl | exact ev_loadx rfl (gn rfl) rfl Tryd.underlying29 rfl Tryd.sizeOf29 (by assumption) rfl
    simp only [nm3, seval]
    apply VE.cons
    · exact ev_call rfl (gn rfl) rfl (en_of Tryd.func26 (by kernel_rfl) rfl) (fun w' hw' => raddF _ _ w')
    simp only [nm3, seval]
    apply VE.cons
    · first | exact ev_load rfl (gn rfl) rfl rfl Tryd.underlying29 rfl Tryd.sizeOf29 rfl rfl | exact ev_loadx rfl (gn rfl) rfl Tryd.underlying29 rfl Tryd.sizeOf29 (by assumption) rfl
    simp only [nm3, seval]
    apply VE.cons
    · exact ev_bin (c := .bool false) rfl (gn rfl) rfl rfl (fun w => z29_f hs _ _ w)
    simp only [nm3, seval]
    exact VE.nil _
  · kernel_rfl
  change VOk _ _ _ _ _
  refine vcond_f rfl ?_
  refine vskip ?_
  change VOk _ _ _ _ _
  refine vseq ?_
  apply vrd (by kernel_rfl)
  · apply VE.cons
    · exact ev_build rfl (gn rfl) rfl built29_three
    simp only [nm3, seval]
    apply VE.cons
    · first | exact ev_load rfl (gn rfl) rfl rfl Tryd.underlying29 rfl Tryd.sizeOf29 rfl rfl | exact ev_loadx rfl (gn rfl) rfl Tryd.underlying29 rfl Tryd.sizeOf29 (by assumption) rfl
    simp only [nm3, seval]
    apply VE.cons
    · first | exact ev_load rfl (gn rfl) rfl rfl Tryd.underlying29 rfl Tryd.sizeOf29 rfl rfl | exact ev_loadx rfl (gn rfl) rfl Tryd.underlying29 rfl Tryd.sizeOf29 (by assumption) rfl
    simp only [nm3, seval]
    apply VE.cons
    · first | exact ev_load rfl (gn rfl) rfl rfl Tryd.underlying29 rfl Tryd.sizeOf29 rfl rfl | exact ev_loadx rfl (gn rfl) rfl Tryd.underlying29 rfl Tryd.sizeOf29 (by assumption) rfl
    simp only [nm3, seval]
    apply VE.cons
    · exact ev_call rfl (gn rfl) rfl (en_of Tryd.func38 (by kernel_rfl) rfl) (fun w' hw' => rmulE e62 w')
    simp only [nm3, seval]
    apply VE.cons
    · exact ev_build rfl (gn rfl) rfl built29_one
    simp only [nm3, seval]
    apply VE.cons
    · first | exact ev_load rfl (gn rfl) rfl rfl Tryd.underlying29 rfl Tryd.sizeOf29 rfl rfl | exact ev_loadx rfl (gn rfl) rfl Tryd.underlying29 rfl Tryd.sizeOf29 (by assumption) rfl
    simp only [nm3, seval]
    apply VE.cons
    · exact ev_call rfl (gn rfl) rfl (en_of Tryd.func23 (by kernel_rfl) rfl) (fun w' hw' => rsubE1 e65 w')
    simp only [nm3, seval]
    apply VE.cons
    · first | exact ev_load rfl (gn rfl) rfl rfl Tryd.underlying29 rfl Tryd.sizeOf29 rfl rfl | exact ev_loadx rfl (gn rfl) rfl Tryd.underlying29 rfl Tryd.sizeOf29 (by assumption) rfl
    simp only [nm3, seval]
    apply VE.cons
    · exact ev_call rfl (gn rfl) rfl (en_of Tryd.func38 (by kernel_rfl) rfl) (fun w' hw' => rmulE3 e67 w')
    simp only [nm3, seval]
    apply VE.cons
    · exact ev_store rfl (gn rfl) rfl rfl rfl Tryd.sizeOf29 rfl (by simp) rfl
    simp only [nm3, seval]
    exact VE.nil _
  · kernel_rfl
  change VOk _ _ _ _ _
  apply vrp
  · apply VE.cons
    · first | exact ev_load rfl (gn rfl) rfl rfl Tryd.underlying29 rfl Tryd.sizeOf29 rfl rfl | exact ev_loadx rfl (gn rfl) rfl Tryd.underlying29 rfl Tryd.sizeOf29 (by assumption) rfl
    simp only [nm3, seval]
    apply VE.cons
    · first | exact ev_load rfl (gn rfl) rfl rfl Tryd.underlying29 rfl Tryd.sizeOf29 rfl rfl | exact ev_loadx rfl (gn rfl) rfl Tryd.underlying29 rfl Tryd.sizeOf29 (by assumption) rfl
    simp only [nm3, seval]
    apply VE.cons
    · first | exact ev_load rfl (gn rfl) rfl rfl Tryd.underlying29 rfl Tryd.sizeOf29 rfl rfl | exact ev_loadx rfl (gn rfl) rfl Tryd.underlying29 rfl Tryd.sizeOf29 (by assumption) rfl
    simp only [nm3, seval]
    apply VE.cons
    · exact ev_call rfl (gn rfl) rfl (en_of Tryd.func26 (by kernel_rfl) rfl) (fun w' hw' => raddE e71 w')
    simp only [nm3, seval]
    apply VE.cons
    · exact ev_store rfl (gn rfl) rfl rfl rfl Tryd.sizeOf29 rfl (by simp) rfl
    simp only [nm3, seval]
    exact VE.nil _
  · kernel_rfl
  change VOk _ _ _ _ _
  refine vseq ?_
  apply vrp
  · apply VE.cons
    · first | exact ev_load rfl (gn rfl) rfl rfl Tryd.underlying29 rfl Tryd.sizeOf29 rfl rfl | exact ev_loadx rfl (gn rfl) rfl Tryd.underlying29 rfl Tryd.sizeOf29 (by assumption) rfl
    simp only [nm3, seval]
    apply VE.cons
    · exact ev_build rfl (gn rfl) rfl built29_two
    simp only [nm3, seval]
    apply VE.cons
    · first | exact ev_load rfl (gn rfl) rfl rfl Tryd.underlying29 rfl Tryd.sizeOf29 rfl rfl | exact ev_loadx rfl (gn rfl) rfl Tryd.underlying29 rfl Tryd.sizeOf29 (by assumption) rfl
    simp only [nm3, seval]
    apply VE.cons
    · exact ev_call rfl (gn rfl) rfl (en_of Tryd.func23 (by kernel_rfl) rfl) (fun w' hw' => rsub2 w')
    simp only [nm3, seval]
    apply VE.cons
    · exact ev_alloc rfl rfl (gn rfl) Tryd.zeroValue29
    simp only [nm3, seval]
    apply VE.cons
    · exact ev_store rfl (gn rfl) rfl rfl rfl Tryd.sizeOf29 rfl (by simp) rfl
    simp only [nm3, seval]
    exact VE.nil _
  · kernel_rfl
  change VOk _ _ _ _ _
  refine vseq ?_
  apply vrd (by kernel_rfl)
  · apply VE.cons
    · first | exact ev_load rfl (gn rfl) rfl rfl Tryd.underlying29 rfl Tryd.sizeOf29 rfl rfl | exact ev_loadx rfl (gn rfl) rfl Tryd.underlying29 rfl Tryd.sizeOf29 (by assumption) rfl
    simp only [nm3, seval]
    apply VE.cons
    · first | exact ev_load rfl (gn rfl) rfl rfl Tryd.underlying29 rfl Tryd.sizeOf29 rfl rfl | exact ev_loadx rfl (gn rfl) rfl Tryd.underlying29 rfl Tryd.sizeOf29 (by assumption) rfl
    simp only [nm3, seval]
    apply VE.cons
    · first | exact ev_load rfl (gn rfl) rfl rfl Tryd.underlying29 rfl Tryd.sizeOf29 rfl rfl | exact ev_loadx rfl (gn rfl) rfl Tryd.underlying29 rfl Tryd.sizeOf29 (by assumption) rfl
    simp only [nm3, seval]
    apply VE.cons
    · first | exact ev_load rfl (gn rfl) rfl rfl Tryd.underlying29 rfl Tryd.sizeOf29 rfl rfl | exact ev_loadx rfl (gn rfl) rfl Tryd.underlying29 rfl Tryd.sizeOf29 (by assumption) rfl
    simp only [nm3, seval]
    apply VE.cons
    · exact ev_call rfl (gn rfl) rfl (en_of Tryd.func48 (by kernel_rfl) rfl) (fun w' hw' => rpowF hi w')
    simp only [nm3, seval]
    apply VE.cons
    · first | exact ev_load rfl (gn rfl) rfl rfl Tryd.underlying29 rfl Tryd.sizeOf29 rfl rfl | exact ev_loadx rfl (gn rfl) rfl Tryd.underlying29 rfl Tryd.sizeOf29 (by assumption) rfl
    simp only [nm3, seval]
    apply VE.cons
    · exact ev_call rfl (gn rfl) rfl (en_of Tryd.func38 (by kernel_rfl) rfl) (fun w' hw' => rmulE e82 w')
    simp only [nm3, seval]
    apply VE.cons
    · exact ev_alloc rfl rfl (gn rfl) Tryd.zeroValue29
    simp only [nm3, seval]
    apply VE.cons
    · exact ev_store rfl (gn rfl) rfl rfl rfl Tryd.sizeOf29 rfl (by simp) rfl
    simp only [nm3, seval]
    exact VE.nil _
  · kernel_rfl
  change VOk _ _ _ _ _
  refine vseq ?_
  apply vrd (by kernel_rfl)
  · apply VE.cons
    · first | exact ev_load rfl (gn rfl) rfl rfl Tryd.underlying29 rfl Tryd.sizeOf29 rfl rfl | exact ev_loadx rfl (gn rfl) rfl Tryd.underlying29 rfl Tryd.sizeOf29 (by assumption) rfl
    simp only [nm3, seval]
    apply VE.cons
    · first | exact ev_load rfl (gn rfl) rfl rfl Tryd.underlying29 rfl Tryd.sizeOf29 rfl rfl | exact ev_loadx rfl (gn rfl) rfl Tryd.underlying29 rfl Tryd.sizeOf29 (by assumption) rfl
    simp only [nm3, seval]
    apply VE.cons
    · first | exact ev_load rfl (gn rfl) rfl rfl Tryd.underlying29 rfl Tryd.sizeOf29 rfl rfl | exact ev_loadx rfl (gn rfl) rfl Tryd.underlying29 rfl Tryd.sizeOf29 (by assumption) rfl
    simp only [nm3, seval]
    apply VE.cons
    · exact ev_call rfl (gn rfl) rfl (en_of Tryd.func38 (by kernel_rfl) rfl) (fun w' hw' => rmulE e86 w')
    simp only [nm3, seval]
    apply VE.cons
    · first | exact ev_load rfl (gn rfl) rfl rfl Tryd.underlying29 rfl Tryd.sizeOf29 rfl rfl | exact ev_loadx rfl (gn rfl) rfl Tryd.underlying29 rfl Tryd.sizeOf29 (by assumption) rfl
    simp only [nm3, seval]
    apply VE.cons
    · first | exact ev_load rfl (gn rfl) rfl rfl Tryd.underlying29 rfl Tryd.sizeOf29 rfl rfl | exact ev_loadx rfl (gn rfl) rfl Tryd.underlying29 rfl Tryd.sizeOf29 (by assumption) rfl
    simp only [nm3, seval]
    apply VE.cons
    · exact ev_call rfl (gn rfl) rfl (en_of Tryd.func23 (by kernel_rfl) rfl) (fun w' hw' => rsubE e89 w')
    simp only [nm3, seval]
    apply VE.cons
    · first | exact ev_load rfl (gn rfl) rfl rfl Tryd.underlying29 rfl Tryd.sizeOf29 rfl rfl | exact ev_loadx rfl (gn rfl) rfl Tryd.underlying29 rfl Tryd.sizeOf29 (by assumption) rfl
    simp only [nm3, seval]
    apply VE.cons
    · first | exact ev_load rfl (gn rfl) rfl rfl Tryd.underlying29 rfl Tryd.sizeOf29 rfl rfl | exact ev_loadx rfl (gn rfl) rfl Tryd.underlying29 rfl Tryd.sizeOf29 (by assumption) rfl
    simp only [nm3, seval]
    apply VE.cons
    · exact ev_call rfl (gn rfl) rfl (en_of Tryd.func23 (by kernel_rfl) rfl) (fun w' hw' => rsubE e92 w')
    simp only [nm3, seval]
    apply VE.cons
    · exact ev_alloc rfl rfl (gn rfl) Tryd.zeroValue29
    simp only [nm3, seval]
    apply VE.cons
    · exact ev_store rfl (gn rfl) rfl rfl rfl Tryd.sizeOf29 rfl (by simp) rfl
    simp only [nm3, seval]
    exact VE.nil _
  · kernel_rfl
  change VOk _ _ _ _ _
  refine vseq ?_
  apply vrd (by kernel_rfl)
  · apply VE.cons
    · first | exact ev_load rfl (gn rfl) rfl rfl Tryd.underlying29 rfl Tryd.sizeOf29 rfl rfl | exact ev_loadx rfl (gn rfl) rfl Tryd.underlying29 rfl Tryd.sizeOf29 (by assumption) rfl
    simp only [nm3, seval]
    apply VE.cons
    · first | exact ev_load rfl (gn rfl) rfl rfl Tryd.underlying29 rfl Tryd.sizeOf29 rfl rfl | exact ev_loadx rfl (gn rfl) rfl Tryd.underlying29 rfl Tryd.sizeOf29 (by assumption) rfl
    simp only [nm3, seval]
    apply VE.cons
    · first | exact ev_load rfl (gn rfl) rfl rfl Tryd.underlying29 rfl Tryd.sizeOf29 rfl rfl | exact ev_loadx rfl (gn rfl) rfl Tryd.underlying29 rfl Tryd.sizeOf29 (by assumption) rfl
    simp only [nm3, seval]
    apply VE.cons
    · first | exact ev_load rfl (gn rfl) rfl rfl Tryd.underlying29 rfl Tryd.sizeOf29 rfl rfl | exact ev_loadx rfl (gn rfl) rfl Tryd.underlying29 rfl Tryd.sizeOf29 (by assumption) rfl
    simp only [nm3, seval]
    apply VE.cons
    · first | exact ev_load rfl (gn rfl) rfl rfl Tryd.underlying29 rfl Tryd.sizeOf29 rfl rfl | exact ev_loadx rfl (gn rfl) rfl Tryd.underlying29 rfl Tryd.sizeOf29 (by assumption) rfl
    simp only [nm3, seval]
    apply VE.cons
    · exact ev_call rfl (gn rfl) rfl (en_of Tryd.func23 (by kernel_rfl) rfl) (fun w' hw' => rsubE e98 w')
    simp only [nm3, seval]
    apply VE.cons
    · first | exact ev_load rfl (gn rfl) rfl rfl Tryd.underlying29 rfl Tryd.sizeOf29 rfl rfl | exact ev_loadx rfl (gn rfl) rfl Tryd.underlying29 rfl Tryd.sizeOf29 (by assumption) rfl
    simp only [nm3, seval]
    apply VE.cons
    · exact ev_call rfl (gn rfl) rfl (en_of Tryd.func38 (by kernel_rfl) rfl) (fun w' hw' => rmulE e100 w')
    simp only [nm3, seval]
    apply VE.cons
    · first | exact ev_load rfl (gn rfl) rfl rfl Tryd.underlying29 rfl Tryd.sizeOf29 rfl rfl | exact ev_loadx rfl (gn rfl) rfl Tryd.underlying29 rfl Tryd.sizeOf29 (by assumption) rfl
    simp only [nm3, seval]
    apply VE.cons
    · first | exact ev_load rfl (gn rfl) rfl rfl Tryd.underlying29 rfl Tryd.sizeOf29 rfl rfl | exact ev_loadx rfl (gn rfl) rfl Tryd.underlying29 rfl Tryd.sizeOf29 (by assumption) rfl
    simp only [nm3, seval]
    apply VE.cons
    · exact ev_call rfl (gn rfl) rfl (en_of Tryd.func23 (by kernel_rfl) rfl) (fun w' hw' => rsubE e103 w')
    simp only [nm3, seval]
    apply VE.cons
    · exact ev_store rfl (gn rfl) rfl rfl rfl Tryd.sizeOf29 rfl (by simp) rfl
    simp only [nm3, seval]
    apply VE.cons
    · exact ev_store rfl (gn rfl) rfl rfl rfl Tryd.sizeOf29 rfl (by simp) rfl
    simp only [nm3, seval]
    exact VE.nil _
  · kernel_rfl
  change VOk _ _ _ _ _
  refine vret ?_
  refine post_ret (res2 Tryd.results25 (rv_cell rfl rfl Tryd.underlying29 rfl Tryd.sizeOf29 rfl rfl) (rv_cell rfl rfl Tryd.underlying29 rfl Tryd.sizeOf29 rfl rfl)) ?_
  intro w' hg
  exact ⟨rfl, hg⟩
theorem radd_ne_yx (x1 y1 x2 y2 i s v86 v89 x3 v98 v100 y3 : F) (w : World) (a : x1 = 0) (b : y1 ≠ 0) (c : x2 ≠ 0) (hx : x1 ≠ x2) (hi : (x2 - x1) * i = 1) (e82 : (y2 - y1) * i = s) (e86 : s * s = v86) (e89 : v86 - x1 = v89) (e92 : v89 - x2 = x3) (e98 : x1 - x3 = v98) (e100 : s * v98 = v100) (e103 : v100 - y1 = y3) : Calls Tryd.prog 25 #[NF x1, NF y1, NF x2, NF y2] w fun e w' => e = .returned (.tuple #[NF x3, NF y3]) ∧ Gw w w' := by
  go_enter Tryd.func25, Tryd.ntmps25
  refine ve_go ?_
  simp only [List.map_cons, List.map_nil]
  refine vseq ?_
  apply vrp
  · apply VE.cons
    · exact ev_box rfl rfl (gn rfl) rfl
    simp only [nm3, seval]
    apply VE.cons
    · exact ev_box rfl rfl (gn rfl) rfl
    simp only [nm3, seval]
    apply VE.cons
    · exact ev_box rfl rfl (gn rfl) rfl
    simp only [nm3, seval]
    apply VE.cons
    · exact ev_box rfl rfl (gn rfl) rfl
    simp only [nm3, seval]
    apply VE.cons
    · exact ev_alloc rfl rfl (gn rfl) Tryd.zeroValue29
    simp only [nm3, seval]
    apply VE.cons
    · exact ev_alloc rfl rfl (gn rfl) Tryd.zeroValue29
    simp only [nm3, seval]
    exact VE.nil _
  · kernel_rfl
  change VOk _ _ _ _ _
  refine vseq ?_
  apply vrp
  · apply VE.cons
    · exact ev_call rfl (gn rfl) rfl (en_of Tryd.func28 (by kernel_rfl) rfl) (fun w' hw' => c_P w')
    simp only [nm3, seval]
    apply VE.cons
    · exact ev_alloc rfl rfl (gn rfl) Tryd.zeroValue29
    simp only [nm3, seval]
    apply VE.cons
    · exact ev_store rfl (gn rfl) rfl rfl rfl Tryd.sizeOf29 rfl (by simp) rfl
    simp only [nm3, seval]
    exact VE.nil _
  · kernel_rfl
  change VOk _ _ _ _ _
  refine vseq ?_
  apply vrp
  · apply VE.cons
    · exact ev_build rfl (gn rfl) rfl built29_0
    simp only [nm3, seval]
    apply VE.cons
    · exact ev_alloc rfl rfl (gn rfl) Tryd.zeroValue29
    simp only [nm3, seval]
    apply VE.cons
    · exact ev_store rfl (gn rfl) rfl rfl rfl Tryd.sizeOf29 rfl (by simp) rfl
    simp only [nm3, seval]
    exact VE.nil _
  · kernel_rfl
  change VOk _ _ _ _ _
  refine vseq ?_
  refine vseq ?_
  apply vrp
  · apply VE.cons
    · first | exact ev_load rfl (gn rfl) rfl rfl Tryd.underlying29 rfl Tryd.sizeOf29 rfl rfl | exact ev_loadx rfl (gn rfl) rfl Tryd.underlying29 rfl Tryd.sizeOf29 (by assumption) rfl
    simp only [nm3, seval]
    apply VE.cons
    · first | exact ev_load rfl (gn rfl) rfl rfl Tryd.underlying29 rfl Tryd.sizeOf29 rfl rfl | exact ev_loadx rfl (gn rfl) rfl Tryd.underlying29 rfl Tryd.sizeOf29 (by assumption) rfl
    simp only [nm3, seval]
    apply VE.cons
    · exact ev_bin (c := .bool true) rfl (gn rfl) rfl rfl (fun w => z29_t a _ _ w)
    simp only [nm3, seval]
    apply VE.cons
    · exact ev_move rfl (gn rfl)
    simp only [nm3, seval]
    apply VE.cons
    · first | exact Ev.skip (fun _ => rfl) | exact ev_load rfl (fun _ => rfl) rfl rfl Tryd.underlying29 rfl Tryd.sizeOf29 rfl rfl | exact ev_loadx rfl (fun _ => rfl) rfl Tryd.underlying29 rfl Tryd.sizeOf29 (by assumption) rfl
    simp only [nm3, seval]
    apply VE.cons
    · first | exact Ev.skip (fun _ => rfl) | exact ev_load rfl (fun _ => rfl) rfl rfl Tryd.underlying29 rfl Tryd.sizeOf29 rfl rfl | exact ev_loadx rfl (fun _ => rfl) rfl Tryd.underlying29 rfl Tryd.sizeOf29 (by assumption) rfl
    simp only [nm3, seval]
    apply VE.cons
    · first | exact Ev.skip (fun _ => rfl) | exact ev_bin (c := .bool false) rfl (fun _ => rfl) rfl rfl (fun w => z29_f b _ _ w)
    simp only [nm3, seval]
    apply VE.cons
    · first | exact ev_pick_t rfl (gn rfl) rfl rfl | exact ev_pick_f rfl (gn rfl) rfl rfl
    simp only [nm3, seval]
    exact VE.nil _
  · kernel_rfl
  change VOk _ _ _ _ _
  refine vcond_f rfl ?_
  refine vskip ?_
  change VOk _ _ _ _ _
  refine vseq ?_
  refine vseq ?_
  apply vrp
  · apply VE.cons
    · first | exact ev_load rfl (gn rfl) rfl rfl Tryd.underlying29 rfl Tryd.sizeOf29 rfl rfl | exact ev_loadx rfl (gn rfl) rfl Tryd.underlying29 rfl Tryd.sizeOf29 (by assumption) rfl
    simp only [nm3, seval]
    apply VE.cons
    · first | exact ev_load rfl (gn rfl) rfl rfl Tryd.underlying29 rfl Tryd.sizeOf29 rfl rfl | exact ev_loadx rfl (gn rfl) rfl Tryd.underlying29 rfl Tryd.sizeOf29 (by assumption) rfl
    simp only [nm3, seval]
    apply VE.cons
    · exact ev_bin (c := .bool false) rfl (gn rfl) rfl rfl (fun w => z29_f c _ _ w)
    simp only [nm3, seval]
    apply VE.cons
    · exact ev_move rfl (gn rfl)
    simp only [nm3, seval]
    apply VE.cons
    · first | exact Ev.skip (fun _ => rfl) | exact ev_load rfl (fun _ => rfl) rfl rfl Tryd.underlying29 rfl Tryd.sizeOf29 rfl rfl | exact ev_loadx rfl (fun _ => rfl) rfl Tryd.underlying29 rfl Tryd.sizeOf29 (by assumption) rfl
    simp only [nm3, seval]
    apply VE.cons
    · first | exact Ev.skip (fun _ => rfl) | exact ev_load rfl (fun _ => rfl) rfl rfl Tryd.underlying29 rfl Tryd.sizeOf29 rfl rfl | exact ev_loadx rfl (fun _ => rfl) rfl Tryd.underlying29 rfl Tryd.sizeOf29 (by assumption) rfl
    simp only [nm3, seval]
    apply VE.cons
    · first | exact Ev.skip (fun _ => rfl) | refine ev_pure' (fun _ => rfl) (fun ρ w => by simp only [VS.act, SV.c, List.map_cons, List.map_nil]; go_simp; exact rfl) (fun _ _ => rfl)
    simp only [nm3, seval]
    apply VE.cons
    · first | exact ev_pick_t rfl (gn rfl) rfl rfl | exact ev_pick_f rfl (gn rfl) rfl rfl
    simp only [nm3, seval]
    exact VE.nil _
  · kernel_rfl
  change VOk _ _ _ _ _
  refine vcond_f rfl ?_
  refine vskip ?_
  change VOk _ _ _ _ _
  refine vseq ?_
  apply vrd (by kernel_rfl)
  · apply VE.cons
    · first | exact ev_load rfl (gn rfl) rfl rfl Tryd.underlying29 rfl Tryd.sizeOf29 rfl rfl | exact ev_loadx rfl (gn rfl) rfl Tryd.underlying29 rfl Tryd.sizeOf29 (by assumption) rfl
    simp only [nm3, seval]
    apply VE.cons
    · first | exact ev_load rfl (gn rfl) rfl rfl Tryd.underlying29 rfl Tryd.sizeOf29 rfl rfl | exact ev_loadx rfl (gn rfl) rfl Tryd.underlying29 rfl Tryd.sizeOf29 (by assumption) rfl
    simp only [nm3, seval]
    apply VE.cons
    · first | exact ev_load rfl (gn rfl) rfl rfl Tryd.underlying29 rfl Tryd.sizeOf29 rfl rfl | exact ev_loadx rfl (gn rfl) rfl Tryd.underlying29 rfl Tryd.sizeOf29 (by assumption) rfl
    simp only [nm3, seval]
    apply VE.cons
    · exact ev_call rfl (gn rfl) rfl (en_of Tryd.func23 (by kernel_rfl) rfl) (fun w' hw' => rsubF _ _ w')
    simp only [nm3, seval]
    apply VE.cons
    · first | exact ev_load rfl (gn rfl) rfl rfl Tryd.underlying29 rfl Tryd.sizeOf29 rfl rfl | exact ev_loadx rfl (gn rfl) rfl Tryd.underlying29 rfl Tryd.sizeOf29 (by assumption) rfl
    simp only [nm3, seval]
    apply VE.cons
    · first | exact ev_load rfl (gn rfl) rfl rfl Tryd.underlying29 rfl Tryd.sizeOf29 rfl rfl | exact ev_loadx rfl (gn rfl) rfl Tryd.underlying29 rfl Tryd.sizeOf29 (by assumption) rfl
    simp only [nm3, seval]
    apply VE.cons
    · first | exact ev_load rfl (gn rfl) rfl rfl Tryd.underlying29 rfl Tryd.sizeOf29 rfl rfl | exact ev_loadx rfl (gn rfl) rfl Tryd.underlying29 rfl Tryd.sizeOf29 (by assumption) rfl
    simp only [nm3, seval]
    apply VE.cons
    · exact ev_call rfl (gn rfl) rfl (en_of Tryd.func23 (by kernel_rfl) rfl) (fun w' hw' => rsubF _ _ w')
    simp only [nm3, seval]
    apply VE.cons
    · exact ev_alloc rfl rfl (gn rfl) Tryd.zeroValue29
    simp only [nm3, seval]
    apply VE.cons
    · exact ev_alloc rfl rfl (gn rfl) Tryd.zeroValue29
    simp only [nm3, seval]
    apply VE.cons
    · exact ev_store rfl (gn rfl) rfl rfl rfl Tryd.sizeOf29 rfl (by simp) rfl
    simp only [nm3, seval]
    apply VE.cons
    · exact ev_store rfl (gn rfl) rfl rfl rfl Tryd.sizeOf29 rfl (by simp) rfl
    simp only [nm3, seval]
    exact VE.nil _
  · kernel_rfl
  change VOk _ _ _ _ _
  refine vseq ?_
  refine vseq ?_
  apply vrp
  · apply VE.cons
    · first | exact ev_load rfl (gn rfl) rfl rfl Tryd.underlying29 rfl Tryd.sizeOf29 rfl rfl | exact ev_loadx rfl (gn rfl) rfl Tryd.underlying29 rfl Tryd.sizeOf29 (by assumption) rfl
    simp only [nm3, seval]
    apply VE.cons
    · first | exact ev_load rfl (gn rfl) rfl rfl Tryd.underlying29 rfl Tryd.sizeOf29 rfl rfl | exact ev_loadx rfl (gn rfl) rfl Tryd.underlying29 rfl Tryd.sizeOf29 (by assumption) rfl
    simp only [nm3, seval]
    apply VE.cons
    · exact ev_bin (c := .bool false) rfl (gn rfl) rfl rfl (fun w => e29_f hx _ _ w)
    simp only [nm3, seval]
    exact VE.nil _
  · kernel_rfl
  change VOk _ _ _ _ _
  refine vcond_f rfl ?_
  refine vskip ?_
  change VOk _ _ _ _ _
  refine vseq ?_
  apply vrp
  · apply VE.cons
    · first | exact ev_load rfl (gn rfl) rfl rfl Tryd.underlying29 rfl Tryd.sizeOf29 rfl rfl | exact ev_loadx rfl (gn rfl) rfl Tryd.underlying29 rfl Tryd.sizeOf29 (by assumption) rfl
    simp only [nm3, seval]
    apply VE.cons
    · exact ev_build rfl (gn rfl) rfl built29_two
    simp only [nm3, seval]
    apply VE.cons
    · first | exact ev_load rfl (gn rfl) rfl rfl Tryd.underlying29 rfl Tryd.sizeOf29 rfl rfl | exact ev_loadx rfl (gn rfl) rfl Tryd.underlying29 rfl Tryd.sizeOf29 (by assumption) rfl
    simp only [nm3, seval]
    apply VE.cons
    · exact ev_call rfl (gn rfl) rfl (en_of Tryd.func23 (by kernel_rfl) rfl) (fun w' hw' => rsub2 w')
    simp only [nm3, seval]
    apply VE.cons
    · exact ev_alloc rfl rfl (gn rfl) Tryd.zeroValue29
    simp only [nm3, seval]
    apply VE.cons
    · exact ev_store rfl (gn rfl) rfl rfl rfl Tryd.sizeOf29 rfl (by simp) rfl
    simp only [nm3, seval]
    exact VE.nil _
  · kernel_rfl
  change VOk _ _ _ _ _
  refine vseq ?_
  apply vrd (by kernel_rfl)
  · apply VE.cons
    · first | exact ev_load rfl (gn rfl) rfl rfl Tryd.underlying29 rfl Tryd.sizeOf29 rfl rfl | exact ev_loadx rfl (gn rfl) rfl Tryd.underlying29 rfl Tryd.sizeOf29 (by assumption) rfl
    simp only [nm3, seval]
    apply VE.cons
    · first | exact ev_load rfl (gn rfl) rfl rfl Tryd.underlying29 rfl Tryd.sizeOf29 rfl rfl | exact ev_loadx rfl (gn rfl) rfl Tryd.underlying29 rfl Tryd.sizeOf29 (by assumption) rfl
    simp only [nm3, seval]
    apply VE.cons
    · first | exact ev_load rfl (gn rfl) rfl rfl Tryd.underlying29 rfl Tryd.sizeOf29 rfl rfl | exact ev_loadx rfl (gn rfl) rfl Tryd.underlying29 rfl Tryd.sizeOf29 (by assumption) rfl
    simp only [nm3, seval]
    apply VE.cons
    · first | exact ev_load rfl (gn rfl) rfl rfl Tryd.underlying29 rfl Tryd.sizeOf29 rfl rfl | exact ev_loadx rfl (gn rfl) rfl Tryd.underlying29 rfl Tryd.sizeOf29 (by assumption) rfl
    simp only [nm3, seval]
    apply VE.cons
    · exact ev_call rfl (gn rfl) rfl (en_of Tryd.func48 (by kernel_rfl) rfl) (fun w' hw' => rpowF hi w')
    simp only [nm3, seval]
    apply VE.cons
    · first | exact ev_load rfl (gn rfl) rfl rfl Tryd.underlying29 rfl Tryd.sizeOf29 rfl rfl | exact ev_loadx rfl (gn rfl) rfl Tryd.underlying29 rfl Tryd.sizeOf29 (by assumption) rfl
    simp only [nm3, seval]
    apply VE.cons
    · exact ev_call rfl (gn rfl) rfl (en_of Tryd.func38 (by kernel_rfl) rfl) (fun w' hw' => rmulE e82 w')
    simp only [nm3, seval]
    apply VE.cons
    · exact ev_alloc rfl rfl (gn rfl) Tryd.zeroValue29
    simp only [nm3, seval]
    apply VE.cons
    · exact ev_store rfl (gn rfl) rfl rfl rfl Tryd.sizeOf29 rfl (by simp) rfl
    simp only [nm3, seval]
    exact VE.nil _
  · kernel_rfl
  change VOk _ _ _ _ _
  refine vseq ?_
  apply vrd (by kernel_rfl)
  · apply VE.cons
    · first | exact ev_load rfl (gn rfl) rfl rfl Tryd.underlying29 rfl Tryd.sizeOf29 rfl rfl | exact ev_loadx rfl (gn rfl) rfl Tryd.underlying29 rfl Tryd.sizeOf29 (by assumption) rfl
    simp only [nm3, seval]
    apply VE.cons
    · first | exact ev_load rfl (gn rfl) rfl rfl Tryd.underlying29 rfl Tryd.sizeOf29 rfl rfl | exact ev_loadx rfl (gn rfl) rfl Tryd.underlying29 rfl Tryd.sizeOf29 (by assumption) rfl
    simp only [nm3, seval]
    apply VE.cons
    · first | exact ev_load rfl (gn rfl) rfl rfl Tryd.underlying29 rfl Tryd.sizeOf29 rfl rfl | exact ev_loadx rfl (gn rfl) rfl Tryd.underlying29 rfl Tryd.sizeOf29 (by assumption) rfl
    simp only [nm3, seval]
    apply VE.cons
    · exact ev_call rfl (gn rfl) rfl (en_of Tryd.func38 (by kernel_rfl) rfl) (fun w' hw' => rmulE e86 w')
    simp only [nm3, seval]
    apply VE.cons
    · first | exact ev_load rfl (gn rfl) rfl rfl Tryd.underlying29 rfl Tryd.sizeOf29 rfl rfl | exact ev_loadx rfl (gn rfl) rfl Tryd.underlying29 rfl Tryd.sizeOf29 (by assumption) rfl
    simp only [nm3, seval]
    apply VE.cons
    · first | exact ev_load rfl (gn rfl) rfl rfl Tryd.underlying29 rfl Tryd.sizeOf29 rfl rfl | exact ev_loadx rfl (gn rfl) rfl Tryd.underlying29 rfl Tryd.sizeOf29 (by assumption) rfl
    simp only [nm3, seval]
    apply VE.cons
    · exact ev_call rfl (gn rfl) rfl (en_of Tryd.func23 (by kernel_rfl) rfl) (fun w' hw' => rsubE e89 w')
    simp only [nm3, seval]
    apply VE.cons
    · first | exact ev_load rfl (gn rfl) rfl rfl Tryd.underlying29 rfl Tryd.sizeOf29 rfl rfl | exact ev_loadx rfl (gn rfl) rfl Tryd.underlying29 rfl Tryd.sizeOf29 (by assumption) rfl
    simp only [nm3, seval]
    apply VE.cons
    · first | exact ev_load rfl (gn rfl) rfl rfl Tryd.underlying29 rfl Tryd.sizeOf29 rfl rfl | exact ev_loadx rfl (gn rfl) rfl Tryd.underlying29 rfl Tryd.sizeOf29 (by assumption) rfl
    simp only [nm3, seval]
    apply VE.cons
    · exact ev_call rfl (gn rfl) rfl (en_of Tryd.func23 (by kernel_rfl) rfl) (fun w' hw' => rsubE e92 w')
    simp only [nm3, seval]
    apply VE.cons
    · exact ev_alloc rfl rfl (gn rfl) Tryd.zeroValue29
    simp only [nm3, seval]
    apply VE.cons
    · exact ev_store rfl (gn rfl) rfl rfl rfl Tryd.sizeOf29 rfl (by simp) rfl
    simp only [nm3, seval]
    exact VE.nil _
  · kernel_rfl
  change VOk _ _ _ _ _
  refine vseq ?_
  apply vrd (by kernel_rfl)
  · apply VE.cons
    · first | exact ev_load rfl (gn rfl) rfl rfl Tryd.underlying29 rfl Tryd.sizeOf29 rfl rfl | exact ev_loadx rfl (gn rfl) rfl Tryd.underlying29 rfl Tryd.sizeOf29 (by assumption) rfl
    simp only [nm3, seval]
    apply VE.cons
    · first | exact ev_load rfl (gn rfl) rfl rfl Tryd.underlying29 rfl Tryd.sizeOf29 rfl rfl | exact ev_loadx rfl (gn rfl) rfl Tryd.underlying29 rfl Tryd.sizeOf29 (by assumption) rfl
    simp only [nm3, seval]
    apply VE.cons
    · first | exact ev_load rfl (gn rfl) rfl rfl Tryd.underlying29 rfl Tryd.sizeOf29 rfl rfl | exact ev_loadx rfl (gn rfl) rfl Tryd.underlying29 rfl Tryd.sizeOf29 (by assumption) rfl
    simp only [nm3, seval]
    apply VE.cons
    · first | exact ev_load rfl (gn rfl) rfl rfl Tryd.underlying29 rfl Tryd.sizeOf29 rfl rfl | exact ev_loadx rfl (gn rfl) rfl Tryd.underlying29 rfl Tryd.sizeOf29 (by assumption) rfl
    simp only [nm3, seval]
    apply VE.cons
    · first | exact ev_load rfl (gn rfl) rfl rfl Tryd.underlying29 rfl Tryd.sizeOf29 rfl rfl | exact ev_loadx rfl (gn rfl) rfl Tryd.underlying29 rfl Tryd.sizeOf29 (by assumption) rfl
    simp only [nm3, seval]
    apply VE.cons
    · exact ev_call rfl (gn rfl) rfl (en_of Tryd.func23 (by kernel_rfl) rfl) (fun w' hw' => rsubE e98 w')
    simp only [nm3, seval]
    apply VE.cons
    · first | exact ev_load rfl (gn rfl) rfl rfl Tryd.underlying29 rfl Tryd.sizeOf29 rfl rfl | exact ev_loadx rfl (gn rfl) rfl Tryd.underlying29 rfl Tryd.sizeOf29 (by assumption) rfl
    simp only [nm3, seval]
    apply VE.cons
    · exact ev_call rfl (gn rfl) rfl (en_of Tryd.func38 (by kernel_rfl) rfl) (fun w' hw' => rmulE e100 w')
    simp only [nm3, seval]
    apply VE.cons
    · first | exact ev_load rfl (gn rfl) rfl rfl Tryd.underlying29 rfl Tryd.sizeOf29 rfl rfl | exact ev_loadx rfl (gn rfl) rfl Tryd.underlying29 rfl Tryd.sizeOf29 (by assumption) rfl
    simp only [nm3, seval]
    apply VE.cons
    · first | exact ev_load rfl (gn rfl) rfl rfl Tryd.underlying29 rfl Tryd.sizeOf29 rfl rfl | exact ev_loadx rfl (gn rfl) rfl Tryd.underlying29 rfl Tryd.sizeOf29 (by assumption) rfl
    simp only [nm3, seval]
    apply VE.cons
    · exact ev_call rfl (gn rfl) rfl (en_of Tryd.func23 (by kernel_rfl) rfl) (fun w' hw' => rsubE e103 w')
    simp only [nm3, seval]
    apply VE.cons
    · exact ev_store rfl (gn rfl) rfl rfl rfl Tryd.sizeOf29 rfl (by simp) rfl
    simp only [nm3, seval]
    apply VE.cons
    · exact ev_store rfl (gn rfl) rfl rfl rfl Tryd.sizeOf29 rfl (by simp) rfl
    simp only [nm3, seval]
    exact VE.nil _
  · kernel_rfl
  change VOk _ _ _ _ _
  refine vret ?_
  refine post_ret (res2 Tryd.results25 (rv_cell rfl rfl Tryd.underlying29 rfl Tryd.sizeOf29 rfl rfl) (rv_cell rfl rfl Tryd.underlying29 rfl Tryd.sizeOf29 rfl rfl)) ?_
  intro w' hg
  exact ⟨rfl, hg⟩
theorem radd_inf_yx (x1 y1 x2 y2 : F) (w : World) (a : x1 = 0) (b : y1 ≠ 0) (c : x2 ≠ 0) (hx : x1 = x2) (hs : y1 + y2 = 0) : Calls Tryd.prog 25 #[NF x1, NF y1, NF x2, NF y2] w fun e w' => e = .returned (.tuple #[.agg #[.int .u64 0, .int .u64 0, .int .u64 0, .int .u64 0], .agg #[.int .u64 0, .int .u64 0, .int .u64 0, .int .u64 0]]) ∧ Gw w w' := by
  go_enter Tryd.func25, Tryd.ntmps25
  refine ve_go ?_
  simp only [List.map_cons, List.map_nil]
  refine vseq ?_
  apply vrp
  · apply VE.cons
    · exact ev_box rfl rfl (gn rfl) rfl
    simp only [nm3, seval]
    apply VE.cons
    · exact ev_box rfl rfl (gn rfl) rfl
    simp only [nm3, seval]
    apply VE.cons
    · exact ev_box rfl rfl (gn rfl) rfl
    simp only [nm3, seval]
    apply VE.cons
    · exact ev_box rfl rfl (gn rfl) rfl
    simp only [nm3, seval]
    apply VE.cons
    · exact ev_alloc rfl rfl (gn rfl) Tryd.zeroValue29
    simp only [nm3, seval]
    apply VE.cons
    · exact ev_alloc rfl rfl (gn rfl) Tryd.zeroValue29
    simp only [nm3, seval]
    exact VE.nil _
  · kernel_rfl
  change VOk _ _ _ _ _
  refine vseq ?_
  apply vrp
  · apply VE.cons
    · exact ev_call rfl (gn rfl) rfl (en_of Tryd.func28 (by kernel_rfl) rfl) (fun w' hw' => c_P w')
    simp only [nm3, seval]
    apply VE.cons
    · exact ev_alloc rfl rfl (gn rfl) Tryd.zeroValue29
    simp only [nm3, seval]
    apply VE.cons
    · exact ev_store rfl (gn rfl) rfl rfl rfl Tryd.sizeOf29 rfl (by simp) rfl
    simp only [nm3, seval]
    exact VE.nil _
  · kernel_rfl
  change VOk _ _ _ _ _
  refine vseq ?_
  apply vrp
  · apply VE.cons
    · exact ev_build rfl (gn rfl) rfl built29_0
    simp only [nm3, seval]
    apply VE.cons
    · exact ev_alloc rfl rfl (gn rfl) Tryd.zeroValue29
    simp only [nm3, seval]
    apply VE.cons
    · exact ev_store rfl (gn rfl) rfl rfl rfl Tryd.sizeOf29 rfl (by simp) rfl
    simp only [nm3, seval]
    exact VE.nil _
  · kernel_rfl
  change VOk _ _ _ _ _
  refine vseq ?_
  refine vseq ?_
  apply vrp
  · apply VE.cons
    · first | exact ev_load rfl (gn rfl) rfl rfl Tryd.underlying29 rfl Tryd.sizeOf29 rfl rfl | exact ev_loadx rfl (gn rfl) rfl Tryd.underlying29 rfl Tryd.sizeOf29 (by assumption) rfl
    simp only [nm3, seval]
    apply VE.cons
    · first | exact ev_load rfl (gn rfl) rfl rfl Tryd.underlying29 rfl Tryd.sizeOf29 rfl rfl | exact ev_loadx rfl (gn rfl) rfl Tryd.underlying29 rfl Tryd.sizeOf29 (by assumption) rfl
    simp only [nm3, seval]
    apply VE.cons
    · exact ev_bin (c := .bool true) rfl (gn rfl) rfl rfl (fun w => z29_t a _ _ w)
    simp only [nm3, seval]
    apply VE.cons
    · exact ev_move rfl (gn rfl)
    simp only [nm3, seval]
    apply VE.cons
    · first | exact Ev.skip (fun _ => rfl) | exact ev_load rfl (fun _ => rfl) rfl rfl Tryd.underlying29 rfl Tryd.sizeOf29 rfl rfl | exact ev_loadx rfl (fun _ => rfl) rfl Tryd.underlying29 rfl Tryd.sizeOf29 (by assumption) rfl
    simp only [nm3, seval]
    apply VE.cons
    · first | exact Ev.skip (fun _ => rfl) | exact ev_load rfl (fun _ => rfl) rfl rfl Tryd.underlying29 rfl Tryd.sizeOf29 rfl rfl | exact ev_loadx rfl (fun _ => rfl) rfl Tryd.underlying29 rfl Tryd.sizeOf29 (by assumption) rfl
    simp only [nm3, seval]
    apply VE.cons
    · first | exact Ev.skip (fun _ => rfl) | exact ev_bin (c := .bool false) rfl (fun _ => rfl) rfl rfl (fun w => z29_f b _ _ w)
    simp only [nm3, seval]
    apply VE.cons
    · first | exact ev_pick_t rfl (gn rfl) rfl rfl | exact ev_pick_f rfl (gn rfl) rfl rfl
    simp only [nm3, seval]
    exact VE.nil _
  · kernel_rfl
  change VOk _ _ _ _ _
  refine vcond_f rfl ?_
  refine vskip ?_
  change VOk _ _ _ _ _
  refine vseq ?_
  refine vseq ?_
  apply vrp
  · apply VE.cons
    · first | exact ev_load rfl (gn rfl) rfl rfl Tryd.underlying29 rfl Tryd.sizeOf29 rfl rfl | exact ev_loadx rfl (gn rfl) rfl Tryd.underlying29 rfl Tryd.sizeOf29 (by assumption) rfl
    simp only [nm3, seval]
    apply VE.cons
    · first | exact ev_load rfl (gn rfl) rfl rfl Tryd.underlying29 rfl Tryd.sizeOf29 rfl rfl | exact ev_loadx rfl (gn rfl) rfl Tryd.underlying29 rfl Tryd.sizeOf29 (by assumption) rfl
    simp only [nm3, seval]
    apply VE.cons
    · exact ev_bin (c := .bool false) rfl (gn rfl) rfl rfl (fun w => z29_f c _ _ w)
    simp only [nm3, seval]
    apply VE.cons
    · exact ev_move rfl (gn rfl)
    simp only [nm3, seval]
    apply VE.cons
    · first | exact Ev.skip (fun _ => rfl) | exact ev_load rfl (fun _ => rfl) rfl rfl Tryd.underlying29 rfl Tryd.sizeOf29 rfl rfl | exact ev_loadx rfl (fun _ => rfl) rfl Tryd.underlying29 rfl Tryd.sizeOf29 (by assumption) rfl
    simp only [nm3, seval]
    apply VE.cons
    · first | exact Ev.skip (fun _ => rfl) | exact ev_load rfl (fun _ => rfl) rfl rfl Tryd.underlying29 rfl Tryd.sizeOf29 rfl rfl | exact ev_loadx rfl (fun _ => rfl) rfl Tryd.underlying29 rfl Tryd.sizeOf29 (by assumption) rfl
    simp only [nm3, seval]
    apply VE.cons
    · first | exact Ev.skip (fun _ => rfl) | refine ev_pure' (fun _ => rfl) (fun ρ w => by simp only [VS.act, SV.c, List.map_cons, List.map_nil]; go_simp; exact rfl) (fun _ _ => rfl)
    simp only [nm3, seval]
    apply VE.cons
    · first | exact ev_pick_t rfl (gn rfl) rfl rfl | exact ev_pick_f rfl (gn rfl) rfl rfl
    simp only [nm3, seval]
    exact VE.nil _
  · kernel_rfl
  change VOk _ _ _ _ _
  refine vcond_f rfl ?_
  refine vskip ?_
  change VOk _ _ _ _ _
  refine vseq ?_
  apply vrd (by kernel_rfl)
  · apply VE.cons
    · first | exact ev_load rfl (gn rfl) rfl rfl Tryd.underlying29 rfl Tryd.sizeOf29 rfl rfl | exact ev_loadx rfl (gn rfl) rfl Tryd.underlying29 rfl Tryd.sizeOf29 (by assumption) rfl
    simp only [nm3, seval]
    apply VE.cons
    · first | exact ev_load rfl (gn rfl) rfl rfl Tryd.underlying29 rfl Tryd.sizeOf29 rfl rfl | exact ev_loadx rfl (gn rfl) rfl Tryd.underlying29 rfl Tryd.sizeOf29 (by assumption) rfl
    simp only [nm3, seval]
    apply VE.cons
    · first | exact ev_load rfl (gn rfl) rfl rfl Tryd.underlying29 rfl Tryd.sizeOf29 rfl rfl | exact ev_loadx rfl (gn rfl) rfl Tryd.underlying29 rfl Tryd.sizeOf29 (by assumption) rfl
    simp only [nm3, seval]
    apply VE.cons
    · exact ev_call rfl (gn rfl) rfl (en_of Tryd.func23 (by kernel_rfl) rfl) (fun w' hw' => rsubF _ _ w')
    simp only [nm3, seval]
    apply VE.cons
    · first | exact ev_load rfl (gn rfl) rfl rfl Tryd.underlying29 rfl Tryd.sizeOf29 rfl rfl | exact ev_loadx rfl (gn rfl) rfl Tryd.underlying29 rfl Tryd.sizeOf29 (by assumption) rfl
    simp only [nm3, seval]
    apply VE.cons
    · first | exact ev_load rfl (gn rfl) rfl rfl Tryd.underlying29 rfl Tryd.sizeOf29 rfl rfl | exact ev_loadx rfl (gn rfl) rfl Tryd.underlying29 rfl Tryd.sizeOf29 (by assumption) rfl
    simp only [nm3, seval]
    apply VE.cons
    · first | exact ev_load rfl (gn rfl) rfl rfl Tryd.underlying29 rfl Tryd.sizeOf29 rfl rfl | exact ev_loadx rfl (gn rfl) rfl Tryd.underlying29 rfl Tryd.sizeOf29 (by assumption) rfl
    simp only [nm3, seval]
    apply VE.cons
    · exact ev_call rfl (gn rfl) rfl (en_of Tryd.func23 (by kernel_rfl) rfl) (fun w' hw' => rsubF _ _ w')
    simp only [nm3, seval]
    apply VE.cons
    · exact ev_alloc rfl rfl (gn rfl) Tryd.zeroValue29
    simp only [nm3, seval]
    apply VE.cons
    · exact ev_alloc rfl rfl (gn rfl) Tryd.zeroValue29
    simp only [nm3, seval]
    apply VE.cons
    · exact ev_store rfl (gn rfl) rfl rfl rfl Tryd.sizeOf29 rfl (by simp) rfl
    simp only [nm3, seval]
    apply VE.cons
    · exact ev_store rfl (gn rfl) rfl rfl rfl Tryd.sizeOf29 rfl (by simp) rfl
    simp only [nm3, seval]
    exact VE.nil _
  · kernel_rfl
  change VOk _ _ _ _ _
  refine vseq ?_
  refine vseq ?_
  apply vrp
  · apply VE.cons
    · first | exact ev_load rfl (gn rfl) rfl rfl Tryd.underlying29 rfl Tryd.sizeOf29 rfl rfl | exact ev_loadx rfl (gn rfl) rfl Tryd.underlying29 rfl Tryd.sizeOf29 (by assumption) rfl
    simp only [nm3, seval]
    apply VE.cons
    · first | exact ev_load rfl (gn rfl) rfl rfl Tryd.underlying29 rfl Tryd.sizeOf29 rfl rfl | exact ev_loadx rfl (gn rfl) rfl Tryd.underlying29 rfl Tryd.sizeOf29 (by assumption) rfl
    simp only [nm3, seval]
    apply VE.cons
    · exact ev_bin (c := .bool true) rfl (gn rfl) rfl rfl (fun w => e29_t hx _ _ w)
    simp only [nm3, seval]
    exact VE.nil _
  · kernel_rfl
  change VOk _ _ _ _ _
  refine vcond_t rfl ?_
  refine vseq ?_
  refine vseq ?_
  apply vrd (by kernel_rfl)
  · apply VE.cons
    · first | exact ev_load rfl (gn rfl) rfl rfl Tryd.underlying29 rfl Tryd.sizeOf29 rfl rfl | exact ev_loadx rfl (gn rfl) rfl Tryd.underlying29 rfl Tryd.sizeOf29 (by assumption) rfl
    simp only [nm3, seval]
    apply VE.cons
    · first | exact ev_load rfl (gn rfl) rfl rfl Tryd.underlying29 rfl Tryd.sizeOf29 rfl rfl | exact ev_loadx rfl (gn rfl) rfl Tryd.underlying29 rfl Tryd.sizeOf29 (by assumption) rfl
    simp only [nm3, seval]
    apply VE.cons
    · first | exact ev_load rfl (gn rfl) rfl rfl Tryd.underlying29 rfl Tryd.sizeOf29 rfl rfl | exact ev_loadx rfl (gn rfl) rfl Tryd.underlying29 rfl Tryd.sizeOf29 (by assumption) rfl
    simp only [nm3, seval]
    apply VE.cons
    · exact ev_call rfl (gn rfl) rfl (en_of Tryd.func26 (by kernel_rfl) rfl) (fun w' hw' => raddF _ _ w')
    simp only [nm3, seval]
    apply VE.cons
    · first | exact ev_load rfl (gn rfl) rfl rfl Tryd.underlying29 rfl Tryd.sizeOf29 rfl rfl | exact ev_loadx rfl (gn rfl) rfl Tryd.underlying29 rfl Tryd.sizeOf29 (by assumption) rfl
    simp only [nm3, seval]
    apply VE.cons
    · exact ev_bin (c := .bool true) rfl (gn rfl) rfl rfl (fun w => z29_t hs _ _ w)
    simp only [nm3, seval]
    exact VE.nil _
  · kernel_rfl
  change VOk _ _ _ _ _
  refine vcond_t rfl ?_
  refine vseq ?_
  apply vrd (by kernel_rfl)
  · apply VE.cons
    · first | exact ev_load rfl (gn rfl) rfl rfl Tryd.underlying29 rfl Tryd.sizeOf29 rfl rfl | exact ev_loadx rfl (gn rfl) rfl Tryd.underlying29 rfl Tryd.sizeOf29 (by assumption) rfl
    simp only [nm3, seval]
    apply VE.cons
    · first | exact ev_load rfl (gn rfl) rfl rfl Tryd.underlying29 rfl Tryd.sizeOf29 rfl rfl | exact ev_loadx rfl (gn rfl) rfl Tryd.underlying29 rfl Tryd.sizeOf29 (by assumption) rfl
    simp only [nm3, seval]
    apply VE.cons
    · exact ev_store rfl (gn rfl) rfl rfl rfl Tryd.sizeOf29 rfl (by simp) rfl
    simp only [nm3, seval]
    apply VE.cons
    · exact ev_store rfl (gn rfl) rfl rfl rfl Tryd.sizeOf29 rfl (by simp) rfl
    simp only [nm3, seval]
    exact VE.nil _
  · kernel_rfl
  change VOk _ _ _ _ _
  refine vret ?_
  refine post_ret (res2 Tryd.results25 (rv_cell rfl rfl Tryd.underlying29 rfl Tryd.sizeOf29 rfl rfl) (rv_cell rfl rfl Tryd.underlying29 rfl Tryd.sizeOf29 rfl rfl)) ?_
  intro w' hg
  exact ⟨rfl, hg⟩
theorem radd_tan_yx (x1 y1 x2 y2 i s v86 v89 x3 v98 v100 y3 v62 v65 v67 v71 : F) (w : World) (a : x1 = 0) (b : y1 ≠ 0) (c : x2 ≠ 0) (hx : x1 = x2) (hs : y1 + y2 ≠ 0) (e62 : x1 * x1 = v62) (e65 : v62 - 1 = v65) (e67 : 3 * v65 = v67) (e71 : y1 + y1 = v71) (hi : v71 * i = 1) (e82 : v67 * i = s) (e86 : s * s = v86) (e89 : v86 - x1 = v89) (e92 : v89 - x2 = x3) (e98 : x1 - x3 = v98) (e100 : s * v98 = v100) (e103 : v100 - y1 = y3) : Calls Tryd.prog 25 #[NF x1, NF y1, NF x2, NF y2] w fun e w' => e = .returned (.tuple #[NF x3, NF y3]) ∧ Gw w w' := by
  go_enter Tryd.func25, Tryd.ntmps25
  refine ve_go ?_
  simp only [List.map_cons, List.map_nil]
  refine vseq ?_
  apply vrp
  · apply VE.cons
    · exact ev_box rfl rfl (gn rfl) rfl
    simp only [nm3, seval]
    apply VE.cons
    · exact ev_box rfl rfl (gn rfl) rfl
    simp only [nm3, seval]
    apply VE.cons
    · exact ev_box rfl rfl (gn rfl) rfl
    simp only [nm3, seval]
    apply VE.cons
    · exact ev_box rfl rfl (gn rfl) rfl
    simp only [nm3, seval]
    apply VE.cons
    · exact ev_alloc rfl rfl (gn rfl) Tryd.zeroValue29
    simp only [nm3, seval]
    apply VE.cons
    · exact ev_alloc rfl rfl (gn rfl) Tryd.zeroValue29
    simp only [nm3, seval]
    exact VE.nil _
  · kernel_rfl
  change VOk _ _ _ _ _
  refine vseq ?_
  apply vrp
  · apply VE.cons
    · exact ev_call rfl (gn rfl) rfl (en_of Tryd.func28 (by kernel_rfl) rfl) (fun w' hw' => c_P w')
    simp only [nm3, seval]
    apply VE.cons
    · exact ev_alloc rfl rfl (gn rfl) Tryd.zeroValue29
    simp only [nm3, seval]
    apply VE.cons
    · exact ev_store rfl (gn rfl) rfl rfl rfl Tryd.sizeOf29 rfl (by simp) rfl
    simp only [nm3, seval]
    exact VE.nil _
  · kernel_rfl
  change VOk _ _ _ _ _
  refine vseq ?_
  apply vrp
  · apply VE.cons
    · exact ev_build rfl (gn rfl) rfl built29_0
    simp only [nm3, seval]
    apply VE.cons
    · exact ev_alloc rfl rfl (gn rfl) Tryd.zeroValue29
    simp only [nm3, seval]
    apply VE.cons
    · exact ev_store rfl (gn rfl) rfl rfl rfl Tryd.sizeOf29 rfl (by simp) rfl
    simp only [nm3, seval]
    exact VE.nil _
  · kernel_rfl
  change VOk _ _ _ _ _
  refine vseq ?_
  refine vseq ?_
  apply vrp
  · apply VE.cons
    · first | exact ev_load rfl (gn rfl) rfl rfl Tryd.underlying29 rfl Tryd.sizeOf29 rfl rfl | exact ev_loadx rfl (gn rfl) rfl Tryd.underlying29 rfl Tryd.sizeOf29 (by assumption) rfl
    simp only [nm3, seval]
    apply VE.cons
    · first | exact ev_load rfl (gn rfl) rfl rfl Tryd.underlying29 rfl Tryd.sizeOf29 rfl rfl | exact ev_loadx rfl (gn rfl) rfl Tryd.underlying29 rfl Tryd.sizeOf29 (by assumption) rfl
    simp only [nm3, seval]
    apply VE.cons
    · exact ev_bin (c := .bool true) rfl (gn rfl) rfl rfl (fun w => z29_t a _ _ w)
    simp only [nm3, seval]
    apply VE.cons
    · exact ev_move rfl (gn rfl)
    simp only [nm3, seval]
    apply VE.cons
    · first | exact Ev.skip (fun _ => rfl) | exact ev_load rfl (fun _ => rfl) rfl rfl Tryd.underlying29 rfl Tryd.sizeOf29 rfl rfl | exact ev_loadx rfl (fun _ => rfl) rfl Tryd.underlying29 rfl Tryd.sizeOf29 (by assumption) rfl
    simp only [nm3, seval]
    apply VE.cons
    · first | exact Ev.skip (fun _ => rfl) | exact ev_load rfl (fun _ => rfl) rfl rfl Tryd.underlying29 rfl Tryd.sizeOf29 rfl rfl | exact ev_loadx rfl (fun _ => rfl) rfl Tryd.underlying29 rfl Tryd.sizeOf29 (by assumption) rfl
    simp only [nm3, seval]
    apply VE.cons
    · first | exact Ev.skip (fun _ => rfl) | exact ev_bin (c := .bool false) rfl (fun _ => rfl) rfl rfl (fun w => z29_f b _ _ w)
    simp only [nm3, seval]
    apply VE.cons
    · first | exact ev_pick_t rfl (gn rfl) rfl rfl | exact ev_pick_f rfl (gn rfl) rfl rfl
    simp only [nm3, seval]
    exact VE.nil _
  · kernel_rfl
  change VOk _ _ _ _ _
  refine vcond_f rfl ?_
  refine vskip ?_
  change VOk _ _ _ _ _
  refine vseq ?_
  refine vseq ?_
  apply vrp
  · apply VE.cons
    · first | exact ev_load rfl (gn rfl) rfl rfl Tryd.underlying29 rfl Tryd.sizeOf29 rfl rfl | exact ev_loadx rfl (gn rfl) rfl Tryd.underlying29 rfl Tryd.sizeOf29 (by assumption) rfl
    simp only [nm3, seval]
    apply VE.cons
    · first | exact ev_load rfl (gn rfl) rfl rfl Tryd.underlying29 rfl Tryd.sizeOf29 rfl rfl | exact ev_loadx rfl (gn rfl) rfl Tryd.underlying29 rfl Tryd.sizeOf29 (by assumption) rfl
    simp only [nm3, seval]
    apply VE.cons
    · exact ev_bin (c := .bool false) rfl (gn rfl) rfl rfl (fun w => z29_f c _ _ w)
    simp only [nm3, seval]
    apply VE.cons
    · exact ev_move rfl (gn rfl)
    simp only [nm3, seval]
    apply VE.cons
    · first | exact Ev.skip (fun _ => rfl) | exact ev_load rfl (fun _ => rfl) rfl rfl Tryd.underlying29 rfl Tryd.sizeOf29 rfl rfl | exact ev_loadx rfl (fun _ => rfl) rfl Tryd.underlying29 rfl Tryd.sizeOf29 (by assumption) rfl
    simp only [nm3, seval]
    apply VE.cons
    · first | exact Ev.skip (fun _ => rfl) | exact ev_load rfl (fun _ => rfl) rfl rfl Tryd.underlying29 rfl Tryd.sizeOf29 rfl rfl | exact ev_loadx rfl (fun _ => rfl) rfl Tryd.underlying29 rfl Tryd.sizeOf29 (by assumption) rfl
    simp only [nm3, seval]
    apply VE.cons
    · first | exact Ev.skip (fun _ => rfl) | refine ev_pure' (fun _ => rfl) (fun ρ w => by simp only [VS.act, SV.c, List.map_cons, List.map_nil]; go_simp; exact rfl) (fun _ _ => rfl)
    simp only [nm3, seval]
    apply VE.cons
    · first | exact ev_pick_t rfl (gn rfl) rfl rfl | exact ev_pick_f rfl (gn rfl) rfl rfl
    simp only [nm3, seval]
    exact VE.nil _
  · kernel_rfl
  change VOk _ _ _ _ _
  refine vcond_f rfl ?_
  refine vskip ?_
  change VOk _ _ _ _ _
  refine vseq ?_
  apply vrd (by kernel_rfl)
  · apply VE.cons
    · first | exact ev_load rfl (gn rfl) rfl rfl Tryd.underlying29 rfl Tryd.sizeOf29 rfl rfl | exact ev_loadx rfl (gn rfl) rfl Tryd.underlying29 rfl Tryd.sizeOf29 (by assumption) rfl
    simp only [nm3, seval]
    apply VE.cons
    · first | exact ev_load rfl (gn rfl) rfl rfl Tryd.underlying29 rfl Tryd.sizeOf29 rfl rfl | exact ev_loadx rfl (gn rfl) rfl Tryd.underlying29 rfl Tryd.sizeOf29 (by assumption) rfl
    simp only [nm3, seval]
    apply VE.cons
    · first | exact ev_load rfl (gn rfl) rfl rfl Tryd.underlying29 rfl Tryd.sizeOf29 rfl rfl | exact ev_loadx rfl (gn rfl) rfl Tryd.underlying29 rfl Tryd.sizeOf29 (by assumption) rfl
    simp only [nm3, seval]
    apply VE.cons
    · exact ev_call rfl (gn rfl) rfl (en_of Tryd.func23 (by kernel_rfl) rfl) (fun w' hw' => rsubF _ _ w')
    simp only [nm3, seval]
    apply VE.cons
    · first | exact ev_load rfl (gn rfl) rfl rfl Tryd.underlying29 rfl Tryd.sizeOf29 rfl rfl | exact ev_loadx rfl (gn rfl) rfl Tryd.underlying29 rfl Tryd.sizeOf29 (by assumption) rfl
    simp only [nm3, seval]
    apply VE.cons
    · first | exact ev_load rfl (gn rfl) rfl rfl Tryd.underlying29 rfl Tryd.sizeOf29 rfl rfl | exact ev_loadx rfl (gn rfl) rfl Tryd.underlying29 rfl Tryd.sizeOf29 (by assumption) rfl
    simp only [nm3, seval]
    apply VE.cons
    · first | exact ev_load rfl (gn rfl) rfl rfl Tryd.underlying29 rfl Tryd.sizeOf29 rfl rfl | exact ev_loadx rfl (gn rfl) rfl Tryd.underlying29 rfl Tryd.sizeOf29 (by assumption) rfl
    simp only [nm3, seval]
    apply VE.cons
    · exact ev_call rfl (gn rfl) rfl (en_of Tryd.func23 (by kernel_rfl) rfl) (fun w' hw' => rsubF _ _ w')
    simp only [nm3, seval]
    apply VE.cons
    · exact ev_alloc rfl rfl (gn rfl) Tryd.zeroValue29
    simp only [nm3, seval]
    apply VE.cons
    · exact ev_alloc rfl rfl (gn rfl) Tryd.zeroValue29
    simp only [nm3, seval]
    apply VE.cons
    · exact ev_store rfl (gn rfl) rfl rfl rfl Tryd.sizeOf29 rfl (by simp) rfl
    simp only [nm3, seval]
    apply VE.cons
    · exact ev_store rfl (gn rfl) rfl rfl rfl Tryd.sizeOf29 rfl (by simp) rfl
    simp only [nm3, seval]
    exact VE.nil _
  · kernel_rfl
  change VOk _ _ _ _ _
  refine vseq ?_
  refine vseq ?_
  apply vrp
  · apply VE.cons
    · first | exact ev_load rfl (gn rfl) rfl rfl Tryd.underlying29 rfl Tryd.sizeOf29 rfl rfl | exact ev_loadx rfl (gn rfl) rfl Tryd.underlying29 rfl Tryd.sizeOf29 (by assumption) rfl
    simp only [nm3, seval]
    apply VE.cons
    · first | exact ev_load rfl (gn rfl) rfl rfl Tryd.underlying29 rfl Tryd.sizeOf29 rfl rfl | exact ev_loadx rfl (gn rfl) rfl Tryd.underlying29 rfl Tryd.sizeOf29 (by assumption) rfl
    simp only [nm3, seval]
    apply VE.cons
    · exact ev_bin (c := .bool true) rfl (gn rfl) rfl rfl (fun w => e29_t hx _ _ w)
    simp only [nm3, seval]
    exact VE.nil _
  · kernel_rfl
  change VOk _ _ _ _ _
  refine vcond_t rfl ?_
  refine vseq ?_
  refine vseq ?_
  apply vrd (by kernel_rfl)
  · apply VE.cons
    · first | exact ev_load rfl (gn rfl) rfl rfl Tryd.underlying29 rfl Tryd.sizeOf29 rfl rfl | exact ev_loadx rfl (gn rfl) rfl Tryd.underlying29 rfl Tryd.sizeOf29 (by assumption) rfl
    simp only [nm3, seval]
    apply VE.cons
    · first | exact ev_load rfl (gn rfl) rfl rfl Tryd.underlying29 rfl Tryd.sizeOf29 rfl rfl | exact ev_loadx rfl (gn rfl) rfl Tryd.underlying29 rfl Tryd.sizeOf29 (by assumption) rfl
    simp only [nm3, seval]
    apply VE.cons
    · first | exact ev_load rfl (gn rfl) rfl rfl Tryd.underlying29 rfl Tryd.sizeOf29 rfl rfl | exact ev_loadx rfl (gn rfl) rfl Tryd.underlying29 rfl Tryd.sizeOf29 (by assumption) rfl
    simp only [nm3, seval]
    apply VE.cons
    · exact ev_call rfl (gn rfl) rfl (en_of Tryd.func26 (by kernel_rfl) rfl) (fun w' hw' => raddF _ _ w')
    simp only [nm3, seval]
    apply VE.cons
    · first | exact ev_load rfl (gn rfl) rfl rfl Tryd.underlying29 rfl Tryd.sizeOf29 rfl rfl | exact ev_loadx rfl (gn rfl) rfl Tryd.underlying29 rfl Tryd.sizeOf29 (by assumption) rfl
    simp only [nm3, seval]
    apply VE.cons
    · exact ev_bin (c := .bool false) rfl (gn rfl) rfl rfl (fun w => z29_f hs _ _ w)
    simp only [nm3, seval]
    exact VE.nil _
  · kernel_rfl
  change VOk _ _ _ _ _
  refine vcond_f rfl ?_
  refine vskip ?_
  change VOk _ _ _ _ _
  refine vseq ?_
  apply vrd (by kernel_rfl)
  · apply VE.cons
    · exact ev_build rfl (gn rfl) rfl built29_three
    simp only [nm3, seval]
    apply VE.cons
    · first | exact ev_load rfl (gn rfl) rfl rfl Tryd.underlying29 rfl Tryd.sizeOf29 rfl rfl | exact ev_loadx rfl (gn rfl) rfl Tryd.underlying29 rfl Tryd.sizeOf29 (by assumption) rfl
    simp only [nm3, seval]
    apply VE.cons
    · first | exact ev_load rfl (gn rfl) rfl rfl Tryd.underlying29 rfl Tryd.sizeOf29 rfl rfl | exact ev_loadx rfl (gn rfl) rfl Tryd.underlying29 rfl Tryd.sizeOf29 (by assumption) rfl
    simp only [nm3, seval]
    apply VE.cons
    · first | exact ev_load rfl (gn rfl) rfl rfl Tryd.underlying29 rfl Tryd.sizeOf29 rfl rfl | exact ev_loadx rfl (gn rfl) rfl Tryd.underlying29 rfl Tryd.sizeOf29 (by assumption) rfl
    simp only [nm3, seval]
    apply VE.cons
    · exact ev_call rfl (gn rfl) rfl (en_of Tryd.func38 (by kernel_rfl) rfl) (fun w' hw' => rmulE e62 w')
    simp only [nm3, seval]
    apply VE.cons
    · exact ev_build rfl (gn rfl) rfl built29_one
    simp only [nm3, seval]
    apply VE.cons
    · first | exact ev_load rfl (gn rfl) rfl rfl Tryd.underlying29 rfl Tryd.sizeOf29 rfl rfl | exact ev_loadx rfl (gn rfl) rfl Tryd.underlying29 rfl Tryd.sizeOf29 (by assumption) rfl
    simp only [nm3, seval]
    apply VE.cons
    · exact ev_call rfl (gn rfl) rfl (en_of Tryd.func23 (by kernel_rfl) rfl) (fun w' hw' => rsubE1 e65 w')
    simp only [nm3, seval]
    apply VE.cons
    · first | exact ev_load rfl (gn rfl) rfl rfl Tryd.underlying29 rfl Tryd.sizeOf29 rfl rfl | exact ev_loadx rfl (gn rfl) rfl Tryd.underlying29 rfl Tryd.sizeOf29 (by assumption) rfl
    simp only [nm3, seval]
    apply VE.cons
    · exact ev_call rfl (gn rfl) rfl (en_of Tryd.func38 (by kernel_rfl) rfl) (fun w' hw' => rmulE3 e67 w')
    simp only [nm3, seval]
    apply VE.cons
    · exact ev_store rfl (gn rfl) rfl rfl rfl Tryd.sizeOf29 rfl (by simp) rfl
    simp only [nm3, seval]
    exact VE.nil _
  · kernel_rfl
  change VOk _ _ _ _ _
  apply vrp
  · apply VE.cons
    · first | exact ev_load rfl (gn rfl) rfl rfl Tryd.underlying29 rfl Tryd.sizeOf29 rfl rfl | exact ev_loadx rfl (gn rfl) rfl Tryd.underlying29 rfl Tryd.sizeOf29 (by assumption) rfl
    simp only [nm3, seval]
    apply VE.cons
    · first | exact ev_load rfl (gn rfl) rfl rfl Tryd.underlying29 rfl Tryd.sizeOf29 rfl rfl | exact ev_loadx rfl (gn rfl) rfl Tryd.underlying29 rfl Tryd.sizeOf29 (by assumption) rfl
    simp only [nm3, seval]
    apply VE.cons
    · first | exact ev_load rfl (gn rfl) rfl rfl Tryd.underlying29 rfl Tryd.sizeOf29 rfl rfl | exact ev_loadx rfl (gn rfl) rfl Tryd.underlying29 rfl Tryd.sizeOf29 (by assumption) rfl
    simp only [nm3, seval]
    apply VE.cons
    · exact ev_call rfl (gn rfl) rfl (en_of Tryd.func26 (by kernel_rfl) rfl) (fun w' hw' => raddE e71 w')
    simp only [nm3, seval]
    apply VE.cons
    · exact ev_store rfl (gn rfl) rfl rfl rfl Tryd.sizeOf29 rfl (by simp) rfl
    simp only [nm3, seval]
    exact VE.nil _
  · kernel_rfl
  change VOk _ _ _ _ _
  refine vseq ?_
  apply vrp
  · apply VE.cons
    · first | exact ev_load rfl (gn rfl) rfl rfl Tryd.underlying29 rfl Tryd.sizeOf29 rfl rfl | exact ev_loadx rfl (gn rfl) rfl Tryd.underlying29 rfl Tryd.sizeOf29 (by assumption) rfl
    simp only [nm3, seval]
    apply VE.cons
    · exact ev_build rfl (gn rfl) rfl built29_two
    simp only [nm3, seval]
    apply VE.cons
    · first | exact ev_load rfl (gn rfl) rfl rfl Tryd.underlying29 rfl Tryd.sizeOf29 rfl rfl | exact ev_loadx rfl (gn rfl) rfl Tryd.underlying29 rfl Tryd.sizeOf29 (by assumption) rfl
    simp only [nm3, seval]
    apply VE.cons
    · exact ev_call rfl (gn rfl) rfl (en_of Tryd.func23 (by kernel_rfl) rfl) (fun w' hw' => rsub2 w')
    simp only [nm3, seval]
    apply VE.cons
    · exact ev_alloc rfl rfl (gn rfl) Tryd.zeroValue29
    simp only [nm3, seval]
    apply VE.cons
    · exact ev_store rfl (gn rfl) rfl rfl rfl Tryd.sizeOf29 rfl (by simp) rfl
    simp only [nm3, seval]
    exact VE.nil _
  · kernel_rfl
  change VOk _ _ _ _ _
  refine vseq ?_
  apply vrd (by kernel_rfl)
  · apply VE.cons
    · first | exact ev_load rfl (gn rfl) rfl rfl Tryd.underlying29 rfl Tryd.sizeOf29 rfl rfl | exact ev_loadx rfl (gn rfl) rfl Tryd.underlying29 rfl Tryd.sizeOf29 (by assumption) rfl
    simp only [nm3, seval]
    apply VE.cons
    · first | exact ev_load rfl (gn rfl) rfl rfl Tryd.underlying29 rfl Tryd.sizeOf29 rfl rfl | exact ev_loadx rfl (gn rfl) rfl Tryd.underlying29 rfl Tryd.sizeOf29 (by assumption) rfl
    simp only [nm3, seval]
    apply VE.cons
    · first | exact ev_load rfl (gn rfl) rfl rfl Tryd.underlying29 rfl Tryd.sizeOf29 rfl rfl | exact ev_loadx rfl (gn rfl) rfl Tryd.underlying29 rfl Tryd.sizeOf29 (by assumption) rfl
    simp only [nm3, seval]
    apply VE.cons
    · first | exact ev_load rfl (gn rfl) rfl rfl Tryd.underlying29 rfl Tryd.sizeOf29 rfl rfl | exact ev_loadx rfl (gn rfl) rfl Tryd.underlying29 rfl Tryd.sizeOf29 (by assumption) rfl
    simp only [nm3, seval]
    apply VE.cons
    · exact ev_call rfl (gn rfl) rfl (en_of Tryd.func48 (by kernel_rfl) rfl) (fun w' hw' => rpowF hi w')
    simp only [nm3, seval]
    apply VE.cons
    · first | exact ev_load rfl (gn rfl) rfl rfl Tryd.underlying29 rfl Tryd.sizeOf29 rfl rfl | exact ev_loadx rfl (gn rfl) rfl Tryd.underlying29 rfl Tryd.sizeOf29 (by assumption) rfl
    simp only [nm3, seval]
    apply VE.cons
    · exact ev_call rfl (gn rfl) rfl (en_of Tryd.func38 (by kernel_rfl) rfl) (fun w' hw' => rmulE e82 w')
    simp only [nm3, seval]
    apply VE.cons
    · exact ev_alloc rfl rfl (gn rfl) Tryd.zeroValue29
    simp only [nm3, seval]
    apply VE.cons
    · exact ev_store rfl (gn rfl) rfl rfl rfl Tryd.sizeOf29 rfl (by simp) rfl
    simp only [nm3, seval]
    exact VE.nil _
  · kernel_rfl
  change VOk _ _ _ _ _
  refine vseq ?_
  apply vrd (by kernel_rfl)
  · apply VE.cons
    · first | exact ev_load rfl (gn rfl) rfl rfl Tryd.underlying29 rfl Tryd.sizeOf29 rfl rfl | exact ev_loadx rfl (gn rfl) rfl Tryd.underlying29 rfl Tryd.sizeOf29 (by assumption) rfl
    simp only [nm3, seval]
    apply VE.cons
    · first | exact ev_load rfl (gn rfl) rfl rfl Tryd.underlying29 rfl Tryd.sizeOf29 rfl rfl | exact ev_loadx rfl (gn rfl) rfl Tryd.underlying29 rfl Tryd.sizeOf29 (by assumption) rfl
    simp only [nm3, seval]
    apply VE.cons
    · first | exact ev_load rfl (gn rfl) rfl rfl Tryd.underlying29 rfl Tryd.sizeOf29 rfl rfl | exact ev_loadx rfl (gn rfl) rfl Tryd.underlying29 rfl Tryd.sizeOf29 (by assumption) rfl
    simp only [nm3, seval]
    apply VE.cons
    · exact ev_call rfl (gn rfl) rfl (en_of Tryd.func38 (by kernel_rfl) rfl) (fun w' hw' => rmulE e86 w')
    simp only [nm3, seval]
    apply VE.cons
    · first | exact ev_load rfl (gn rfl) rfl rfl Tryd.underlying29 rfl Tryd.sizeOf29 rfl rfl | exact ev_loadx rfl (gn rfl) rfl Tryd.underlying29 rfl Tryd.sizeOf29 (by assumption) rfl
    simp only [nm3, seval]
    apply VE.cons
    · first | exact ev_load rfl (gn rfl) rfl rfl Tryd.underlying29 rfl Tryd.sizeOf29 rfl rfl | exact ev_loadx rfl (gn rfl) rfl Tryd.underlying29 rfl Tryd.sizeOf29 (by assumption) rfl
    simp only [nm3, seval]
    apply VE.cons
    · exact ev_call rfl (gn rfl) rfl (en_of Tryd.func23 (by kernel_rfl) rfl) (fun w' hw' => rsubE e89 w')
    simp only [nm3, seval]
    apply VE.cons
    · first | exact ev_load rfl (gn rfl) rfl rfl Tryd.underlying29 rfl Tryd.sizeOf29 rfl rfl | exact ev_loadx rfl (gn rfl) rfl Tryd.underlying29 rfl Tryd.sizeOf29 (by assumption) rfl
    simp only [nm3, seval]
    apply VE.cons
    · first | exact ev_load rfl (gn rfl) rfl rfl Tryd.underlying29 rfl Tryd.sizeOf29 rfl rfl | exact ev_loadx rfl (gn rfl) rfl Tryd.underlying29 rfl Tryd.sizeOf29 (by assumption) rfl
    simp only [nm3, seval]
    apply VE.cons
    · exact ev_call rfl (gn rfl) rfl (en_of Tryd.func23 (by kernel_rfl) rfl) (fun w' hw' => rsubE e92 w')
    simp only [nm3, seval]
    apply VE.cons
    · exact ev_alloc rfl rfl (gn rfl) Tryd.zeroValue29
    simp only [nm3, seval]
    apply VE.cons
    · exact ev_store rfl (gn rfl) rfl rfl rfl Tryd.sizeOf29 rfl (by simp) rfl
    simp only [nm3, seval]
    exact VE.nil _
  · kernel_rfl
  change VOk _ _ _ _ _
  refine vseq ?_
  apply vrd (by kernel_rfl)
  · apply VE.cons
    · first | exact ev_load rfl (gn rfl) rfl rfl Tryd.underlying29 rfl Tryd.sizeOf29 rfl rfl | exact ev_loadx rfl (gn rfl) rfl Tryd.underlying29 rfl Tryd.sizeOf29 (by assumption) rfl
    simp only [nm3, seval]
    apply VE.cons
    · first | exact ev_load rfl (gn rfl) rfl rfl Tryd.underlying29 rfl Tryd.sizeOf29 rfl rfl | exact ev_loadx rfl (gn rfl) rfl Tryd.underlying29 rfl Tryd.sizeOf29 (by assumption) rfl
    simp only [nm3, seval]
    apply VE.cons
    · first | exact ev_load rfl (gn rfl) rfl rfl Tryd.underlying29 rfl Tryd.sizeOf29 rfl rfl | exact ev_loadx rfl (gn rfl) rfl Tryd.underlying29 rfl Tryd.sizeOf29 (by assumption) rfl
    simp only [nm3, seval]
    apply VE.cons
    · first | exact ev_load rfl (gn rfl) rfl rfl Tryd.underlying29 rfl Tryd.sizeOf29 rfl rfl | exact ev_loadx rfl (gn rfl) rfl Tryd.underlying29 rfl Tryd.sizeOf29 (by assumption) rfl
    simp only [nm3, seval]
    apply VE.cons
    · first | exact ev_load rfl (gn rfl) rfl rfl Tryd.underlying29 rfl Tryd.sizeOf29 rfl rfl | exact ev_loadx rfl (gn rfl) rfl Tryd.underlying29 rfl Tryd.sizeOf29 (by assumption) rfl
    simp only [nm3, seval]
    apply VE.cons
    · exact ev_call rfl (gn rfl) rfl (en_of Tryd.func23 (by kernel_rfl) rfl) (fun w' hw' => rsubE e98 w')
    simp only [nm3, seval]
    apply VE.cons
    · first | exact ev_load rfl (gn rfl) rfl rfl Tryd.underlying29 rfl Tryd.sizeOf29 rfl rfl | exact ev_loadx rfl (gn rfl) rfl Tryd.underlying29 rfl Tryd.sizeOf29 (by assumption) rfl
    simp only [nm3, seval]
    apply VE.cons
    · exact ev_call rfl (gn rfl) rfl (en_of Tryd.func38 (by kernel_rfl) rfl) (fun w' hw' => rmulE e100 w')
    simp only [nm3, seval]
    apply VE.cons
    · first | exact ev_load rfl (gn rfl) rfl rfl Tryd.underlying29 rfl Tryd.sizeOf29 rfl rfl | exact ev_loadx rfl (gn rfl) rfl Tryd.underlying29 rfl Tryd.sizeOf29 (by assumption) rfl
    simp only [nm3, seval]
    apply VE.cons
    · first | exact ev_load rfl (gn rfl) rfl rfl Tryd.underlying29 rfl Tryd.sizeOf29 rfl rfl | exact ev_loadx rfl (gn rfl) rfl Tryd.underlying29 rfl Tryd.sizeOf29 (by assumption) rfl
    simp only [nm3, seval]
    apply VE.cons
    · exact ev_call rfl (gn rfl) rfl (en_of Tryd.func23 (by kernel_rfl) rfl) (fun w' hw' => rsubE e103 w')
    simp only [nm3, seval]
    apply VE.cons
    · exact ev_store rfl (gn rfl) rfl rfl rfl Tryd.sizeOf29 rfl (by simp) rfl
    simp only [nm3, seval]
    apply VE.cons
    · exact ev_store rfl (gn rfl) rfl rfl rfl Tryd.sizeOf29 rfl (by simp) rfl
    simp only [nm3, seval]
    exact VE.nil _
  · kernel_rfl
  change VOk _ _ _ _ _
  refine vret ?_
  refine post_ret (res2 Tryd.results25 (rv_cell rfl rfl Tryd.underlying29 rfl Tryd.sizeOf29 rfl rfl) (rv_cell rfl rfl Tryd.underlying29 rfl Tryd.sizeOf29 rfl rfl)) ?_
  intro w' hg
  exact ⟨rfl, hg⟩
theorem radd_ne_yy (x1 y1 x2 y2 i s v86 v89 x3 v98 v100 y3 : F) (w : World) (a : x1 = 0) (b : y1 ≠ 0) (c : x2 = 0) (d : y2 ≠ 0) (hx : x1 ≠ x2) (hi : (x2 - x1) * i = 1) (e82 : (y2 - y1) * i = s) (e86 : s * s = v86) (e89 : v86 - x1 = v89) (e92 : v89 - x2 = x3) (e98 : x1 - x3 = v98) (e100 : s * v98 = v100) (e103 : v100 - y1 = y3) : Calls Tryd.prog 25 #[NF x1, NF y1, NF x2, NF y2] w fun e w' => e = .returned (.tuple #[NF x3, NF y3]) ∧ Gw w w' := by
  go_enter Tryd.func25, Tryd.ntmps25
  refine ve_go ?_
  simp only [List.map_cons, List.map_nil]
  refine vseq ?_
  apply vrp
  · apply VE.cons
    · exact ev_box rfl rfl (gn rfl) rfl
    simp only [nm3, seval]
    apply VE.cons
    · exact ev_box rfl rfl (gn rfl) rfl
    simp only [nm3, seval]
    apply VE.cons
    · exact ev_box rfl rfl (gn rfl) rfl
    simp only [nm3, seval]
    apply VE.cons
    · exact ev_box rfl rfl (gn rfl) rfl
    simp only [nm3, seval]
    apply VE.cons
    · exact ev_alloc rfl rfl (gn rfl) Tryd.zeroValue29
    simp only [nm3, seval]
    apply VE.cons
    · exact ev_alloc rfl rfl (gn rfl) Tryd.zeroValue29
    simp only [nm3, seval]
    exact VE.nil _
  · kernel_rfl
  change VOk _ _ _ _ _
  refine vseq ?_
  apply vrp
  · apply VE.cons
    · exact ev_call rfl (gn rfl) rfl (en_of Tryd.func28 (by kernel_rfl) rfl) (fun w' hw' => c_P w')
    simp only [nm3, seval]
    apply VE.cons
    · exact ev_alloc rfl rfl (gn rfl) Tryd.zeroValue29
    simp only [nm3, seval]
    apply VE.cons
    · exact ev_store rfl (gn rfl) rfl rfl rfl Tryd.sizeOf29 rfl (by simp) rfl
    simp only [nm3, seval]
    exact VE.nil _
  · kernel_rfl
  change VOk _ _ _ _ _
  refine vseq ?_
  apply vrp
  · apply VE.cons
    · exact ev_build rfl (gn rfl) rfl built29_0
    simp only [nm3, seval]
    apply VE.cons
    · exact ev_alloc rfl rfl (gn rfl) Tryd.zeroValue29
    simp only [nm3, seval]
    apply VE.cons
    · exact ev_store rfl (gn rfl) rfl rfl rfl Tryd.sizeOf29 rfl (by simp) rfl
    simp only [nm3, seval]
    exact VE.nil _
  · kernel_rfl
  change VOk _ _ _ _ _
  refine vseq ?_
  refine vseq ?_
  apply vrp
  · apply VE.cons
    · first | exact ev_load rfl (gn rfl) rfl rfl Tryd.underlying29 rfl Tryd.sizeOf29 rfl rfl | exact ev_loadx rfl (gn rfl) rfl Tryd.underlying29 rfl Tryd.sizeOf29 (by assumption) rfl
    simp only [nm3, seval]
    apply VE.cons
    · first | exact ev_load rfl (gn rfl) rfl rfl Tryd.underlying29 rfl Tryd.sizeOf29 rfl rfl | exact ev_loadx rfl (gn rfl) rfl Tryd.underlying29 rfl Tryd.sizeOf29 (by assumption) rfl
    simp only [nm3, seval]
    apply VE.cons
    · exact ev_bin (c := .bool true) rfl (gn rfl) rfl rfl (fun w => z29_t a _ _ w)
    simp only [nm3, seval]
    apply VE.cons
    · exact ev_move rfl (gn rfl)
    simp only [nm3, seval]
    apply VE.cons
    · first | exact Ev.skip (fun _ => rfl) | exact ev_load rfl (fun _ => rfl) rfl rfl Tryd.underlying29 rfl Tryd.sizeOf29 rfl rfl | exact ev_loadx rfl (fun _ => rfl) rfl Tryd.underlying29 rfl Tryd.sizeOf29 (by assumption) rfl
    simp only [nm3, seval]
    apply VE.cons
    · first | exact Ev.skip (fun _ => rfl) | exact ev_load rfl (fun _ => rfl) rfl rfl Tryd.underlying29 rfl Tryd.sizeOf29 rfl rfl | exact ev_loadx rfl (fun _ => rfl) rfl Tryd.underlying29 rfl Tryd.sizeOf29 (by assumption) rfl
    simp only [nm3, seval]
    apply VE.cons
    · first | exact Ev.skip (fun _ => rfl) | exact ev_bin (c := .bool false) rfl (fun _ => rfl) rfl rfl (fun w => z29_f b _ _ w)
    simp only [nm3, seval]
    apply VE.cons
    · first | exact ev_pick_t rfl (gn rfl) rfl rfl | exact ev_pick_f rfl (gn rfl) rfl rfl
    simp only [nm3, seval]
    exact VE.nil _
  · kernel_rfl
  change VOk _ _ _ _ _
  refine vcond_f rfl ?_
  refine vskip ?_
  change VOk _ _ _ _ _
  refine vseq ?_
  refine vseq ?_
  apply vrp
  · apply VE.cons
    · first | exact ev_load rfl (gn rfl) rfl rfl Tryd.underlying29 rfl Tryd.sizeOf29 rfl rfl | exact ev_loadx rfl (gn rfl) rfl Tryd.underlying29 rfl Tryd.sizeOf29 (by assumption) rfl
    simp only [nm3, seval]
    apply VE.cons
    · first | exact ev_load rfl (gn rfl) rfl rfl Tryd.underlying29 rfl Tryd.sizeOf29 rfl rfl | exact ev_loadx rfl (gn rfl) rfl Tryd.underlying29 rfl Tryd.sizeOf29 (by assumption) rfl
    simp only [nm3, seval]
    apply VE.cons
    · exact ev_bin (c := .bool true) rfl (gn rfl) rfl rfl (fun w => z29_t c _ _ w)
    simp only [nm3, seval]
    apply VE.cons
    · exact ev_move rfl (gn rfl)
    simp only [nm3, seval]
    apply VE.cons
    · first | exact Ev.skip (fun _ => rfl) | exact ev_load rfl (fun _ => rfl) rfl rfl Tryd.underlying29 rfl Tryd.sizeOf29 rfl rfl | exact ev_loadx rfl (fun _ => rfl) rfl Tryd.underlying29 rfl Tryd.sizeOf29 (by assumption) rfl
    simp only [nm3, seval]
    apply VE.cons
    · first | exact Ev.skip (fun _ => rfl) | exact ev_load rfl (fun _ => rfl) rfl rfl Tryd.underlying29 rfl Tryd.sizeOf29 rfl rfl | exact ev_loadx rfl (fun _ => rfl) rfl Tryd.underlying29 rfl Tryd.sizeOf29 (by assumption) rfl
    simp only [nm3, seval]
    apply VE.cons
    · first | exact Ev.skip (fun _ => rfl) | exact ev_bin (c := .bool false) rfl (fun _ => rfl) rfl rfl (fun w => z29_f d _ _ w)
    simp only [nm3, seval]
    apply VE.cons
    · first | exact ev_pick_t rfl (gn rfl) rfl rfl | exact ev_pick_f rfl (gn rfl) rfl rfl
    simp only [nm3, seval]
    exact VE.nil _
  · kernel_rfl
  change VOk _ _ _ _ _
  refine vcond_f rfl ?_
  refine vskip ?_
  change VOk _ _ _ _ _
  refine vseq ?_
  apply vrd (by kernel_rfl)
  · apply VE.cons
    · first | exact ev_load rfl (gn rfl) rfl rfl Tryd.underlying29 rfl Tryd.sizeOf29 rfl rfl | exact ev_loadx rfl (gn rfl) rfl Tryd.underlying29 rfl Tryd.sizeOf29 (by assumption) rfl
    simp only [nm3, seval]
    apply VE.cons
    · first | exact ev_load rfl (gn rfl) rfl rfl Tryd.underlying29 rfl Tryd.sizeOf29 rfl rfl | exact ev_loadx rfl (gn rfl) rfl Tryd.underlying29 rfl Tryd.sizeOf29 (by assumption) rfl
    simp only [nm3, seval]
    apply VE.cons
    · first | exact ev_load rfl (gn rfl) rfl rfl Tryd.underlying29 rfl Tryd.sizeOf29 rfl rfl | exact ev_loadx rfl (gn rfl) rfl Tryd.underlying29 rfl Tryd.sizeOf29 (by assumption) rfl
    simp only [nm3, seval]
    apply VE.cons
    · exact ev_call rfl (gn rfl) rfl (en_of Tryd.func23 (by kernel_rfl) rfl) (fun w' hw' => rsubF _ _ w')
    simp only [nm3, seval]
    apply VE.cons
    · first | exact ev_load rfl (gn rfl) rfl rfl Tryd.underlying29 rfl Tryd.sizeOf29 rfl rfl | exact ev_loadx rfl (gn rfl) rfl Tryd.underlying29 rfl Tryd.sizeOf29 (by assumption) rfl
    simp only [nm3, seval]
    apply VE.cons
    · first | exact ev_load rfl (gn rfl) rfl rfl Tryd.underlying29 rfl Tryd.sizeOf29 rfl rfl | exact ev_loadx rfl (gn rfl) rfl Tryd.underlying29 rfl Tryd.sizeOf29 (by assumption) rfl
    simp only [nm3, seval]
    apply VE.cons
    · first | exact ev_load rfl (gn rfl) rfl rfl Tryd.underlying29 rfl Tryd.sizeOf29 rfl rfl | exact ev_loadx rfl (gn rfl) rfl Tryd.underlying29 rfl Tryd.sizeOf29 (by assumption) rfl
    simp only [nm3, seval]
    apply VE.cons
    · exact ev_call rfl (gn rfl) rfl (en_of Tryd.func23 (by kernel_rfl) rfl) (fun w' hw' => rsubF _ _ w')
    simp only [nm3, seval]
    apply VE.cons
    · exact ev_alloc rfl rfl (gn rfl) Tryd.zeroValue29
    simp only [nm3, seval]
    apply VE.cons
    · exact ev_alloc rfl rfl (gn rfl) Tryd.zeroValue29
    simp only [nm3, seval]
    apply VE.cons
    · exact ev_store rfl (gn rfl) rfl rfl rfl Tryd.sizeOf29 rfl (by simp) rfl
    simp only [nm3, seval]
    apply VE.cons
    · exact ev_store rfl (gn rfl) rfl rfl rfl Tryd.sizeOf29 rfl (by simp) rfl
    simp only [nm3, seval]
    exact VE.nil _
  · kernel_rfl
  change VOk _ _ _ _ _
  refine vseq ?_
  refine vseq ?_
  apply vrp
  · apply VE.cons
    · first | exact ev_load rfl (gn rfl) rfl rfl Tryd.underlying29 rfl Tryd.sizeOf29 rfl rfl | exact ev_loadx rfl (gn rfl) rfl Tryd.underlying29 rfl Tryd.sizeOf29 (by assumption) rfl
    simp only [nm3, seval]
    apply VE.cons
    · first | exact ev_load rfl (gn rfl) rfl rfl Tryd.underlying29 rfl Tryd.sizeOf29 rfl rfl | exact ev_loadx rfl (gn rfl) rfl Tryd.underlying29 rfl Tryd.sizeOf29 (by assumption) rfl
    simp only [nm3, seval]
    apply VE.cons
    · exact ev_bin (c := .bool false) rfl (gn rfl) rfl rfl (fun w => e29_f hx _ _ w)
    simp only [nm3, seval]
    exact VE.nil _
  · kernel_rfl
  change VOk _ _ _ _ _
  refine vcond_f rfl ?_
  refine vskip ?_
  change VOk _ _ _ _ _
  refine vseq ?_
  apply vrp
  · apply VE.cons
    · first | exact ev_load rfl (gn rfl) rfl rfl Tryd.underlying29 rfl Tryd.sizeOf29 rfl rfl | exact ev_loadx rfl (gn rfl) rfl Tryd.underlying29 rfl Tryd.sizeOf29 (by assumption) rfl
    simp only [nm3, seval]
    apply VE.cons
    · exact ev_build rfl (gn rfl) rfl built29_two
    simp only [nm3, seval]
    apply VE.cons
    · first | exact ev_load rfl (gn rfl) rfl rfl Tryd.underlying29 rfl Tryd.sizeOf29 rfl rfl | exact ev_loadx rfl (gn rfl) rfl Tryd.underlying29 rfl Tryd.sizeOf29 (by assumption) rfl
    simp only [nm3, seval]
    apply VE.cons
    · exact ev_call rfl (gn rfl) rfl (en_of Tryd.func23 (by kernel_rfl) rfl) (fun w' hw' => rsub2 w')
    simp only [nm3, seval]
    apply VE.cons
    · exact ev_alloc rfl rfl (gn rfl) Tryd.zeroValue29
    simp only [nm3, seval]
    apply VE.cons
    · exact ev_store rfl (gn rfl) rfl rfl rfl Tryd.sizeOf29 rfl (by simp) rfl
    simp only [nm3, seval]
    exact VE.nil _
  · kernel_rfl
  change VOk _ _ _ _ _
  refine vseq ?_
  apply vrd (by kernel_rfl)
  · apply VE.cons
    · first | exact ev_load rfl (gn rfl) rfl rfl Tryd.underlying29 rfl Tryd.sizeOf29 rfl rfl | exact ev_loadx rfl (gn rfl) rfl Tryd.underlying29 rfl Tryd.sizeOf29 (by assumption) rfl
    simp only [nm3, seval]
    apply VE.cons
    · first | exact ev_load rfl (gn rfl) rfl rfl Tryd.underlying29 rfl Tryd.sizeOf29 rfl rfl | exact ev_loadx rfl (gn rfl) rfl Tryd.underlying29 rfl Tryd.sizeOf29 (by assumption) rfl
    simp only [nm3, seval]
    apply VE.cons
    · first | exact ev_load rfl (gn rfl) rfl rfl Tryd.underlying29 rfl Tryd.sizeOf29 rfl rfl | exact ev_loadx rfl (gn rfl) rfl Tryd.underlying29 rfl Tryd.sizeOf29 (by assumption) rfl
    simp only [nm3, seval]
    apply VE.cons
    · first | exact ev_load rfl (gn rfl) rfl rfl Tryd.underlying29 rfl Tryd.sizeOf29 rfl rfl | exact ev_loadx rfl (gn rfl) rfl Tryd.underlying29 rfl Tryd.sizeOf29 (by assumption) rfl
    simp only [nm3, seval]
    apply VE.cons
    · exact ev_call rfl (gn rfl) rfl (en_of Tryd.func48 (by kernel_rfl) rfl) (fun w' hw' => rpowF hi w')
    simp only [nm3, seval]
    apply VE.cons
    · first | exact ev_load rfl (gn rfl) rfl rfl Tryd.underlying29 rfl Tryd.sizeOf29 rfl rfl | exact ev_loadx rfl (gn rfl) rfl Tryd.underlying29 rfl Tryd.sizeOf29 (by assumption) rfl
    simp only [nm3, seval]
    apply VE.cons
    · exact ev_call rfl (gn rfl) rfl (en_of Tryd.func38 (by kernel_rfl) rfl) (fun w' hw' => rmulE e82 w')
    simp only [nm3, seval]
    apply VE.cons
    · exact ev_alloc rfl rfl (gn rfl) Tryd.zeroValue29
    simp only [nm3, seval]
    apply VE.cons
    · exact ev_store rfl (gn rfl) rfl rfl rfl Tryd.sizeOf29 rfl (by simp) rfl
    simp only [nm3, seval]
    exact VE.nil _
  · kernel_rfl
  change VOk _ _ _ _ _
  refine vseq ?_
  apply vrd (by kernel_rfl)
  · apply VE.cons
    · first | exact ev_load rfl (gn rfl) rfl rfl Tryd.underlying29 rfl Tryd.sizeOf29 rfl rfl | exact ev_loadx rfl (gn rfl) rfl Tryd.underlying29 rfl Tryd.sizeOf29 (by assumption) rfl
    simp only [nm3, seval]
    apply VE.cons
    · first | exact ev_load rfl (gn rfl) rfl rfl Tryd.underlying29 rfl Tryd.sizeOf29 rfl rfl | exact ev_loadx rfl (gn rfl) rfl Tryd.underlying29 rfl Tryd.sizeOf29 (by assumption) rfl
    simp only [nm3, seval]
    apply VE.cons
    · first | exact ev_load rfl (gn rfl) rfl rfl Tryd.underlying29 rfl Tryd.sizeOf29 rfl rfl | exact ev_loadx rfl (gn rfl) rfl Tryd.underlying29 rfl Tryd.sizeOf29 (by assumption) rfl
    simp only [nm3, seval]
    apply VE.cons
    · exact ev_call rfl (gn rfl) rfl (en_of Tryd.func38 (by kernel_rfl) rfl) (fun w' hw' => rmulE e86 w')
    simp only [nm3, seval]
    apply VE.cons
    · first | exact ev_load rfl (gn rfl) rfl rfl Tryd.underlying29 rfl Tryd.sizeOf29 rfl rfl | exact ev_loadx rfl (gn rfl) rfl Tryd.underlying29 rfl Tryd.sizeOf29 (by assumption) rfl
    simp only [nm3, seval]
    apply VE.cons
    · first | exact ev_load rfl (gn rfl) rfl rfl Tryd.underlying29 rfl Tryd.sizeOf29 rfl rfl | exact ev_loadx rfl (gn rfl) rfl Tryd.underlying29 rfl Tryd.sizeOf29 (by assumption) rfl
    simp only [nm3, seval]
    apply VE.cons
    · exact ev_call rfl (gn rfl) rfl (en_of Tryd.func23 (by kernel_rfl) rfl) (fun w' hw' => rsubE e89 w')
    simp only [nm3, seval]
    apply VE.cons
    · first | exact ev_load rfl (gn rfl) rfl rfl Tryd.underlying29 rfl Tryd.sizeOf29 rfl rfl | exact ev_loadx rfl (gn rfl) rfl Tryd.underlying29 rfl Tryd.sizeOf29 (by assumption) rfl
    simp only [nm3, seval]
    apply VE.cons
    · first | exact ev_load rfl (gn rfl) rfl rfl Tryd.underlying29 rfl Tryd.sizeOf29 rfl rfl | exact ev_loadx rfl (gn rfl) rfl Tryd.underlying29 rfl Tryd.sizeOf29 (by assumption) rfl
    simp only [nm3, seval]
    apply VE.cons
    · exact ev_call rfl (gn rfl) rfl (en_of Tryd.func23 (by kernel_rfl) rfl) (fun w' hw' => rsubE e92 w')
    simp only [nm3, seval]
    apply VE.cons
    · exact ev_alloc rfl rfl (gn rfl) Tryd.zeroValue29
    simp only [nm3, seval]
    apply VE.cons
    · exact ev_store rfl (gn rfl) rfl rfl rfl Tryd.sizeOf29 rfl (by simp) rfl
    simp only [nm3, seval]
    exact VE.nil _
  · kernel_rfl
  change VOk _ _ _ _ _
  refine vseq ?_
  apply vrd (by kernel_rfl)
  · apply VE.cons
    · first | exact ev_load rfl (gn rfl) rfl rfl Tryd.underlying29 rfl Tryd.sizeOf29 rfl rfl | exact ev_loadx rfl (gn rfl) rfl Tryd.underlying29 rfl Tryd.sizeOf29 (by assumption) rfl
    simp only [nm3, seval]
    apply VE.cons
    · first | exact ev_load rfl (gn rfl) rfl rfl Tryd.underlying29 rfl Tryd.sizeOf29 rfl rfl | exact ev_loadx rfl (gn rfl) rfl Tryd.underlying29 rfl Tryd.sizeOf29 (by assumption) rfl
    simp only [nm3, seval]
    apply VE.cons
    · first | exact ev_load rfl (gn rfl) rfl rfl Tryd.underlying29 rfl Tryd.sizeOf29 rfl rfl | exact ev_loadx rfl (gn rfl) rfl Tryd.underlying29 rfl Tryd.sizeOf29 (by assumption) rfl
    simp only [nm3, seval]
    apply VE.cons
    · first | exact ev_load rfl (gn rfl) rfl rfl Tryd.underlying29 rfl Tryd.sizeOf29 rfl rfl | exact ev_loadx rfl (gn rfl) rfl Tryd.underlying29 rfl Tryd.sizeOf29 (by assumption) rfl
    simp only [nm3, seval]
    apply VE.cons
    · first | exact ev_load rfl (gn rfl) rfl rfl Tryd.underlying29 rfl Tryd.sizeOf29 rfl rfl | exact ev_loadx rfl (gn rfl) rfl Tryd.underlying29 rfl Tryd.sizeOf29 (by assumption) rfl
    simp only [nm3, seval]
    apply VE.cons
    · exact ev_call rfl (gn rfl) rfl (en_of Tryd.func23 (by kernel_rfl) rfl) (fun w' hw' => rsubE e98 w')
    simp only [nm3, seval]
    apply VE.cons
    · first | exact ev_load rfl (gn rfl) rfl rfl Tryd.underlying29 rfl Tryd.sizeOf29 rfl rfl | exact ev_loadx rfl (gn rfl) rfl Tryd.underlying29 rfl Tryd.sizeOf29 (by assumption) rfl
    simp only [nm3, seval]
    apply VE.cons
    · exact ev_call rfl (gn rfl) rfl (en_of Tryd.func38 (by kernel_rfl) rfl) (fun w' hw' => rmulE e100 w')
    simp only [nm3, seval]
    apply VE.cons
    · first | exact ev_load rfl (gn rfl) rfl rfl Tryd.underlying29 rfl Tryd.sizeOf29 rfl rfl | exact ev_loadx rfl (gn rfl) rfl Tryd.underlying29 rfl Tryd.sizeOf29 (by assumption) rfl
    simp only [nm3, seval]
    apply VE.cons
    · first | exact ev_load rfl (gn rfl) rfl rfl Tryd.underlying29 rfl Tryd.sizeOf29 rfl rfl | exact ev_loadx rfl (gn rfl) rfl Tryd.underlying29 rfl Tryd.sizeOf29 (by assumption) rfl
    simp only [nm3, seval]
    apply VE.cons
    · exact ev_call rfl (gn rfl) rfl (en_of Tryd.func23 (by kernel_rfl) rfl) (fun w' hw' => rsubE e103 w')
    simp only [nm3, seval]
    apply VE.cons
    · exact ev_store rfl (gn rfl) rfl rfl rfl Tryd.sizeOf29 rfl (by simp) rfl
    simp only [nm3, seval]
    apply VE.cons
    · exact ev_store rfl (gn rfl) rfl rfl rfl Tryd.sizeOf29 rfl (by simp) rfl
    simp only [nm3, seval]
    exact VE.nil _
  · kernel_rfl
  change VOk _ _ _ _ _
  refine vret ?_
  refine post_ret (res2 Tryd.results25 (rv_cell rfl rfl Tryd.underlying29 rfl Tryd.sizeOf29 rfl rfl) (rv_cell rfl rfl Tryd.underlying29 rfl Tryd.sizeOf29 rfl rfl)) ?_
  intro w' hg
  exact ⟨rfl, hg⟩
theorem radd_inf_yy (x1 y1 x2 y2 : F) (w : World) (a : x1 = 0) (b : y1 ≠ 0) (c : x2 = 0) (d : y2 ≠ 0) (hx : x1 = x2) (hs : y1 + y2 = 0) : Calls Tryd.prog 25 #[NF x1, NF y1, NF x2, NF y2] w fun e w' => e = .returned (.tuple #[.agg #[.int .u64 0, .int .u64 0, .int .u64 0, .int .u64 0], .agg #[.int .u64 0, .int .u64 0, .int .u64 0, .int .u64 0]]) ∧ Gw w w' := by
  go_enter Tryd.func25, Tryd.ntmps25
  refine ve_go ?_
  simp only [List.map_cons, List.map_nil]
  refine vseq ?_
  apply vrp
  · apply VE.cons
    · exact ev_box rfl rfl (gn rfl) rfl
    simp only [nm3, seval]
    apply VE.cons
    · exact ev_box rfl rfl (gn rfl) rfl
    simp only [nm3, seval]
    apply VE.cons
    · exact ev_box rfl rfl (gn rfl) rfl
    simp only [nm3, seval]
    apply VE.cons
    · exact ev_box rfl rfl (gn rfl) rfl
    simp only [nm3, seval]
    apply VE.cons
    · exact ev_alloc rfl rfl (gn rfl) Tryd.zeroValue29
    simp only [nm3, seval]
    apply VE.cons
    · exact ev_alloc rfl rfl (gn rfl) Tryd.zeroValue29
    simp only [nm3, seval]
    exact VE.nil _
  · kernel_rfl
  change VOk _ _ _ _ _
  refine vseq ?_
  apply vrp
  · apply VE.cons
    · exact ev_call rfl (gn rfl) rfl (en_of Tryd.func28 (by kernel_rfl) rfl) (fun w' hw' => c_P w')
    simp only [nm3, seval]
    apply VE.cons
    · exact ev_alloc rfl rfl (gn rfl) Tryd.zeroValue29
    simp only [nm3, seval]
    apply VE.cons
    · exact ev_store rfl (gn rfl) rfl rfl rfl Tryd.sizeOf29 rfl (by simp) rfl
    simp only [nm3, seval]
    exact VE.nil _
  · kernel_rfl
  change VOk _ _ _ _ _
  refine vseq ?_
  apply vrp
  · apply VE.cons
    · exact ev_build rfl (gn rfl) rfl built29_0
    simp only [nm3, seval]
    apply VE.cons
    · exact ev_alloc rfl rfl (gn rfl) Tryd.zeroValue29
    simp only [nm3, seval]
    apply VE.cons
    · exact ev_store rfl (gn rfl) rfl rfl rfl Tryd.sizeOf29 rfl (by simp) rfl
    simp only [nm3, seval]
    exact VE.nil _
  · kernel_rfl
  change VOk _ _ _ _ _
  refine vseq ?_
  refine vseq ?_
  apply vrp
  · apply VE.cons
    · first | exact ev_load rfl (gn rfl) rfl rfl Tryd.underlying29 rfl Tryd.sizeOf29 rfl rfl | exact ev_loadx rfl (gn rfl) rfl Tryd.underlying29 rfl Tryd.sizeOf29 (by assumption) rfl
    simp only [nm3, seval]
    apply VE.cons
    · first | exact ev_load rfl (gn rfl) rfl rfl Tryd.underlying29 rfl Tryd.sizeOf29 rfl rfl | exact ev_loadx rfl (gn rfl) rfl Tryd.underlying29 rfl Tryd.sizeOf29 (by assumption) rfl
    simp only [nm3, seval]
    apply VE.cons
    · exact ev_bin (c := .bool true) rfl (gn rfl) rfl rfl (fun w => z29_t a _ _ w)
    simp only [nm3, seval]
    apply VE.cons
    · exact ev_move rfl (gn rfl)
    simp only [nm3, seval]
    apply VE.cons
    · first | exact Ev.skip (fun _ => rfl) | exact ev_load rfl (fun _ => rfl) rfl rfl Tryd.underlying29 rfl Tryd.sizeOf29 rfl rfl | exact ev_loadx rfl (fun _ => rfl) rfl Tryd.underlying29 rfl Tryd.sizeOf29 (by assumption) rfl
    simp only [nm3, seval]
    apply VE.cons
    · first | exact Ev.skip (fun _ => rfl) | exact ev_load rfl (fun _ => rfl) rfl rfl Tryd.underlying29 rfl Tryd.sizeOf29 rfl rfl | exact ev_loadx rfl (fun _ => rfl) rfl Tryd.underlying29 rfl Tryd.sizeOf29 (by assumption) rfl
    simp only [nm3, seval]
    apply VE.cons
    · first | exact Ev.skip (fun _ => rfl) | exact ev_bin (c := .bool false) rfl (fun _ => rfl) rfl rfl (fun w => z29_f b _ _ w)
    simp only [nm3, seval]
    apply VE.cons
    · first | exact ev_pick_t rfl (gn rfl) rfl rfl | exact ev_pick_f rfl (gn rfl) rfl rfl
    simp only [nm3, seval]
    exact VE.nil _
  · kernel_rfl
  change VOk _ _ _ _ _
  refine vcond_f rfl ?_
  refine vskip ?_
  change VOk _ _ _ _ _
  refine vseq ?_
  refine vseq ?_
  apply vrp
  · apply VE.cons
    · first | exact ev_load rfl (gn rfl) rfl rfl Tryd.underlying29 rfl Tryd.sizeOf29 rfl rfl | exact ev_loadx rfl (gn rfl) rfl Tryd.underlying29 rfl Tryd.sizeOf29 (by assumption) rfl
    simp only [nm3, seval]
    apply VE.cons
    · first | exact ev_load rfl (gn rfl) rfl rfl Tryd.underlying29 rfl Tryd.sizeOf29 rfl rfl | exact ev_loadx rfl (gn rfl) rfl Tryd.underlying29 rfl Tryd.sizeOf29 (by assumption) rfl
    simp only [nm3, seval]
    apply VE.cons
    · exact ev_bin (c := .bool true) rfl (gn rfl) rfl rfl (fun w => z29_t c _ _ w)
    simp only [nm3, seval]
    apply VE.cons
    · exact ev_move rfl (gn rfl)
    simp only [nm3, seval]
    apply VE.cons
    · first | exact Ev.skip (fun _ => rfl) | exact ev_load rfl (fun _ => rfl) rfl rfl Tryd.underlying29 rfl Tryd.sizeOf29 rfl rfl | exact ev_loadx rfl (fun _ => rfl) rfl Tryd.underlying29 rfl Tryd.sizeOf29 (by assumption) rfl
    simp only [nm3, seval]
    apply VE.cons
    · first | exact Ev.skip (fun _ => rfl) | exact ev_load rfl (fun _ => rfl) rfl rfl Tryd.underlying29 rfl Tryd.sizeOf29 rfl rfl | exact ev_loadx rfl (fun _ => rfl) rfl Tryd.underlying29 rfl Tryd.sizeOf29 (by assumption) rfl
    simp only [nm3, seval]
    apply VE.cons
    · first | exact Ev.skip (fun _ => rfl) | exact ev_bin (c := .bool false) rfl (fun _ => rfl) rfl rfl (fun w => z29_f d _ _ w)
    simp only [nm3, seval]
    apply VE.cons
    · first | exact ev_pick_t rfl (gn rfl) rfl rfl | exact ev_pick_f rfl (gn rfl) rfl rfl
    simp only [nm3, seval]
    exact VE.nil _
  · kernel_rfl
  change VOk _ _ _ _ _
  refine vcond_f rfl ?_
  refine vskip ?_
  change VOk _ _ _ _ _
  refine vseq ?_
  apply vrd (by kernel_rfl)
  · apply VE.cons
    · first | exact ev_load rfl (gn rfl) rfl rfl Tryd.underlying29 rfl Tryd.sizeOf29 rfl rfl | exact ev_loadx rfl (gn rfl) rfl Tryd.underlying29 rfl Tryd.sizeOf29 (by assumption) rfl
    simp only [nm3, seval]
    apply VE.cons
    · first | exact ev_load rfl (gn rfl) rfl rfl Tryd.underlying29 rfl Tryd.sizeOf29 rfl rfl | exact ev_loadx rfl (gn rfl) rfl Tryd.underlying29 rfl Tryd.sizeOf29 (by assumption) rfl
    simp only [nm3, seval]
    apply VE.cons
    · first | exact ev_load rfl (gn rfl) rfl rfl Tryd.underlying29 rfl Tryd.sizeOf29 rfl rfl | exact ev_loadx rfl (gn rfl) rfl Tryd.underlying29 rfl Tryd.sizeOf29 (by assumption) rfl
    simp only [nm3, seval]
    apply VE.cons
    · exact ev_call rfl (gn rfl) rfl (en_of Tryd.func23 (by kernel_rfl) rfl) (fun w' hw' => rsubF _ _ w')
    simp only [nm3, seval]
    apply VE.cons
    · first | exact ev_load rfl (gn rfl) rfl rfl Tryd.underlying29 rfl Tryd.sizeOf29 rfl rfl | exact ev_loadx rfl (gn rfl) rfl Tryd.underlying29 rfl Tryd.sizeOf29 (by assumption) rfl
    simp only [nm3, seval]
    apply VE.cons
    · first | exact ev_load rfl (gn rfl) rfl rfl Tryd.underlying29 rfl Tryd.sizeOf29 rfl rfl | exact ev_loadx rfl (gn rfl) rfl Tryd.underlying29 rfl Tryd.sizeOf29 (by assumption) rfl
    simp only [nm3, seval]
    apply VE.cons
    · first | exact ev_load rfl (gn rfl) rfl rfl Tryd.underlying29 rfl Tryd.sizeOf29 rfl rfl | exact ev_loadx rfl (gn rfl) rfl Tryd.underlying29 rfl Tryd.sizeOf29 (by assumption) rfl
    simp only [nm3, seval]
    apply VE.cons
    · exact ev_call rfl (gn rfl) rfl (en_of Tryd.func23 (by kernel_rfl) rfl) (fun w' hw' => rsubF _ _ w')
    simp only [nm3, seval]
    apply VE.cons
    · exact ev_alloc rfl rfl (gn rfl) Tryd.zeroValue29
    simp only [nm3, seval]
    apply VE.cons
    · exact ev_alloc rfl rfl (gn rfl) Tryd.zeroValue29
    simp only [nm3, seval]
    apply VE.cons
    · exact ev_store rfl (gn rfl) rfl rfl rfl Tryd.sizeOf29 rfl (by simp) rfl
    simp only [nm3, seval]
    apply VE.cons
    · exact ev_store rfl (gn rfl) rfl rfl rfl Tryd.sizeOf29 rfl (by simp) rfl
    simp only [nm3, seval]
    exact VE.nil _
  · kernel_rfl
  change VOk _ _ _ _ _
  refine vseq ?_
  refine vseq ?_
  apply vrp
  · apply VE.cons
    · first | exact ev_load rfl (gn rfl) rfl rfl Tryd.underlying29 rfl Tryd.sizeOf29 rfl rfl | exact ev_loadx rfl (gn rfl) rfl Tryd.underlying29 rfl Tryd.sizeOf29 (by assumption) rfl
    simp only [nm3, seval]
    apply VE.cons
    · first | exact ev_load rfl (gn rfl) rfl rfl Tryd.underlying29 rfl Tryd.sizeOf29 rfl rfl | exact ev_loadx rfl (gn rfl) rfl Tryd.underlying29 rfl Tryd.sizeOf29 (by assumption) rfl
    simp only [nm3, seval]
    apply VE.cons
    · exact ev_bin (c := .bool true) rfl (gn rfl) rfl rfl (fun w => e29_t hx _ _ w)
    simp only [nm3, seval]
    exact VE.nil _
  · kernel_rfl
  change VOk _ _ _ _ _
  refine vcond_t rfl ?_
  refine vseq ?_
  refine vseq ?_
  apply vrd (by kernel_rfl)
  · apply VE.cons
    · first | exact ev_load rfl (gn rfl) rfl rfl Tryd.underlying29 rfl Tryd.sizeOf29 rfl rfl | exact ev_loadx rfl (gn rfl) rfl Tryd.underlying29 rfl Tryd.sizeOf29 (by assumption) rfl
    simp only [nm3, seval]
    apply VE.cons
    · first | exact ev_load rfl (gn rfl) rfl rfl Tryd.underlying29 rfl Tryd.sizeOf29 rfl rfl | exact ev_loadx rfl (gn rfl) rfl Tryd.underlying29 rfl Tryd.sizeOf29 (by assumption) rfl
    simp only [nm3, seval]
    apply VE.cons
    · first | exact ev_load rfl (gn rfl) rfl rfl Tryd.underlying29 rfl Tryd.sizeOf29 rfl rfl | exact ev_loadx rfl (gn rfl) rfl Tryd.underlying29 rfl Tryd.sizeOf29 (by assumption) rfl
    simp only [nm3, seval]
    apply VE.cons
    · exact ev_call rfl (gn rfl) rfl (en_of Tryd.func26 (by kernel_rfl) rfl) (fun w' hw' => raddF _ _ w')
    simp only [nm3, seval]
    apply VE.cons
    · first | exact ev_load rfl (gn rfl) rfl rfl Tryd.underlying29 rfl Tryd.sizeOf29 rfl rfl | exact ev_loadx rfl (gn rfl) rfl Tryd.underlying29 rfl Tryd.sizeOf29 (by assumption) rfl
    simp only [nm3, seval]
    apply VE.cons
    · exact ev_bin (c := .bool true) rfl (gn rfl) rfl rfl (fun w => z29_t hs _ _ w)
    simp only [nm3, seval]
    exact VE.nil _
  · kernel_rfl
  change VOk _ _ _ _ _
  refine vcond_t rfl ?_
  refine vseq ?_
  apply vrd (by kernel_rfl)
  · apply VE.cons
    · first | exact ev_load rfl (gn rfl) rfl rfl Tryd.underlying29 rfl Tryd.sizeOf29 rfl rfl | exact ev_loadx rfl (gn rfl) rfl Tryd.underlying29 rfl Tryd.sizeOf29 (by assumption) rfl
    simp only [nm3, seval]
    apply VE.cons
    · first | exact ev_load rfl (gn rfl) rfl rfl Tryd.underlying29 rfl Tryd.sizeOf29 rfl rfl | exact ev_loadx rfl (gn rfl) rfl Tryd.underlying29 rfl Tryd.sizeOf29 (by assumption) rfl
    simp only [nm3, seval]
    apply VE.cons
    · exact ev_store rfl (gn rfl) rfl rfl rfl Tryd.sizeOf29 rfl (by simp) rfl
    simp only [nm3, seval]
    apply VE.cons
    · exact ev_store rfl (gn rfl) rfl rfl rfl Tryd.sizeOf29 rfl (by simp) rfl
    simp only [nm3, seval]
    exact VE.nil _
  · kernel_rfl
  change VOk _ _ _ _ _
  refine vret ?_
  refine post_ret (res2 Tryd.results25 (rv_cell rfl rfl Tryd.underlying29 rfl Tryd.sizeOf29 rfl rfl) (rv_cell rfl rfl Tryd.underlying29 rfl Tryd.sizeOf29 rfl rfl)) ?_
  intro w' hg
  exact ⟨rfl, hg⟩
theorem radd_tan_yy (x1 y1 x2 y2 i s v86 v89 x3 v98 v100 y3 v62 v65 v67 v71 : F) (w : World) (a : x1 = 0) (b : y1 ≠ 0) (c : x2 = 0) (d : y2 ≠ 0) (hx : x1 = x2) (hs : y1 + y2 ≠ 0) (e62 : x1 * x1 = v62) (e65 : v62 - 1 = v65) (e67 : 3 * v65 = v67) (e71 : y1 + y1 = v71) (hi : v71 * i = 1) (e82 : v67 * i = s) (e86 : s * s = v86) (e89 : v86 - x1 = v89) (e92 : v89 - x2 = x3) (e98 : x1 - x3 = v98) (e100 : s * v98 = v100) (e103 : v100 - y1 = y3) : Calls Tryd.prog 25 #[NF x1, NF y1, NF x2, NF y2] w fun e w' => e = .returned (.tuple #[NF x3, NF y3]) ∧ Gw w w' := by
  go_enter Tryd.func25, Tryd.ntmps25
  refine ve_go ?_
  simp only [List.map_cons, List.map_nil]
  refine vseq ?_
  apply vrp
  · apply VE.cons
    · exact ev_box rfl rfl (gn rfl) rfl
    simp only [nm3, seval]
    apply VE.cons
    · exact ev_box rfl rfl (gn rfl) rfl
    simp only [nm3, seval]
    apply VE.cons
    · exact ev_box rfl rfl (gn rfl) rfl
    simp only [nm3, seval]
    apply VE.cons
    · exact ev_box rfl rfl (gn rfl) rfl
    simp only [nm3, seval]
    apply VE.cons
    · exact ev_alloc rfl rfl (gn rfl) Tryd.zeroValue29
    simp only [nm3, seval]
    apply VE.cons
    · exact ev_alloc rfl rfl (gn rfl) Tryd.zeroValue29
    simp only [nm3, seval]
    exact VE.nil _
  · kernel_rfl
  change VOk _ _ _ _ _
  refine vseq ?_
  apply vrp
  · apply VE.cons
    · exact ev_call rfl (gn rfl) rfl (en_of Tryd.func28 (by kernel_rfl) rfl) (fun w' hw' => c_P w')
    simp only [nm3, seval]
    apply VE.cons
    · exact ev_alloc rfl rfl (gn rfl) Tryd.zeroValue29
    simp only [nm3, seval]
    apply VE.cons
    · exact ev_store rfl (gn rfl) rfl rfl rfl Tryd.sizeOf29 rfl (by simp) rfl
    simp only [nm3, seval]
    exact VE.nil _
  · kernel_rfl
  change VOk _ _ _ _ _
  refine vseq ?_
  apply vrp
  · apply VE.cons
    · exact ev_build rfl (gn rfl) rfl built29_0
    simp only [nm3, seval]
    apply VE.cons
    · exact ev_alloc rfl rfl (gn rfl) Tryd.zeroValue29
    simp only [nm3, seval]
    apply VE.cons
    · exact ev_store rfl (gn rfl) rfl rfl rfl Tryd.sizeOf29 rfl (by simp) rfl
    simp only [nm3, seval]
    exact VE.nil _
  · kernel_rfl
  change VOk _ _ _ _ _
  refine vseq ?_
  refine vseq ?_
  apply vrp
  · apply VE.cons
    · first | exact ev_load rfl (gn rfl) rfl rfl Tryd.underlying29 rfl Tryd.sizeOf29 rfl rfl | exact ev_loadx rfl (gn rfl) rfl Tryd.underlying29 rfl Tryd.sizeOf29 (by assumption) rfl
    simp only [nm3, seval]
    apply VE.cons
    · first | exact ev_load rfl (gn rfl) rfl rfl Tryd.underlying29 rfl Tryd.sizeOf29 rfl rfl | exact ev_loadx rfl (gn rfl) rfl Tryd.underlying29 rfl Tryd.sizeOf29 (by assumption) rfl
    simp only [nm3, seval]
    apply VE.cons
    · exact ev_bin (c := .bool true) rfl (gn rfl) rfl rfl (fun w => z29_t a _ _ w)
    simp only [nm3, seval]
    apply VE.cons
    · exact ev_move rfl (gn rfl)
    simp only [nm3, seval]
    apply VE.cons
    · first | exact Ev.skip (fun _ => rfl) | exact ev_load rfl (fun _ => rfl) rfl rfl Tryd.underlying29 rfl Tryd.sizeOf29 rfl rfl | exact ev_loadx rfl (fun _ => rfl) rfl Tryd.underlying29 rfl Tryd.sizeOf29 (by assumption) rfl
    simp only [nm3, seval]
    apply VE.cons
    · first | exact Ev.skip (fun _ => rfl) | exact ev_load rfl (fun _ => rfl) rfl rfl Tryd.underlying29 rfl Tryd.sizeOf29 rfl rfl | exact ev_loadx rfl (fun _ => rfl) rfl Tryd.underlying29 rfl Tryd.sizeOf29 (by assumption) rfl
    simp only [nm3, seval]
    apply VE.cons
    · first | exact Ev.skip (fun _ => rfl) | exact ev_bin (c := .bool false) rfl (fun _ => rfl) rfl rfl (fun w => z29_f b _ _ w)
    simp only [nm3, seval]
    apply VE.cons
    · first | exact ev_pick_t rfl (gn rfl) rfl rfl | exact ev_pick_f rfl (gn rfl) rfl rfl
    simp only [nm3, seval]
    exact VE.nil _
  · kernel_rfl
  change VOk _ _ _ _ _
  refine vcond_f rfl ?_
  refine vskip ?_
  change VOk _ _ _ _ _
  refine vseq ?_
  refine vseq ?_
  apply vrp
  · apply VE.cons
    · first | exact ev_load rfl (gn rfl) rfl rfl Tryd.underlying29 rfl Tryd.sizeOf29 rfl rfl | exact ev_loadx rfl (gn rfl) rfl Tryd.underlying29 rfl Tryd.sizeOf29 (by assumption) rfl
    simp only [nm3, seval]
    apply VE.cons
    · first | exact ev_load rfl (gn rfl) rfl rfl Tryd.underlying29 rfl Tryd.sizeOf29 rfl rfl | exact ev_loadx rfl (gn rfl) rfl Tryd.underlying29 rfl Tryd.sizeOf29 (by assumption) rfl
    simp only [nm3, seval]
    apply VE.cons
    · exact ev_bin (c := .bool true) rfl (gn rfl) rfl rfl (fun w => z29_t c _ _ w)
    simp only [nm3, seval]
    apply VE.cons
    · exact ev_move rfl (gn rfl)
    simp only [nm3, seval]
    apply VE.cons
    · first | exact Ev.skip (fun _ => rfl) | exact ev_load rfl (fun _ => rfl) rfl rfl Tryd.underlying29 rfl Tryd.sizeOf29 rfl rfl | exact ev_loadx rfl (fun _ => rfl) rfl Tryd.underlying29 rfl Tryd.sizeOf29 (by assumption) rfl
    simp only [nm3, seval]
    apply VE.cons
    · first | exact Ev.skip (fun _ => rfl) | exact ev_load rfl (fun _ => rfl) rfl rfl Tryd.underlying29 rfl Tryd.sizeOf29 rfl rfl | exact ev_loadx rfl (fun _ => rfl) rfl Tryd.underlying29 rfl Tryd.sizeOf29 (by assumption) rfl
    simp only [nm3, seval]
    apply VE.cons
    · first | exact Ev.skip (fun _ => rfl) | exact ev_bin (c := .bool false) rfl (fun _ => rfl) rfl rfl (fun w => z29_f d _ _ w)
    simp only [nm3, seval]
    apply VE.cons
    · first | exact ev_pick_t rfl (gn rfl) rfl rfl | exact ev_pick_f rfl (gn rfl) rfl rfl
    simp only [nm3, seval]
    exact VE.nil _
  · kernel_rfl
  change VOk _ _ _ _ _
  refine vcond_f rfl ?_
  refine vskip ?_
  change VOk _ _ _ _ _
  refine vseq ?_
  apply vrd (by kernel_rfl)
  · apply VE.cons
    · first | exact ev_load rfl (gn rfl) rfl rfl Tryd.underlying29 rfl Tryd.sizeOf29 rfl rfl | exact ev_loadx rfl (gn rfl) rfl Tryd.underlying29 rfl Tryd.sizeOf29 (by assumption) rfl
    simp only [nm3, seval]
    apply VE.cons
    · first | exact ev_load rfl (gn rfl) rfl rfl Tryd.underlying29 rfl Tryd.sizeOf29 rfl rfl | exact ev_loadx rfl (gn rfl) rfl Tryd.underlying29 rfl Tryd.sizeOf29 (by assumption) rfl
    simp only [nm3, seval]
    apply VE.cons
    · first | exact ev_load rfl (gn rfl) rfl rfl Tryd.underlying29 rfl Tryd.sizeOf29 rfl rfl | exact ev_loadx rfl (gn rfl) rfl Tryd.underlying29 rfl Tryd.sizeOf29 (by assumption) rfl
    simp only [nm3, seval]
    apply VE.cons
    · exact ev_call rfl (gn rfl) rfl (en_of Tryd.func23 (by kernel_rfl) rfl) (fun w' hw' => rsubF _ _ w')
    simp only [nm3, seval]
    apply VE.cons
    · first | exact ev_load rfl (gn rfl) rfl rfl Tryd.underlying29 rfl Tryd.sizeOf29 rfl rfl | exact ev_loadx rfl (gn rfl) rfl Tryd.underlying29 rfl Tryd.sizeOf29 (by assumption) rfl
    simp only [nm3, seval]
    apply VE.cons
    · first | exact ev_load rfl (gn rfl) rfl rfl Tryd.underlying29 rfl Tryd.sizeOf29 rfl rfl | exact ev_loadx rfl (gn rfl) rfl Tryd.underlying29 rfl Tryd.sizeOf29 (by assumption) rfl
    simp only [nm3, seval]
    apply VE.cons
    · first | exact ev_load rfl (gn rfl) rfl rfl Tryd.underlying29 rfl Tryd.sizeOf29 rfl rfl | exact ev_loadx rfl (gn rfl) rfl Tryd.underlying29 rfl Tryd.sizeOf29 (by assumption) rfl
    simp only [nm3, seval]
    apply VE.cons
    · exact ev_call rfl (gn rfl) rfl (en_of Tryd.func23 (by kernel_rfl) rfl) (fun w' hw' => rsubF _ _ w')
    simp only [nm3, seval]
    apply VE.cons
    · exact ev_alloc rfl rfl (gn rfl) Tryd.zeroValue29
    simp only [nm3, seval]
    apply VE.cons
    · exact ev_alloc rfl rfl (gn rfl) Tryd.zeroValue29
    simp only [nm3, seval]
    apply VE.cons
    · exact ev_store rfl (gn rfl) rfl rfl rfl Tryd.sizeOf29 rfl (by simp) rfl
    simp only [nm3, seval]
    apply VE.cons
    · exact ev_store rfl (gn rfl) rfl rfl rfl Tryd.sizeOf29 rfl (by simp) rfl
    simp only [nm3, seval]
    exact VE.nil _
  · kernel_rfl
  change VOk _ _ _ _ _
  refine vseq ?_
  refine vseq ?_
  apply vrp
  · apply VE.cons
    · first | exact ev_load rfl (gn rfl) rfl rfl Tryd.underlying29 rfl Tryd.sizeOf29 rfl rfl | exact ev_loadx rfl (gn rfl) rfl Tryd.underlying29 rfl Tryd.sizeOf29 (by assumption) rfl
    simp only [nm3, seval]
    apply VE.cons
    · first | exact ev_load rfl (gn rfl) rfl rfl Tryd.underlying29 rfl Tryd.sizeOf29 rfl rfl | exact ev_loadx rfl (gn rfl) rfl Tryd.underlying29 rfl Tryd.sizeOf29 (by assumption) rfl
    simp only [nm3, seval]
    apply VE.cons
    · exact ev_bin (c := .bool true) rfl (gn rfl) rfl rfl (fun w => e29_t hx _ _ w)
    simp only [nm3, seval]
    exact VE.nil _
  · kernel_rfl
  change VOk _ _ _ _ _
  refine vcond_t rfl ?_
  refine vseq ?_
  refine vseq ?_
  apply vrd (by kernel_rfl)
  · apply VE.cons
    · first | exact ev_load rfl (gn rfl) rfl rfl Tryd.underlying29 rfl Tryd.sizeOf29 rfl rfl | exact ev_loadx rfl (gn rfl) rfl Tryd.underlying29 rfl Tryd.sizeOf29 (by assumption) rfl
    simp only [nm3, seval]
    apply VE.cons
    · first | exact ev_load rfl (gn rfl) rfl rfl Tryd.underlying29 rfl Tryd.sizeOf29 rfl rfl | exact ev_loadx rfl (gn rfl) rfl Tryd.underlying29 rfl Tryd.sizeOf29 (by assumption) rfl
    simp only [nm3, seval]
    apply VE.cons
    · first | exact ev_load rfl (gn rfl) rfl rfl Tryd.underlying29 rfl Tryd.sizeOf29 rfl rfl | exact ev_loadx rfl (gn rfl) rfl Tryd.underlying29 rfl Tryd.sizeOf29 (by assumption) rfl
    simp only [nm3, seval]
    apply VE.cons
    · exact ev_call rfl (gn rfl) rfl (en_of Tryd.func26 (by kernel_rfl) rfl) (fun w' hw' => raddF _ _ w')
    simp only [nm3, seval]
    apply VE.cons
    · first | exact ev_load rfl (gn rfl) rfl rfl Tryd.underlying29 rfl Tryd.sizeOf29 rfl rfl | exact ev_loadx rfl (gn rfl) rfl Tryd.underlying29 rfl Tryd.sizeOf29 (by assumption) rfl
    simp only [nm3, seval]
    apply VE.cons
    · exact ev_bin (c := .bool false) rfl (gn rfl) rfl rfl (fun w => z29_f hs _ _ w)
    simp only [nm3, seval]
    exact VE.nil _
  · kernel_rfl
  change VOk _ _ _ _ _
  refine vcond_f rfl ?_
  refine vskip ?_
  change VOk _ _ _ _ _
  refine vseq ?_
  apply vrd (by kernel_rfl)
  · apply VE.cons
    · exact ev_build rfl (gn rfl) rfl built29_three
    simp only [nm3, seval]
    apply VE.cons
    · first | exact ev_load rfl (gn rfl) rfl rfl Tryd.underlying29 rfl Tryd.sizeOf29 rfl rfl | exact ev_loadx rfl (gn rfl) rfl Tryd.underlying29 rfl Tryd.sizeOf29 (by assumption) rfl
    simp only [nm3, seval]
    apply VE.cons
    · first | exact ev_load rfl (gn rfl) rfl rfl Tryd.underlying29 rfl Tryd.sizeOf29 rfl rfl | exact ev_loadx rfl (gn rfl) rfl Tryd.underlying29 rfl Tryd.sizeOf29 (by assumption) rfl
    simp only [nm3, seval]
    apply VE.cons
    · first | exact ev_load rfl (gn rfl) rfl rfl Tryd.underlying29 rfl Tryd.sizeOf29 rfl rfl | exact ev_loadx rfl (gn rfl) rfl Tryd.underlying29 rfl Tryd.sizeOf29 (by assumption) rfl
    simp only [nm3, seval]
    apply VE.cons
    · exact ev_call rfl (gn rfl) rfl (en_of Tryd.func38 (by kernel_rfl) rfl) (fun w' hw' => rmulE e62 w')
    simp only [nm3, seval]
    apply VE.cons
    · exact ev_build rfl (gn rfl) rfl built29_one
    simp only [nm3, seval]
    apply VE.cons
    · first | exact ev_load rfl (gn rfl) rfl rfl Tryd.underlying29 rfl Tryd.sizeOf29 rfl rfl | exact ev_loadx rfl (gn rfl) rfl Tryd.underlying29 rfl Tryd.sizeOf29 (by assumption) rfl
    simp only [nm3, seval]
    apply VE.cons
    · exact ev_call rfl (gn rfl) rfl (en_of Tryd.func23 (by kernel_rfl) rfl) (fun w' hw' => rsubE1 e65 w')
    simp only [nm3, seval]
    apply VE.cons
    · first | exact ev_load rfl (gn rfl) rfl rfl Tryd.underlying29 rfl Tryd.sizeOf29 rfl rfl | exact ev_loadx rfl (gn rfl) rfl Tryd.underlying29 rfl Tryd.sizeOf29 (by assumption) rfl
    simp only [nm3, seval]
    apply VE.cons
    · exact ev_call rfl (gn rfl) rfl (en_of Tryd.func38 (by kernel_rfl) rfl) (fun w' hw' => rmulE3 e67 w')
    simp only [nm3, seval]
    apply VE.cons
    · exact ev_store rfl (gn rfl) rfl rfl rfl Tryd.sizeOf29 rfl (by simp) rfl
    simp only [nm3, seval]
    exact VE.nil _
  · kernel_rfl
  change VOk _ _ _ _ _
  apply vrp
  · apply VE.cons
    · first | exact ev_load rfl (gn rfl) rfl rfl Tryd.underlying29 rfl Tryd.sizeOf29 rfl rfl | exact ev_loadx rfl (gn rfl) rfl Tryd.underlying29 rfl Tryd.sizeOf29 (by assumption) rfl
    simp only [nm3, seval]
    apply VE.cons
    · first | exact ev_load rfl (gn rfl) rfl rfl Tryd.underlying29 rfl Tryd.sizeOf29 rfl rfl | exact ev_loadx rfl (gn rfl) rfl Tryd.underlying29 rfl Tryd.sizeOf29 (by assumption) rfl
    simp only [nm3, seval]
    apply VE.cons
    · first | exact ev_load rfl (gn rfl) rfl rfl Tryd.underlying29 rfl Tryd.sizeOf29 rfl rfl | exact ev_loadx rfl (gn rfl) rfl Tryd.underlying29 rfl Tryd.sizeOf29 (by assumption) rfl
    simp only [nm3, seval]
    apply VE.cons
    · exact ev_call rfl (gn rfl) rfl (en_of Tryd.func26 (by kernel_rfl) rfl) (fun w' hw' => raddE e71 w')
    simp only [nm3, seval]
    apply VE.cons
    · exact ev_store rfl (gn rfl) rfl rfl rfl Tryd.sizeOf29 rfl (by simp) rfl
    simp only [nm3, seval]
    exact VE.nil _
  · kernel_rfl
  change VOk _ _ _ _ _
  refine vseq ?_
  apply vrp
  · apply VE.cons
    · first | exact ev_load rfl (gn rfl) rfl rfl Tryd.underlying29 rfl Tryd.sizeOf29 rfl rfl | exact ev_loadx rfl (gn rfl) rfl Tryd.underlying29 rfl Tryd.sizeOf29 (by assumption) rfl
    simp only [nm3, seval]
    apply VE.cons
    · exact ev_build rfl (gn rfl) rfl built29_two
    simp only [nm3, seval]
    apply VE.cons
    · first | exact ev_load rfl (gn rfl) rfl rfl Tryd.underlying29 rfl Tryd.sizeOf29 rfl rfl | exact ev_loadx rfl (gn rfl) rfl Tryd.underlying29 rfl Tryd.sizeOf29 (by assumption) rfl
    simp only [nm3, seval]
    apply VE.cons
    · exact ev_call rfl (gn rfl) rfl (en_of Tryd.func23 (by kernel_rfl) rfl) (fun w' hw' => rsub2 w')
    simp only [nm3, seval]
    apply VE.cons
    · exact ev_alloc rfl rfl (gn rfl) Tryd.zeroValue29
    simp only [nm3, seval]
    apply VE.cons
    · exact ev_store rfl (gn rfl) rfl rfl rfl Tryd.sizeOf29 rfl (by simp) rfl
    simp only [nm3, seval]
    exact VE.nil _
  · kernel_rfl
  change VOk _ _ _ _ _
  refine vseq ?_
  apply vrd (by kernel_rfl)
  · apply VE.cons
    · first | exact ev_load rfl (gn rfl) rfl rfl Tryd.underlying29 rfl Tryd.sizeOf29 rfl rfl | exact ev_loadx rfl (gn rfl) rfl Tryd.underlying29 rfl Tryd.sizeOf29 (by assumption) rfl
    simp only [nm3, seval]
    apply VE.cons
    · first | exact ev_load rfl (gn rfl) rfl rfl Tryd.underlying29 rfl Tryd.sizeOf29 rfl rfl | exact ev_loadx rfl (gn rfl) rfl Tryd.underlying29 rfl Tryd.sizeOf29 (by assumption) rfl
    simp only [nm3, seval]
    apply VE.cons
    · first | exact ev_load rfl (gn rfl) rfl rfl Tryd.underlying29 rfl Tryd.sizeOf29 rfl rfl | exact ev_loadx rfl (gn rfl) rfl Tryd.underlying29 rfl Tryd.sizeOf29 (by assumption) rfl
    simp only [nm3, seval]
    apply VE.cons
    · first | exact ev_load rfl (gn rfl) rfl rfl Tryd.underlying29 rfl Tryd.sizeOf29 rfl rfl | exact ev_loadx rfl (gn rfl) rfl Tryd.underlying29 rfl Tryd.sizeOf29 (by assumption) rfl
    simp only [nm3, seval]
    apply VE.cons
    · exact ev_call rfl (gn rfl) rfl (en_of Tryd.func48 (by kernel_rfl) rfl) (fun w' hw' => rpowF hi w')
    simp only [nm3, seval]
    apply VE.cons
    · first | exact ev_load rfl (gn rfl) rfl rfl Tryd.underlying29 rfl Tryd.sizeOf29 rfl rfl | exact ev_loadx rfl (gn rfl) rfl Tryd.underlying29 rfl Tryd.sizeOf29 (by assumption) rfl
    simp only [nm3, seval]
    apply VE.cons
    · exact ev_call rfl (gn rfl) rfl (en_of Tryd.func38 (by kernel_rfl) rfl) (fun w' hw' => rmulE e82 w')
    simp only [nm3, seval]
    apply VE.cons
    · exact ev_alloc rfl rfl (gn rfl) Tryd.zeroValue29
    simp only [nm3, seval]
    apply VE.cons
    · exact ev_store rfl (gn rfl) rfl rfl rfl Tryd.sizeOf29 rfl (by simp) rfl
    simp only [nm3, seval]
    exact VE.nil _
  · kernel_rfl
  change VOk _ _ _ _ _
  refine vseq ?_
  apply vrd (by kernel_rfl)
  · apply VE.cons
    · first | exact ev_load rfl (gn rfl) rfl rfl Tryd.underlying29 rfl Tryd.sizeOf29 rfl rfl | exact ev_loadx rfl (gn rfl) rfl Tryd.underlying29 rfl Tryd.sizeOf29 (by assumption) rfl
    simp only [nm3, seval]
    apply VE.cons
    · first | exact ev_load rfl (gn rfl) rfl rfl Tryd.underlying29 rfl Tryd.sizeOf29 rfl rfl | exact ev_loadx rfl (gn rfl) rfl Tryd.underlying29 rfl Tryd.sizeOf29 (by assumption) rfl
    simp only [nm3, seval]
    apply VE.cons
    · first | exact ev_load rfl (gn rfl) rfl rfl Tryd.underlying29 rfl Tryd.sizeOf29 rfl rfl | exact ev_loadx rfl (gn rfl) rfl Tryd.underlying29 rfl Tryd.sizeOf29 (by assumption) rfl
    simp only [nm3, seval]
    apply VE.cons
    · exact ev_call rfl (gn rfl) rfl (en_of Tryd.func38 (by kernel_rfl) rfl) (fun w' hw' => rmulE e86 w')
    simp only [nm3, seval]
    apply VE.cons
    · first | exact ev_load rfl (gn rfl) rfl rfl Tryd.underlying29 rfl Tryd.sizeOf29 rfl rfl | exact ev_loadx rfl (gn rfl) rfl Tryd.underlying29 rfl Tryd.sizeOf29 (by assumption) rfl
    simp only [nm3, seval]
    apply VE.cons
    · first | exact ev_load rfl (gn rfl) rfl rfl Tryd.underlying29 rfl Tryd.sizeOf29 rfl rfl | exact ev_loadx rfl (gn rfl) rfl Tryd.underlying29 rfl Tryd.sizeOf29 (by assumption) rfl
    simp only [nm3, seval]
    apply VE.cons
    · exact ev_call rfl (gn rfl) rfl (en_of Tryd.func23 (by kernel_rfl) rfl) (fun w' hw' => rsubE e89 w')
    simp only [nm3, seval]
    apply VE.cons
    · first | exact ev_load rfl (gn rfl) rfl rfl Tryd.underlying29 rfl Tryd.sizeOf29 rfl rfl | exact ev_loadx rfl (gn rfl) rfl Tryd.underlying29 rfl Tryd.sizeOf29 (by assumption) rfl
    simp only [nm3, seval]
    apply VE.cons
    · first | exact ev_load rfl (gn rfl) rfl rfl Tryd.underlying29 rfl Tryd.sizeOf29 rfl rfl | exact ev_loadx rfl (gn rfl) rfl Tryd.underlying29 rfl Tryd.sizeOf29 (by assumption) rfl
    simp only [nm3, seval]
    apply VE.cons
    · exact ev_call rfl (gn rfl) rfl (en_of Tryd.func23 (by kernel_rfl) rfl) (fun w' hw' => rsubE e92 w')
    simp only [nm3, seval]
    apply VE.cons
    · exact ev_alloc rfl rfl (gn rfl) Tryd.zeroValue29
    simp only [nm3, seval]
    apply VE.cons
    · exact ev_store rfl (gn rfl) rfl rfl rfl Tryd.sizeOf29 rfl (by simp) rfl
    simp only [nm3, seval]
    exact VE.nil _
  · kernel_rfl
  change VOk _ _ _ _ _
  refine vseq ?_
  apply vrd (by kernel_rfl)
  · apply VE.cons
    · first | exact ev_load rfl (gn rfl) rfl rfl Tryd.underlying29 rfl Tryd.sizeOf29 rfl rfl | exact ev_loadx rfl (gn rfl) rfl Tryd.underlying29 rfl Tryd.sizeOf29 (by assumption) rfl
    simp only [nm3, seval]
    apply VE.cons
    · first | exact ev_load rfl (gn rfl) rfl rfl Tryd.underlying29 rfl Tryd.sizeOf29 rfl rfl | exact ev_loadx rfl (gn rfl) rfl Tryd.underlying29 rfl Tryd.sizeOf29 (by assumption) rfl
    simp only [nm3, seval]
    apply VE.cons
    · first | exact ev_load rfl (gn rfl) rfl rfl Tryd.underlying29 rfl Tryd.sizeOf29 rfl rfl | exact ev_loadx rfl (gn rfl) rfl Tryd.underlying29 rfl Tryd.sizeOf29 (by assumption) rfl
    simp only [nm3, seval]
    apply VE.cons
    · first | exact ev_load rfl (gn rfl) rfl rfl Tryd.underlying29 rfl Tryd.sizeOf29 rfl rfl | exact ev_loadx rfl (gn rfl) rfl Tryd.underlying29 rfl Tryd.sizeOf29 (by assumption) rfl
    simp only [nm3, seval]
    apply VE.cons
    · first | exact ev_load rfl (gn rfl) rfl rfl Tryd.underlying29 rfl Tryd.sizeOf29 rfl rfl | exact ev_loadx rfl (gn rfl) rfl Tryd.underlying29 rfl Tryd.sizeOf29 (by assumption) rfl
    simp only [nm3, seval]
    apply VE.cons
    · exact ev_call rfl (gn rfl) rfl (en_of Tryd.func23 (by kernel_rfl) rfl) (fun w' hw' => rsubE e98 w')
    simp only [nm3, seval]
    apply VE.cons
    · first | exact ev_load rfl (gn rfl) rfl rfl Tryd.underlying29 rfl Tryd.sizeOf29 rfl rfl | exact ev_loadx rfl (gn rfl) rfl Tryd.underlying29 rfl Tryd.sizeOf29 (by assumption) rfl
    simp only [nm3, seval]
    apply VE.cons
    · exact ev_call rfl (gn rfl) rfl (en_of Tryd.func38 (by kernel_rfl) rfl) (fun w' hw' => rmulE e100 w')
    simp only [nm3, seval]
    apply VE.cons
    · first | exact ev_load rfl (gn rfl) rfl rfl Tryd.underlying29 rfl Tryd.sizeOf29 rfl rfl | exact ev_loadx rfl (gn rfl) rfl Tryd.underlying29 rfl Tryd.sizeOf29 (by assumption) rfl
    simp only [nm3, seval]
    apply VE.cons
    · first | exact ev_load rfl (gn rfl) rfl rfl Tryd.underlying29 rfl Tryd.sizeOf29 rfl rfl | exact ev_loadx rfl (gn rfl) rfl Tryd.underlying29 rfl Tryd.sizeOf29 (by assumption) rfl
    simp only [nm3, seval]
    apply VE.cons
    · exact ev_call rfl (gn rfl) rfl (en_of Tryd.func23 (by kernel_rfl) rfl) (fun w' hw' => rsubE e103 w')
    simp only [nm3, seval]
    apply VE.cons
    · exact ev_store rfl (gn rfl) rfl rfl rfl Tryd.sizeOf29 rfl (by simp) rfl
    simp only [nm3, seval]
    apply VE.cons
    · exact ev_store rfl (gn rfl) rfl rfl rfl Tryd.sizeOf29 rfl (by simp) rfl
    simp only [nm3, seval]
    exact VE.nil _
  · kernel_rfl
  change VOk _ _ _ _ _
  refine vret ?_
  refine post_ret (res2 Tryd.results25 (rv_cell rfl rfl Tryd.underlying29 rfl Tryd.sizeOf29 rfl rfl) (rv_cell rfl rfl Tryd.underlying29 rfl Tryd.sizeOf29 rfl rfl)) ?_
  intro w' hg
  exact ⟨rfl, hg⟩
end Go.Proofs.YtbnfanmolphliaaDoor
