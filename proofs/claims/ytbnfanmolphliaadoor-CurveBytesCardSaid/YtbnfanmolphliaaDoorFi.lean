import Derived.Test.YtbnfanmolphliaaDoorFh
import Derived.Test.YtbnfanmolphliaaDoorVp
namespace Go.Proofs.YtbnfanmolphliaaDoor
open Go.RowKit Go.Toll TollMont
open TollEc (F pp cb Jp Pt jdouble jadd smul add base nn neg)
set_option maxHeartbeats 4000000
set_option maxRecDepth 100000
def twoX : F := 56515219790691171413109057904011688695424810155802929973526481321309856242040
def twoY : F := 3377031843712258259223711451491452598088675519751548567112458094635497583569
theorem two_base : smul 2 base = .aff twoX twoY := by
  have e : (jdouble TollEc.bj).rep = smul 2 base := by
    rw [TollEc.jdouble_rep, TollEc.bj_rep]
    show add base base = add (add .inf base) base
    rw [TollEc.inf_add]
  have hz : (jdouble TollEc.bj).z * 56574125023949875979384902335110527424677819735484098786822054576870411640858 = 1 := by decide +kernel
  have hx : (jdouble TollEc.bj).x * ((56574125023949875979384902335110527424677819735484098786822054576870411640858 : F) * 56574125023949875979384902335110527424677819735484098786822054576870411640858) = twoX := by decide +kernel
  have hy : (jdouble TollEc.bj).y * ((56574125023949875979384902335110527424677819735484098786822054576870411640858 : F) * (56574125023949875979384902335110527424677819735484098786822054576870411640858 * 56574125023949875979384902335110527424677819735484098786822054576870411640858)) = twoY := by decide +kernel
  rw [← e, TollEc.rep_of hz, hx, hy]
theorem b0_two : byt (xv (.aff twoX twoY)) 0 = 124 := by decide +kernel
theorem b31_two : byt (xv (.aff twoX twoY)) 31 = 120 := by decide +kernel
theorem built22_0 : Tryd.prog.built 22 [] = some #[.int .u8 0, .int .u8 0, .int .u8 0, .int .u8 0, .int .u8 0, .int .u8 0, .int .u8 0, .int .u8 0, .int .u8 0, .int .u8 0, .int .u8 0, .int .u8 0, .int .u8 0, .int .u8 0, .int .u8 0, .int .u8 0, .int .u8 0, .int .u8 0, .int .u8 0, .int .u8 0, .int .u8 0, .int .u8 0, .int .u8 0, .int .u8 0, .int .u8 0, .int .u8 0, .int .u8 0, .int .u8 0, .int .u8 0, .int .u8 0, .int .u8 0, .int .u8 0] := by kernel_rfl
theorem built29_0 : Tryd.prog.built 29 [] = some #[.int .u64 0, .int .u64 0, .int .u64 0, .int .u64 0] := by kernel_rfl
theorem built29_one : Tryd.prog.built 29 [(0, .int .u64 1)] = some #[.int .u64 1, .int .u64 0, .int .u64 0, .int .u64 0] := by kernel_rfl
theorem built29_three : Tryd.prog.built 29 [(0, .int .u64 3)] = some #[.int .u64 3, .int .u64 0, .int .u64 0, .int .u64 0] := by kernel_rfl
theorem eqb_self {n : Nat} (hn : n < R) (p q : Operand) (w : World) : (do eqGuard .eql 22 p q (B32 n) (B32 n); binOp .eql 22 (B32 n) (B32 n) : Sem Value).run Tryd.prog w = .ok (.bool true) w := by
  have := eq_b32 hn hn p q w; rw [decide_eq_true rfl] at this; exact this
theorem eqb_zero {n : Nat} (hn : n < R) (p q : Operand) (w : World) : (do eqGuard .eql 22 p q (B32 n) (.agg #[.int .u8 0, .int .u8 0, .int .u8 0, .int .u8 0, .int .u8 0, .int .u8 0, .int .u8 0, .int .u8 0, .int .u8 0, .int .u8 0, .int .u8 0, .int .u8 0, .int .u8 0, .int .u8 0, .int .u8 0, .int .u8 0, .int .u8 0, .int .u8 0, .int .u8 0, .int .u8 0, .int .u8 0, .int .u8 0, .int .u8 0, .int .u8 0, .int .u8 0, .int .u8 0, .int .u8 0, .int .u8 0, .int .u8 0, .int .u8 0, .int .u8 0, .int .u8 0]); binOp .eql 22 (B32 n) (.agg #[.int .u8 0, .int .u8 0, .int .u8 0, .int .u8 0, .int .u8 0, .int .u8 0, .int .u8 0, .int .u8 0, .int .u8 0, .int .u8 0, .int .u8 0, .int .u8 0, .int .u8 0, .int .u8 0, .int .u8 0, .int .u8 0, .int .u8 0, .int .u8 0, .int .u8 0, .int .u8 0, .int .u8 0, .int .u8 0, .int .u8 0, .int .u8 0, .int .u8 0, .int .u8 0, .int .u8 0, .int .u8 0, .int .u8 0, .int .u8 0, .int .u8 0, .int .u8 0]) : Sem Value).run Tryd.prog w = .ok (.bool (decide (n = 0))) w := eq_b32 hn (by decide : 0 < R) p q w
theorem eqb_z {n : Nat} (hn : n < R) (h : n = 0) (p q : Operand) (w : World) : (do eqGuard .eql 22 p q (B32 n) (.agg #[.int .u8 0, .int .u8 0, .int .u8 0, .int .u8 0, .int .u8 0, .int .u8 0, .int .u8 0, .int .u8 0, .int .u8 0, .int .u8 0, .int .u8 0, .int .u8 0, .int .u8 0, .int .u8 0, .int .u8 0, .int .u8 0, .int .u8 0, .int .u8 0, .int .u8 0, .int .u8 0, .int .u8 0, .int .u8 0, .int .u8 0, .int .u8 0, .int .u8 0, .int .u8 0, .int .u8 0, .int .u8 0, .int .u8 0, .int .u8 0, .int .u8 0, .int .u8 0]); binOp .eql 22 (B32 n) (.agg #[.int .u8 0, .int .u8 0, .int .u8 0, .int .u8 0, .int .u8 0, .int .u8 0, .int .u8 0, .int .u8 0, .int .u8 0, .int .u8 0, .int .u8 0, .int .u8 0, .int .u8 0, .int .u8 0, .int .u8 0, .int .u8 0, .int .u8 0, .int .u8 0, .int .u8 0, .int .u8 0, .int .u8 0, .int .u8 0, .int .u8 0, .int .u8 0, .int .u8 0, .int .u8 0, .int .u8 0, .int .u8 0, .int .u8 0, .int .u8 0, .int .u8 0, .int .u8 0]) : Sem Value).run Tryd.prog w = .ok (.bool true) w := by
  have := eqb_zero hn p q w; rw [decide_eq_true h] at this; exact this
theorem eqb_nz {n : Nat} (hn : n < R) (h : n ≠ 0) (p q : Operand) (w : World) : (do eqGuard .eql 22 p q (B32 n) (.agg #[.int .u8 0, .int .u8 0, .int .u8 0, .int .u8 0, .int .u8 0, .int .u8 0, .int .u8 0, .int .u8 0, .int .u8 0, .int .u8 0, .int .u8 0, .int .u8 0, .int .u8 0, .int .u8 0, .int .u8 0, .int .u8 0, .int .u8 0, .int .u8 0, .int .u8 0, .int .u8 0, .int .u8 0, .int .u8 0, .int .u8 0, .int .u8 0, .int .u8 0, .int .u8 0, .int .u8 0, .int .u8 0, .int .u8 0, .int .u8 0, .int .u8 0, .int .u8 0]); binOp .eql 22 (B32 n) (.agg #[.int .u8 0, .int .u8 0, .int .u8 0, .int .u8 0, .int .u8 0, .int .u8 0, .int .u8 0, .int .u8 0, .int .u8 0, .int .u8 0, .int .u8 0, .int .u8 0, .int .u8 0, .int .u8 0, .int .u8 0, .int .u8 0, .int .u8 0, .int .u8 0, .int .u8 0, .int .u8 0, .int .u8 0, .int .u8 0, .int .u8 0, .int .u8 0, .int .u8 0, .int .u8 0, .int .u8 0, .int .u8 0, .int .u8 0, .int .u8 0, .int .u8 0, .int .u8 0]) : Sem Value).run Tryd.prog w = .ok (.bool false) w := by
  have := eqb_zero hn p q w; rw [decide_eq_false h] at this; exact this
theorem eq_bool (a : Bool) (p q : Operand) (w : World) : (do eqGuard .eql 4 p q (.bool a) (.bool a); binOp .eql 4 (.bool a) (.bool a) : Sem Value).run Tryd.prog w = .ok (.bool true) w := by
  have := b_eqb a a p q w; rw [beq_self_eq_true] at this; exact this
theorem rofN (n : Nat) (hn : n < R) (w : World) : Calls Tryd.prog 19 #[B32 n] w fun e w' => e = .returned (N n) ∧ Gw w w' := by
  have h := rof_ok (lw_lt (lim n 3) 56) (lw_lt (lim n 3) 48) (lw_lt (lim n 3) 40) (lw_lt (lim n 3) 32) (lw_lt (lim n 3) 24) (lw_lt (lim n 3) 16) (lw_lt (lim n 3) 8) (lw_lt (lim n 3) 0) (lw_lt (lim n 2) 56) (lw_lt (lim n 2) 48) (lw_lt (lim n 2) 40) (lw_lt (lim n 2) 32) (lw_lt (lim n 2) 24) (lw_lt (lim n 2) 16) (lw_lt (lim n 2) 8) (lw_lt (lim n 2) 0) (lw_lt (lim n 1) 56) (lw_lt (lim n 1) 48) (lw_lt (lim n 1) 40) (lw_lt (lim n 1) 32) (lw_lt (lim n 1) 24) (lw_lt (lim n 1) 16) (lw_lt (lim n 1) 8) (lw_lt (lim n 1) 0) (lw_lt (lim n 0) 56) (lw_lt (lim n 0) 48) (lw_lt (lim n 0) 40) (lw_lt (lim n 0) 32) (lw_lt (lim n 0) 24) (lw_lt (lim n 0) 16) (lw_lt (lim n 0) 8) (lw_lt (lim n 0) 0) w
  have e : num32 (lwF (shrF (lim n 3) 56)) (lwF (shrF (lim n 3) 48)) (lwF (shrF (lim n 3) 40)) (lwF (shrF (lim n 3) 32)) (lwF (shrF (lim n 3) 24)) (lwF (shrF (lim n 3) 16)) (lwF (shrF (lim n 3) 8)) (lwF (shrF (lim n 3) 0)) (lwF (shrF (lim n 2) 56)) (lwF (shrF (lim n 2) 48)) (lwF (shrF (lim n 2) 40)) (lwF (shrF (lim n 2) 32)) (lwF (shrF (lim n 2) 24)) (lwF (shrF (lim n 2) 16)) (lwF (shrF (lim n 2) 8)) (lwF (shrF (lim n 2) 0)) (lwF (shrF (lim n 1) 56)) (lwF (shrF (lim n 1) 48)) (lwF (shrF (lim n 1) 40)) (lwF (shrF (lim n 1) 32)) (lwF (shrF (lim n 1) 24)) (lwF (shrF (lim n 1) 16)) (lwF (shrF (lim n 1) 8)) (lwF (shrF (lim n 1) 0)) (lwF (shrF (lim n 0) 56)) (lwF (shrF (lim n 0) 48)) (lwF (shrF (lim n 0) 40)) (lwF (shrF (lim n 0) 32)) (lwF (shrF (lim n 0) 24)) (lwF (shrF (lim n 0) 16)) (lwF (shrF (lim n 0) 8)) (lwF (shrF (lim n 0) 0)) = n := by
    unfold num32
    rw [word8_of _ (lim_lt n 0), word8_of _ (lim_lt n 1), word8_of _ (lim_lt n 2), word8_of _ (lim_lt n 3), Nat.mul_zero, Nat.add_zero]
    exact (lim_sum4 hn).symm
  rw [e] at h
  exact h
theorem rmulF (x y : F) (w : World) : Calls Tryd.prog 38 #[NF x, NF y, N pp] w fun e w' => e = .returned (NF (x * y)) ∧ Gw w w' := rmul_ok mdp (val_lt x) (val_lt y) w
theorem raddF (x y : F) (w : World) : Calls Tryd.prog 26 #[NF x, NF y, N pp] w fun e w' => e = .returned (NF (x + y)) ∧ Gw w w' := rAdd_ok mdp (val_lt x) (val_lt y) w
theorem rsubF (x y : F) (w : World) : Calls Tryd.prog 23 #[NF x, NF y, N pp] w fun e w' => e = .returned (NF (x - y)) ∧ Gw w w' := by
  have := rSub_ok mdp (val_lt x) (val_lt y) w
  rw [← sub_val] at this; exact this
theorem rsubF3 (x : F) (w : World) : Calls Tryd.prog 23 #[NF x, .agg #[.int .u64 3, .int .u64 0, .int .u64 0, .int .u64 0], N pp] w fun e w' => e = .returned (NF (x - 3)) ∧ Gw w w' := by
  have := rsubF x 3 w; rw [NF_3] at this; exact this
theorem eqF29 (x y : F) (p q : Operand) (w : World) : (do eqGuard .eql 29 p q (NF x) (NF y); binOp .eql 29 (NF x) (NF y) : Sem Value).run Tryd.prog w = .ok (.bool (decide (x = y))) w := by
  have := eql_num 29 (.inr rfl) (lv x 0) (lv x 1) (lv x 2) (lv x 3) (lv y 0) (lv y 1) (lv y 2) (lv y 3) p q w
  have e : decide (lv x 0 = lv y 0 ∧ lv x 1 = lv y 1 ∧ lv x 2 = lv y 2 ∧ lv x 3 = lv y 3) = decide (x = y) := decide_eq_decide.2 ⟨fun ⟨a, b, c, d⟩ => Fin.ext (lim_inj (val_lt x) (val_lt y) a b c d), fun h => by rw [h]; exact ⟨rfl, rfl, rfl, rfl⟩⟩
  rw [e] at this
  exact this
theorem rl_t {n : Nat} (hn : n < R) (h : n < pp) (w : World) : Calls Tryd.prog 37 #[N n, N pp] w fun e w' => e = .returned (.bool true) ∧ Gw w w' := by
  have := rless_ok n pp hn (by decide) w; rw [decide_eq_true h] at this; exact this
theorem rl_f {n : Nat} (hn : n < R) (h : ¬ n < pp) (w : World) : Calls Tryd.prog 37 #[N n, N pp] w fun e w' => e = .returned (.bool false) ∧ Gw w w' := by
  have := rless_ok n pp hn (by decide) w; rw [decide_eq_false h] at this; exact this
theorem curves_ok (w : World) (hL : Laid w) : Calls Tryd.prog 11 #[] w fun e w' => e = .returned (.bool true) ∧ Gw w w' := by
  go_enter Tryd.func11, Tryd.ntmps11
  refine ve_go ?_
  simp only [List.map_cons, List.map_nil]
  refine vseq ?_
  apply vrp
  · apply VE.cons
    · exact ev_assign rfl (gn rfl)
    simp only [nm3, seval]
    exact VE.nil _
  · kernel_rfl
  change VOk _ _ _ _ _
  refine vseq ?_
  apply vrp
  · apply VE.cons
    · exact ev_call rfl (gn rfl) rfl (en_of Tryd.func21 (by kernel_rfl) rfl) (fun w' hw' => small_ok (n := 2) (by decide) w')
    simp only [nm3, seval]
    apply VE.cons
    · exact ev_call rfl (gn rfl) rfl (en_of Tryd.func10 (by kernel_rfl) rfl) (fun w' hw' => baseP w' (hL.gw hw'))
    simp only [nm3, seval]
    apply VE.cons
    · exact ev_call rfl (gn rfl) rfl (en_of Tryd.func22 (by kernel_rfl) rfl) (fun w' hw' => TimesE (n := 2) (by decide) two_base TollEc.base_on w' (hL.gw hw'))
    simp only [nm3, seval]
    apply VE.cons
    · exact ev_alloc rfl rfl (gn rfl) Tryd.zeroValue24
    simp only [nm3, seval]
    apply VE.cons
    · exact ev_store rfl (gn rfl) rfl rfl rfl Tryd.sizeOf24 rfl (by simp) rfl
    simp only [nm3, seval]
    exact VE.nil _
  · kernel_rfl
  change VOk _ _ _ _ _
  refine vseq ?_
  apply vrp
  · apply VE.cons
    · first | exact ev_field rfl (gn rfl) rfl Tryd.underlying24 rfl Tryd.sizeOf22 | exact ev_fieldx rfl (gn rfl) rfl Tryd.underlying24 rfl Tryd.sizeOf22
    simp only [nm3, seval]
    apply VE.cons
    · first | exact ev_index rfl (gn rfl) rfl rfl Tryd.underlying22 Tryd.sizeOf5 (by decide) (by decide) | exact ev_indexx rfl (gn rfl) rfl rfl Tryd.underlying22 Tryd.sizeOf5 (by decide) (by decide)
    simp only [nm3, seval]
    apply VE.cons
    · first | exact ev_load1 rfl (gn rfl) rfl rfl Tryd.underlying5 rfl rfl | exact ev_loadx1 rfl (gn rfl) rfl Tryd.underlying5 rfl (by first | assumption | exact hm 0 _ rfl | exact hm 1 _ rfl | exact hm 2 _ rfl | exact hm 3 _ rfl)
    simp only [nm3, seval]
    apply VE.cons
    · exact ev_eql (p := true) rfl (gn rfl) rfl rfl (decide_eq_true (by rw [b0_two]; rfl))
    simp only [nm3, seval]
    apply VE.cons
    · exact ev_move rfl (gn rfl)
    simp only [nm3, seval]
    apply VE.cons
    · first | exact Ev.skip (fun _ => rfl) | exact ev_field rfl (fun _ => rfl) rfl Tryd.underlying24 rfl Tryd.sizeOf22 | exact ev_fieldx rfl (fun _ => rfl) rfl Tryd.underlying24 rfl Tryd.sizeOf22
    simp only [nm3, seval]
    apply VE.cons
    · first | exact Ev.skip (fun _ => rfl) | exact ev_index rfl (fun _ => rfl) rfl rfl Tryd.underlying22 Tryd.sizeOf5 (by decide) (by decide) | exact ev_indexx rfl (fun _ => rfl) rfl rfl Tryd.underlying22 Tryd.sizeOf5 (by decide) (by decide)
    simp only [nm3, seval]
    apply VE.cons
    · first | exact Ev.skip (fun _ => rfl) | exact ev_load1 rfl (fun _ => rfl) rfl rfl Tryd.underlying5 rfl rfl | exact ev_loadx1 rfl (fun _ => rfl) rfl Tryd.underlying5 rfl (by first | assumption | exact hm 0 _ rfl | exact hm 1 _ rfl | exact hm 2 _ rfl | exact hm 3 _ rfl)
    simp only [nm3, seval]
    apply VE.cons
    · first | exact Ev.skip (fun _ => rfl) | exact ev_eql (p := true) rfl (fun _ => rfl) rfl rfl (decide_eq_true (by rw [b31_two]; rfl))
    simp only [nm3, seval]
    apply VE.cons
    · first | exact ev_pick_t rfl (gn rfl) rfl rfl | exact ev_pick_f rfl (gn rfl) rfl rfl
    simp only [nm3, seval]
    apply VE.cons
    · exact ev_move rfl (gn rfl)
    simp only [nm3, seval]
    apply VE.cons
    · first | exact Ev.skip (fun _ => rfl) | exact ev_call rfl (fun _ => rfl) rfl (en_of Tryd.func15 (by kernel_rfl) rfl) (fun w' hw' => order_ok w' (hL.gw hw'))
    simp only [nm3, seval]
    apply VE.cons
    · first | exact Ev.skip (fun _ => rfl) | exact ev_call rfl (fun _ => rfl) rfl (en_of Tryd.func10 (by kernel_rfl) rfl) (fun w' hw' => baseP w' (hL.gw hw'))
    simp only [nm3, seval]
    apply VE.cons
    · first | exact Ev.skip (fun _ => rfl) | exact ev_call rfl (fun _ => rfl) rfl (en_of Tryd.func22 (by kernel_rfl) rfl) (fun w' hw' => TimesE (by decide) TollEc.order_base TollEc.base_on w' (hL.gw hw'))
    simp only [nm3, seval]
    apply VE.cons
    · first | exact Ev.skip (fun _ => rfl) | exact ev_build rfl (fun _ => rfl) rfl (built24_0)
    simp only [nm3, seval]
    apply VE.cons
    · first | exact Ev.skip (fun _ => rfl) | exact ev_bin (c := .bool true) rfl (fun _ => rfl) rfl rfl (fun w => eqP_inf _ _ w)
    simp only [nm3, seval]
    apply VE.cons
    · first | exact ev_pick_t rfl (gn rfl) rfl rfl | exact ev_pick_f rfl (gn rfl) rfl rfl
    simp only [nm3, seval]
    apply VE.cons
    · exact ev_assign rfl (gn rfl)
    simp only [nm3, seval]
    exact VE.nil _
  · kernel_rfl
  change VOk _ _ _ _ _
  refine vret ?_
  refine post_ret (res1 Tryd.results11 (rv_tmp rfl)) ?_
  intro w' hg
  exact ⟨rfl, hg⟩
theorem rOn_x {x y : Nat} (hx : x < R) (_hy : y < R) (w : World) (h : ¬ x < pp) : Calls Tryd.prog 18 #[N x, N y] w fun e w' => e = .returned (.bool false) ∧ Gw w w' := by
  go_enter Tryd.func18, Tryd.ntmps18
  refine ve_go ?_
  simp only [List.map_cons, List.map_nil]
  refine vseq ?_
  apply vrp
  · apply VE.cons
    · exact ev_box rfl rfl (gn rfl) rfl
    simp only [nm3, seval]
    apply VE.cons
    · exact ev_box rfl rfl (gn rfl) rfl
    simp only [nm3, seval]
    apply VE.cons
    · exact ev_assign rfl (gn rfl)
    simp only [nm3, seval]
    exact VE.nil _
  · kernel_rfl
  change VOk _ _ _ _ _
  refine vseq ?_
  apply vrp
  · apply VE.cons
    · exact ev_call rfl (gn rfl) rfl (en_of Tryd.func28 (by kernel_rfl) rfl) (fun w' hw' => c_P w')
    simp only [nm3, seval]
    apply VE.cons
    · exact ev_alloc rfl rfl (gn rfl) Tryd.zeroValue29
    simp only [nm3, seval]
    apply VE.cons
    · exact ev_store rfl (gn rfl) rfl rfl rfl Tryd.sizeOf29 rfl (by simp) rfl
    simp only [nm3, seval]
    exact VE.nil _
  · kernel_rfl
  change VOk _ _ _ _ _
  refine vseq ?_
  refine vseq ?_
  apply vrp
  · apply VE.cons
    · first | exact ev_load rfl (gn rfl) rfl rfl Tryd.underlying29 rfl Tryd.sizeOf29 rfl rfl | exact ev_loadx rfl (gn rfl) rfl Tryd.underlying29 rfl Tryd.sizeOf29 (by assumption) rfl
    simp only [nm3, seval]
    apply VE.cons
    · first | exact ev_load rfl (gn rfl) rfl rfl Tryd.underlying29 rfl Tryd.sizeOf29 rfl rfl | exact ev_loadx rfl (gn rfl) rfl Tryd.underlying29 rfl Tryd.sizeOf29 (by assumption) rfl
    simp only [nm3, seval]
    apply VE.cons
    · exact ev_call (v := .bool false) rfl (gn rfl) rfl (en_of Tryd.func37 (by kernel_rfl) rfl) (fun w' hw' => rl_f hx h w')
    simp only [nm3, seval]
    apply VE.cons
    · exact ev_not rfl (gn rfl) rfl
    simp only [nm3, seval]
    apply VE.cons
    · exact ev_move rfl (gn rfl)
    simp only [nm3, seval]
    apply VE.cons
    · first | exact Ev.skip (fun _ => rfl) | exact ev_load rfl (fun _ => rfl) rfl rfl Tryd.underlying29 rfl Tryd.sizeOf29 rfl rfl | exact ev_loadx rfl (fun _ => rfl) rfl Tryd.underlying29 rfl Tryd.sizeOf29 (by assumption) rfl
    simp only [nm3, seval]
    apply VE.cons
    · first | exact Ev.skip (fun _ => rfl) | exact ev_load rfl (fun _ => rfl) rfl rfl Tryd.underlying29 rfl Tryd.sizeOf29 rfl rfl | exact ev_loadx rfl (fun _ => rfl) rfl Tryd.underlying29 rfl Tryd.sizeOf29 (by assumption) rfl
    simp only [nm3, seval]
    apply VE.cons
    · first | exact Ev.skip (fun _ => rfl) | refine ev_pure' (fun _ => rfl) (fun ρ w => by simp only [VS.act, SV.c, List.map_cons, List.map_nil]; go_simp; exact rfl) (fun _ _ => rfl)
    simp only [nm3, seval]
    apply VE.cons
    · first | exact Ev.skip (fun _ => rfl) | exact ev_not rfl (fun _ => rfl) rfl
    simp only [nm3, seval]
    apply VE.cons
    · first | exact ev_pick_t rfl (gn rfl) rfl rfl | exact ev_pick_f rfl (gn rfl) rfl rfl
    simp only [nm3, seval]
    exact VE.nil _
  · kernel_rfl
  change VOk _ _ _ _ _
  refine vcond_t rfl ?_
  refine vseq ?_
  apply vrp
  · apply VE.cons
    · exact ev_assign rfl (gn rfl)
    simp only [nm3, seval]
    exact VE.nil _
  · kernel_rfl
  change VOk _ _ _ _ _
  refine vret ?_
  refine post_ret (res1 Tryd.results18 (rv_tmp rfl)) ?_
  intro w' hg
  exact ⟨rfl, hg⟩
theorem rOn_y {x y : Nat} (hx : x < R) (hy : y < R) (w : World) (h : x < pp) (h2 : ¬ y < pp) : Calls Tryd.prog 18 #[N x, N y] w fun e w' => e = .returned (.bool false) ∧ Gw w w' := by
  go_enter Tryd.func18, Tryd.ntmps18
  refine ve_go ?_
  simp only [List.map_cons, List.map_nil]
  refine vseq ?_
  apply vrp
  · apply VE.cons
    · exact ev_box rfl rfl (gn rfl) rfl
    simp only [nm3, seval]
    apply VE.cons
    · exact ev_box rfl rfl (gn rfl) rfl
    simp only [nm3, seval]
    apply VE.cons
    · exact ev_assign rfl (gn rfl)
    simp only [nm3, seval]
    exact VE.nil _
  · kernel_rfl
  change VOk _ _ _ _ _
  refine vseq ?_
  apply vrp
  · apply VE.cons
    · exact ev_call rfl (gn rfl) rfl (en_of Tryd.func28 (by kernel_rfl) rfl) (fun w' hw' => c_P w')
    simp only [nm3, seval]
    apply VE.cons
    · exact ev_alloc rfl rfl (gn rfl) Tryd.zeroValue29
    simp only [nm3, seval]
    apply VE.cons
    · exact ev_store rfl (gn rfl) rfl rfl rfl Tryd.sizeOf29 rfl (by simp) rfl
    simp only [nm3, seval]
    exact VE.nil _
  · kernel_rfl
  change VOk _ _ _ _ _
  refine vseq ?_
  refine vseq ?_
  apply vrp
  · apply VE.cons
    · first | exact ev_load rfl (gn rfl) rfl rfl Tryd.underlying29 rfl Tryd.sizeOf29 rfl rfl | exact ev_loadx rfl (gn rfl) rfl Tryd.underlying29 rfl Tryd.sizeOf29 (by assumption) rfl
    simp only [nm3, seval]
    apply VE.cons
    · first | exact ev_load rfl (gn rfl) rfl rfl Tryd.underlying29 rfl Tryd.sizeOf29 rfl rfl | exact ev_loadx rfl (gn rfl) rfl Tryd.underlying29 rfl Tryd.sizeOf29 (by assumption) rfl
    simp only [nm3, seval]
    apply VE.cons
    · exact ev_call (v := .bool true) rfl (gn rfl) rfl (en_of Tryd.func37 (by kernel_rfl) rfl) (fun w' hw' => rl_t hx h w')
    simp only [nm3, seval]
    apply VE.cons
    · exact ev_not rfl (gn rfl) rfl
    simp only [nm3, seval]
    apply VE.cons
    · exact ev_move rfl (gn rfl)
    simp only [nm3, seval]
    apply VE.cons
    · first | exact Ev.skip (fun _ => rfl) | exact ev_load rfl (fun _ => rfl) rfl rfl Tryd.underlying29 rfl Tryd.sizeOf29 rfl rfl | exact ev_loadx rfl (fun _ => rfl) rfl Tryd.underlying29 rfl Tryd.sizeOf29 (by assumption) rfl
    simp only [nm3, seval]
    apply VE.cons
    · first | exact Ev.skip (fun _ => rfl) | exact ev_load rfl (fun _ => rfl) rfl rfl Tryd.underlying29 rfl Tryd.sizeOf29 rfl rfl | exact ev_loadx rfl (fun _ => rfl) rfl Tryd.underlying29 rfl Tryd.sizeOf29 (by assumption) rfl
    simp only [nm3, seval]
    apply VE.cons
    · first | exact Ev.skip (fun _ => rfl) | exact ev_call (v := .bool false) rfl (fun _ => rfl) rfl (en_of Tryd.func37 (by kernel_rfl) rfl) (fun w' hw' => rl_f hy h2 w')
    simp only [nm3, seval]
    apply VE.cons
    · first | exact Ev.skip (fun _ => rfl) | exact ev_not rfl (fun _ => rfl) rfl
    simp only [nm3, seval]
    apply VE.cons
    · first | exact ev_pick_t rfl (gn rfl) rfl rfl | exact ev_pick_f rfl (gn rfl) rfl rfl
    simp only [nm3, seval]
    exact VE.nil _
  · kernel_rfl
  change VOk _ _ _ _ _
  refine vcond_t rfl ?_
  refine vseq ?_
  apply vrp
  · apply VE.cons
    · exact ev_assign rfl (gn rfl)
    simp only [nm3, seval]
    exact VE.nil _
  · kernel_rfl
  change VOk _ _ _ _ _
  refine vret ?_
  refine post_ret (res1 Tryd.results18 (rv_tmp rfl)) ?_
  intro w' hg
  exact ⟨rfl, hg⟩
theorem rOn_f (x y : F) (w : World) : Calls Tryd.prog 18 #[NF x, NF y] w fun e w' => e = .returned (.bool (onF x y)) ∧ Gw w w' := by
  go_enter Tryd.func18, Tryd.ntmps18
  refine ve_go ?_
  simp only [List.map_cons, List.map_nil]
  refine vseq ?_
  apply vrp
  · apply VE.cons
    · exact ev_box rfl rfl (gn rfl) rfl
    simp only [nm3, seval]
    apply VE.cons
    · exact ev_box rfl rfl (gn rfl) rfl
    simp only [nm3, seval]
    apply VE.cons
    · exact ev_assign rfl (gn rfl)
    simp only [nm3, seval]
    exact VE.nil _
  · kernel_rfl
  change VOk _ _ _ _ _
  refine vseq ?_
  apply vrp
  · apply VE.cons
    · exact ev_call rfl (gn rfl) rfl (en_of Tryd.func28 (by kernel_rfl) rfl) (fun w' hw' => c_P w')
    simp only [nm3, seval]
    apply VE.cons
    · exact ev_alloc rfl rfl (gn rfl) Tryd.zeroValue29
    simp only [nm3, seval]
    apply VE.cons
    · exact ev_store rfl (gn rfl) rfl rfl rfl Tryd.sizeOf29 rfl (by simp) rfl
    simp only [nm3, seval]
    exact VE.nil _
  · kernel_rfl
  change VOk _ _ _ _ _
  refine vseq ?_
  refine vseq ?_
  apply vrp
  · apply VE.cons
    · first | exact ev_load rfl (gn rfl) rfl rfl Tryd.underlying29 rfl Tryd.sizeOf29 rfl rfl | exact ev_loadx rfl (gn rfl) rfl Tryd.underlying29 rfl Tryd.sizeOf29 (by assumption) rfl
    simp only [nm3, seval]
    apply VE.cons
    · first | exact ev_load rfl (gn rfl) rfl rfl Tryd.underlying29 rfl Tryd.sizeOf29 rfl rfl | exact ev_loadx rfl (gn rfl) rfl Tryd.underlying29 rfl Tryd.sizeOf29 (by assumption) rfl
    simp only [nm3, seval]
    apply VE.cons
    · exact ev_call (v := .bool true) rfl (gn rfl) rfl (en_of Tryd.func37 (by kernel_rfl) rfl) (fun w' hw' => rl_t (val_lt x) x.isLt w')
    simp only [nm3, seval]
    apply VE.cons
    · exact ev_not rfl (gn rfl) rfl
    simp only [nm3, seval]
    apply VE.cons
    · exact ev_move rfl (gn rfl)
    simp only [nm3, seval]
    apply VE.cons
    · first | exact Ev.skip (fun _ => rfl) | exact ev_load rfl (fun _ => rfl) rfl rfl Tryd.underlying29 rfl Tryd.sizeOf29 rfl rfl | exact ev_loadx rfl (fun _ => rfl) rfl Tryd.underlying29 rfl Tryd.sizeOf29 (by assumption) rfl
    simp only [nm3, seval]
    apply VE.cons
    · first | exact Ev.skip (fun _ => rfl) | exact ev_load rfl (fun _ => rfl) rfl rfl Tryd.underlying29 rfl Tryd.sizeOf29 rfl rfl | exact ev_loadx rfl (fun _ => rfl) rfl Tryd.underlying29 rfl Tryd.sizeOf29 (by assumption) rfl
    simp only [nm3, seval]
    apply VE.cons
    · first | exact Ev.skip (fun _ => rfl) | exact ev_call (v := .bool true) rfl (fun _ => rfl) rfl (en_of Tryd.func37 (by kernel_rfl) rfl) (fun w' hw' => rl_t (val_lt y) y.isLt w')
    simp only [nm3, seval]
    apply VE.cons
    · first | exact Ev.skip (fun _ => rfl) | exact ev_not rfl (fun _ => rfl) rfl
    simp only [nm3, seval]
    apply VE.cons
    · first | exact ev_pick_t rfl (gn rfl) rfl rfl | exact ev_pick_f rfl (gn rfl) rfl rfl
    simp only [nm3, seval]
    exact VE.nil _
  · kernel_rfl
  change VOk _ _ _ _ _
  refine vcond_f rfl ?_
  refine vskip ?_
  change VOk _ _ _ _ _
  refine vseq ?_
  apply vrp
  · apply VE.cons
    · first | exact ev_load rfl (gn rfl) rfl rfl Tryd.underlying29 rfl Tryd.sizeOf29 rfl rfl | exact ev_loadx rfl (gn rfl) rfl Tryd.underlying29 rfl Tryd.sizeOf29 (by assumption) rfl
    simp only [nm3, seval]
    apply VE.cons
    · first | exact ev_load rfl (gn rfl) rfl rfl Tryd.underlying29 rfl Tryd.sizeOf29 rfl rfl | exact ev_loadx rfl (gn rfl) rfl Tryd.underlying29 rfl Tryd.sizeOf29 (by assumption) rfl
    simp only [nm3, seval]
    apply VE.cons
    · first | exact ev_load rfl (gn rfl) rfl rfl Tryd.underlying29 rfl Tryd.sizeOf29 rfl rfl | exact ev_loadx rfl (gn rfl) rfl Tryd.underlying29 rfl Tryd.sizeOf29 (by assumption) rfl
    simp only [nm3, seval]
    apply VE.cons
    · exact ev_call rfl (gn rfl) rfl (en_of Tryd.func38 (by kernel_rfl) rfl) (fun w' hw' => rmulF _ _ w')
    simp only [nm3, seval]
    apply VE.cons
    · exact ev_alloc rfl rfl (gn rfl) Tryd.zeroValue29
    simp only [nm3, seval]
    apply VE.cons
    · exact ev_store rfl (gn rfl) rfl rfl rfl Tryd.sizeOf29 rfl (by simp) rfl
    simp only [nm3, seval]
    exact VE.nil _
  · kernel_rfl
  change VOk _ _ _ _ _
  refine vseq ?_
  apply vrd (by kernel_rfl)
  · apply VE.cons
    · first | exact ev_load rfl (gn rfl) rfl rfl Tryd.underlying29 rfl Tryd.sizeOf29 rfl rfl | exact ev_loadx rfl (gn rfl) rfl Tryd.underlying29 rfl Tryd.sizeOf29 (by assumption) rfl
    simp only [nm3, seval]
    apply VE.cons
    · first | exact ev_load rfl (gn rfl) rfl rfl Tryd.underlying29 rfl Tryd.sizeOf29 rfl rfl | exact ev_loadx rfl (gn rfl) rfl Tryd.underlying29 rfl Tryd.sizeOf29 (by assumption) rfl
    simp only [nm3, seval]
    apply VE.cons
    · first | exact ev_load rfl (gn rfl) rfl rfl Tryd.underlying29 rfl Tryd.sizeOf29 rfl rfl | exact ev_loadx rfl (gn rfl) rfl Tryd.underlying29 rfl Tryd.sizeOf29 (by assumption) rfl
    simp only [nm3, seval]
    apply VE.cons
    · exact ev_call rfl (gn rfl) rfl (en_of Tryd.func38 (by kernel_rfl) rfl) (fun w' hw' => rmulF _ _ w')
    simp only [nm3, seval]
    apply VE.cons
    · exact ev_build rfl (gn rfl) rfl built29_three
    simp only [nm3, seval]
    apply VE.cons
    · first | exact ev_load rfl (gn rfl) rfl rfl Tryd.underlying29 rfl Tryd.sizeOf29 rfl rfl | exact ev_loadx rfl (gn rfl) rfl Tryd.underlying29 rfl Tryd.sizeOf29 (by assumption) rfl
    simp only [nm3, seval]
    apply VE.cons
    · exact ev_call rfl (gn rfl) rfl (en_of Tryd.func23 (by kernel_rfl) rfl) (fun w' hw' => rsubF3 _ w')
    simp only [nm3, seval]
    apply VE.cons
    · first | exact ev_load rfl (gn rfl) rfl rfl Tryd.underlying29 rfl Tryd.sizeOf29 rfl rfl | exact ev_loadx rfl (gn rfl) rfl Tryd.underlying29 rfl Tryd.sizeOf29 (by assumption) rfl
    simp only [nm3, seval]
    apply VE.cons
    · first | exact ev_load rfl (gn rfl) rfl rfl Tryd.underlying29 rfl Tryd.sizeOf29 rfl rfl | exact ev_loadx rfl (gn rfl) rfl Tryd.underlying29 rfl Tryd.sizeOf29 (by assumption) rfl
    simp only [nm3, seval]
    apply VE.cons
    · exact ev_call rfl (gn rfl) rfl (en_of Tryd.func38 (by kernel_rfl) rfl) (fun w' hw' => rmulF _ _ w')
    simp only [nm3, seval]
    apply VE.cons
    · exact ev_call rfl (gn rfl) rfl (en_of Tryd.func39 (by kernel_rfl) rfl) (fun w' hw' => c_B w')
    simp only [nm3, seval]
    apply VE.cons
    · first | exact ev_load rfl (gn rfl) rfl rfl Tryd.underlying29 rfl Tryd.sizeOf29 rfl rfl | exact ev_loadx rfl (gn rfl) rfl Tryd.underlying29 rfl Tryd.sizeOf29 (by assumption) rfl
    simp only [nm3, seval]
    apply VE.cons
    · exact ev_call rfl (gn rfl) rfl (en_of Tryd.func26 (by kernel_rfl) rfl) (fun w' hw' => raddF _ cb w')
    simp only [nm3, seval]
    apply VE.cons
    · exact ev_alloc rfl rfl (gn rfl) Tryd.zeroValue29
    simp only [nm3, seval]
    apply VE.cons
    · exact ev_store rfl (gn rfl) rfl rfl rfl Tryd.sizeOf29 rfl (by simp) rfl
    simp only [nm3, seval]
    exact VE.nil _
  · kernel_rfl
  change VOk _ _ _ _ _
  refine vseq ?_
  apply vrp
  · apply VE.cons
    · first | exact ev_load rfl (gn rfl) rfl rfl Tryd.underlying29 rfl Tryd.sizeOf29 rfl rfl | exact ev_loadx rfl (gn rfl) rfl Tryd.underlying29 rfl Tryd.sizeOf29 (by assumption) rfl
    simp only [nm3, seval]
    apply VE.cons
    · first | exact ev_load rfl (gn rfl) rfl rfl Tryd.underlying29 rfl Tryd.sizeOf29 rfl rfl | exact ev_loadx rfl (gn rfl) rfl Tryd.underlying29 rfl Tryd.sizeOf29 (by assumption) rfl
    simp only [nm3, seval]
    apply VE.cons
    · exact ev_bin rfl (gn rfl) rfl rfl (fun w => eqF29 _ _ _ _ w)
    simp only [nm3, seval]
    apply VE.cons
    · exact ev_assign rfl (gn rfl)
    simp only [nm3, seval]
    exact VE.nil _
  · kernel_rfl
  change VOk _ _ _ _ _
  refine vret ?_
  refine post_ret (res1 Tryd.results18 (rv_tmp rfl)) ?_
  intro w' hg
  exact ⟨rfl, hg⟩
theorem rOn_ok {x y : Nat} (hx : x < R) (hy : y < R) (w : World) : Calls Tryd.prog 18 #[N x, N y] w fun e w' => e = .returned (.bool (onB x y)) ∧ Gw w w' := by
  by_cases h1 : x < pp
  · by_cases h2 : y < pp
    · rw [show onB x y = onF ⟨x, h1⟩ ⟨y, h2⟩ from dif_pos ⟨h1, h2⟩]; exact rOn_f ⟨x, h1⟩ ⟨y, h2⟩ w
    · rw [show onB x y = false from dif_neg (fun c => h2 c.2)]; exact rOn_y hx hy w h1 h2
  · rw [show onB x y = false from dif_neg (fun c => h1 c.1)]; exact rOn_x hx hy w h1
end Go.Proofs.YtbnfanmolphliaaDoor
