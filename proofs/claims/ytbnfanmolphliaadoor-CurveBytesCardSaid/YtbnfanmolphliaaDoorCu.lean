import Derived.Test.YtbnfanmolphliaaDoorCt
import Derived.Test.YtbnfanmolphliaaDoorRd
import Derived.Test.YtbnfanmolphliaaDoorTf
import Derived.Test.YtbnfanmolphliaaDoorSh
/-! The reduction, by contract. -/
namespace Go.Proofs.YtbnfanmolphliaaDoor
open Go.RowKit Go.Toll TollMont
def fA (x y t : Nat) : Nat := ac (x * y % W) t 0
def fK (x y t : Nat) : Nat := co (x * y % W) t 0
def fH (x y t : Nat) : Nat := (x * y / W + fK x y t) % W
def fM (x y t c : Nat) : Nat := ac (fA x y t) c 0
def fK2 (x y t c : Nat) : Nat := co (fA x y t) c 0
def fC (x y t c : Nat) : Nat := (fH x y t + fK2 x y t c) % W
theorem mac_is {x y t c : Nat} (hx : x < W) (hy : y < W) (ht : t < W) (hc : c < W) : fM x y t c = macL x y t c ∧ fC x y t c = macH x y t c := by
  obtain ⟨h1, h2⟩ := mac_eq hx hy ht hc
  exact ⟨h1, h2⟩
theorem macH0 {x y t : Nat} (hx : x < W) (hy : y < W) (ht : t < W) : fH x y t = macH x y t 0 := by
  rw [← (mac_is hx hy ht (by decide)).2]
  unfold fC fK2 fA ac co
  rw [Nat.add_zero, Nat.add_zero, Nat.div_eq_of_lt (Nat.mod_lt _ (by decide)), Nat.add_zero]
  exact (Nat.mod_eq_of_lt (Nat.mod_lt _ (by decide))).symm
theorem mul64_ok (x y : Nat) (hx : x < W) (hy : y < W) (w : World) : Calls Tryd.prog 68 #[.int .u64 x, .int .u64 y] w fun e w' => e = .returned (.tuple #[.int .u64 (x * y / W : Nat), .int .u64 (x * y % W : Nat)]) ∧ Gw w w' :=
  (Tryd.bits_Mul64 x y hx hy w).mono fun e w' h => ⟨h.1, by rw [h.2]; exact Gw.refl w⟩
theorem reduce_ok {m b n c : Nat} (hm : m % 2 = 1) (h1 : 1 < m) (hmR : m < R) (hn : n < R) (hc : c < R) (hnc : n < m ∨ c < m) (w : World) (h : At w b m) :
    Calls Tryd.prog 63 #[ptr b, N n, N c] w fun e w' => e = .returned (N (mred m n c)) ∧ Gw w w' := by
  have hneg : (neg64 (lim m 0) * lim m 0 + 1) % W = 0 := neg64_eq (by rw [lim_zero]; simp only [W]; omega)
  refine reduce_core b _ _ _ _ _ _ _ _ _ _ _ _ _ _ _ _ (neg64 (lim m 0)) w h.m h.neg (fun x y => x * y / W) (fun x y => x * y % W) (fun t c => ac t c 0) (fun t c => co t c 0) (fun x y => (x + y) % W)
    fA fK fH fM fK2 fC (fun t => t * neg64 (lim m 0) % W) (fun x => x < W) (fun k t0 t1 t2 t3 t4 => RedAt m n c k t0 t1 t2 t3 t4) (fun x y hx hy w => mul64_ok x y hx hy w)
    (fun x y t w => add64_run _ _ 0 (by omega) w) (fun x y t c w => add64_run _ _ 0 (by omega) w) (fun x y t w => add64_run _ 0 0 (by omega) w) (fun t c w => add64_run _ _ 0 (by omega) w)
    (fun x y t => wrap_nat _) (fun x y t c => wrap_nat _) (fun a c d e => wrap_nat _) (fun t => wrap_nat _) (fun t => Nat.mod_lt _ (by decide))
    (lim_lt _ _) (lim_lt _ _) (lim_lt _ _) (lim_lt _ _) (lim_lt _ _) (lim_lt _ _) (lim_lt _ _) (lim_lt _ _) (lim_lt _ _) (lim_lt _ _) (lim_lt _ _) (lim_lt _ _) (RedAt.start (by omega)) ?_ ?_
  · intro k x t0 t1 t2 t3 t4 hk hx hr
    have hx' : x = lim c k := by
      have : k = 0 ∨ k = 1 ∨ k = 2 ∨ k = 3 := by omega
      rcases this with rfl | rfl | rfl | rfl <;> (simp at hx; exact hx.symm)
    have hxW : x < W := by rw [hx']; exact lim_lt _ _
    have qW : ∀ u, u * neg64 (lim m 0) % W < W := fun u => Nat.mod_lt _ (by decide)
    obtain ⟨a0, b0⟩ := mac_is hxW (lim_lt n 0) hr.b0 (show 0 < W by decide)
    have l1 := macH_lt hxW (lim_lt n 0) hr.b0 (show 0 < W by decide)
    rw [← b0] at l1
    obtain ⟨a1, b1⟩ := mac_is hxW (lim_lt n 1) hr.b1 l1
    have l2 := macH_lt hxW (lim_lt n 1) hr.b1 l1
    rw [← b1] at l2
    obtain ⟨a2, b2⟩ := mac_is hxW (lim_lt n 2) hr.b2 l2
    have l3 := macH_lt hxW (lim_lt n 2) hr.b2 l2
    rw [← b2] at l3
    obtain ⟨a3, b3⟩ := mac_is hxW (lim_lt n 3) hr.b3 l3
    have u0 := macL_lt x (lim n 0) t0 0
    rw [← a0] at u0
    have u1 := macL_lt x (lim n 1) t1 (fC x (lim n 0) t0 0)
    rw [← a1] at u1
    have u2 := macL_lt x (lim n 2) t2 (fC x (lim n 1) t1 (fC x (lim n 0) t0 0))
    rw [← a2] at u2
    have u3 := macL_lt x (lim n 3) t3 (fC x (lim n 2) t2 (fC x (lim n 1) t1 (fC x (lim n 0) t0 0)))
    rw [← a3] at u3
    have g0 := macH0 (qW (fM x (lim n 0) t0 0)) (lim_lt m 0) u0
    have k1 := macH_lt (qW (fM x (lim n 0) t0 0)) (lim_lt m 0) u0 (show 0 < W by decide)
    rw [← g0] at k1
    obtain ⟨g1, i1⟩ := mac_is (qW (fM x (lim n 0) t0 0)) (lim_lt m 1) u1 k1
    have k2 := macH_lt (qW (fM x (lim n 0) t0 0)) (lim_lt m 1) u1 k1
    rw [← i1] at k2
    obtain ⟨g2, i2⟩ := mac_is (qW (fM x (lim n 0) t0 0)) (lim_lt m 2) u2 k2
    have k3 := macH_lt (qW (fM x (lim n 0) t0 0)) (lim_lt m 2) u2 k2
    rw [← i2] at k3
    obtain ⟨g3, i3⟩ := mac_is (qW (fM x (lim n 0) t0 0)) (lim_lt m 3) u3 k3
    exact RedAt.step hn hmR hneg hr hx' a0 b0 a1 b1 a2 b2 a3 b3 rfl rfl rfl g0 g1 i1 g2 i2 g3 i3 rfl rfl rfl
  · intro t0 t1 t2 t3 t4 hr w' hw
    obtain ⟨Q, hQ, hE⟩ := hr.eq
    have hE' : v5 t0 t1 t2 t3 t4 * R = n * c + m * Q := by
      have h4 : W ^ 4 = R := by decide
      rw [h4, Nat.mod_eq_of_lt hc] at hE
      exact hE
    obtain ⟨hlt, hmod⟩ := redc_end hm h1 hn hc hnc hQ hE'
    have ht4 := v5_lt (show v5 t0 t1 t2 t3 t4 < 2 * R by omega)
    obtain ⟨q0, q1, q2, q3, _⟩ := lim_of t0 t1 t2 t3 0 hr.b0 hr.b1 hr.b2 hr.b3
    have hr0 := hr.b0
    have hr1 := hr.b1
    have hr2 := hr.b2
    have hr3 := hr.b3
    have hT : v5 t0 t1 t2 t3 t4 = t0 + W * (t1 + W * (t2 + W * (t3 + W * 0))) + R * t4 := by unfold v5; simp only [W, R]; omega
    have hlt' : t0 + W * (t1 + W * (t2 + W * (t3 + W * 0))) < R := by simp only [W, R] at *; omega
    generalize t0 + W * (t1 + W * (t2 + W * (t3 + W * 0))) = T at *
    have hs := shrink_ok b m T t4 hmR hlt' (by omega) w' (h.gw hw).m
    have hres : (if t4 = 0 ∧ T < m then T else dif T m) = mred m n c := by
      rw [← hmod, hT]
      rw [hT] at hlt
      have : t4 = 0 ∨ t4 = 1 := by omega
      rcases this with rfl | rfl
      · simp only [Nat.mul_zero, Nat.add_zero] at *
        by_cases hl : T < m
        · rw [if_pos ⟨trivial, hl⟩, Nat.mod_eq_of_lt hl]
        · rw [if_neg (fun c => hl c.2)]
          unfold dif
          rw [if_neg hl, Nat.mod_eq_sub_mod (by omega), Nat.mod_eq_of_lt (by omega)]
      · rw [if_neg (fun c => by cases c.1)]
        unfold dif
        rw [if_pos (by omega), Nat.mul_one, Nat.mod_eq_sub_mod (by omega), Nat.mod_eq_of_lt (by omega)]
    rw [hres] at hs
    unfold N at hs
    rw [q0, q1, q2, q3] at hs
    exact hs
end Go.Proofs.YtbnfanmolphliaaDoor
