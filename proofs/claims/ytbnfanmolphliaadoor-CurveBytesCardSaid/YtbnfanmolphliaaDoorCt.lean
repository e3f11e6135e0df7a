import Derived.Test.YtbnfanmolphliaaDoorOp
import Derived.Test.YtbnfanmolphliaaDoorTe
import Derived.Test.YtbnfanmolphliaaDoorSteps
import Derived.Shelf.Spec.BitsCarry
/-! What the functions of the numbers make: the walks, at the numbers themselves. -/
namespace Go.Proofs.YtbnfanmolphliaaDoor
open Go.RowKit Go.Toll TollMont
def N (n : Nat) : Value := .agg #[.int .u64 (lim n 0 : Nat), .int .u64 (lim n 1 : Nat), .int .u64 (lim n 2 : Nat), .int .u64 (lim n 3 : Nat)]
def sb (x y b : Nat) : Nat := (x + W - y - b) % W
def bo (x y b : Nat) : Nat := if x < y + b then 1 else 0
theorem bo_le (x y b : Nat) : bo x y b ≤ 1 := by unfold bo; split <;> omega
theorem sub64_run (x y b : Nat) (hb : b ≤ 1) (w : World) : (callFunc 67 #[.int .u64 x, .int .u64 y, .int .u64 b]).run Tryd.prog w =
    .ok (.value (.tuple #[.int .u64 (sb x y b : Nat), .int .u64 (bo x y b : Nat)])) w := by
  rw [run_callFunc_extern Tryd.func67 (by kernel_rfl) (by kernel_rfl) (by kernel_rfl) (e := sub64Entry) (by kernel_rfl), run_sub64 x y b hb]
  rfl
theorem sub_ok (n m : Nat) (hn : n < R) (hm : m < R) (w : World) :
    Calls Tryd.prog 61 #[N n, N m] w fun e w' => e = .returned (.tuple #[N (dif n m), .int .u64 (if n < m then 1 else 0 : Nat)]) ∧ Gw w w' := by
  obtain ⟨e0, e1, e2, e3, e4⟩ := sub_parts n m hn hm (sb (lim n 0) (lim m 0) 0) (bo (lim n 0) (lim m 0) 0) (sb (lim n 1) (lim m 1) (bo (lim n 0) (lim m 0) 0)) (bo (lim n 1) (lim m 1) (bo (lim n 0) (lim m 0) 0))
    (sb (lim n 2) (lim m 2) (bo (lim n 1) (lim m 1) (bo (lim n 0) (lim m 0) 0))) (bo (lim n 2) (lim m 2) (bo (lim n 1) (lim m 1) (bo (lim n 0) (lim m 0) 0)))
    (sb (lim n 3) (lim m 3) (bo (lim n 2) (lim m 2) (bo (lim n 1) (lim m 1) (bo (lim n 0) (lim m 0) 0)))) (bo (lim n 3) (lim m 3) (bo (lim n 2) (lim m 2) (bo (lim n 1) (lim m 1) (bo (lim n 0) (lim m 0) 0)))) rfl rfl rfl rfl rfl rfl rfl rfl
  have h := sub_core (lim n 0) (lim n 1) (lim n 2) (lim n 3) (lim m 0) (lim m 1) (lim m 2) (lim m 3) _ _ _ _ _ _ _ _ w (fun w => sub64_run _ _ 0 (by omega) w) (fun w => sub64_run _ _ _ (bo_le _ _ _) w) (fun w => sub64_run _ _ _ (bo_le _ _ _) w) (fun w => sub64_run _ _ _ (bo_le _ _ _) w)
  rw [e4, e3, e2, e1, e0] at h
  exact h
def ac (x y c : Nat) : Nat := (x + y + c) % W
def co (x y c : Nat) : Nat := (x + y + c) / W
theorem add64_run (x y c : Nat) (hc : c ≤ 1) (w : World) : (callFunc 66 #[.int .u64 x, .int .u64 y, .int .u64 c]).run Tryd.prog w =
    .ok (.value (.tuple #[.int .u64 (ac x y c : Nat), .int .u64 (co x y c : Nat)])) w := by
  rw [run_callFunc_extern Tryd.func66 (by kernel_rfl) (by kernel_rfl) (by kernel_rfl) (e := add64Entry) (by kernel_rfl), run_add64 x y c (by omega) (by omega) (by omega) (by omega)]
  rfl
theorem co_le {x y c : Nat} (hx : x < W) (hy : y < W) (hc : c ≤ 1) : co x y c ≤ 1 := by unfold co; simp only [W] at *; omega
theorem add_ok (n m : Nat) (hn : n < R) (hm : m < R) (w : World) :
    Calls Tryd.prog 60 #[N n, N m] w fun e w' => e = .returned (.tuple #[N (n + m), .int .u64 ((n + m) / R : Nat)]) ∧ Gw w w' := by
  obtain ⟨e0, e1, e2, e3, e4⟩ := add_parts n m hn hm (ac (lim n 0) (lim m 0) 0) (co (lim n 0) (lim m 0) 0) (ac (lim n 1) (lim m 1) (co (lim n 0) (lim m 0) 0)) (co (lim n 1) (lim m 1) (co (lim n 0) (lim m 0) 0))
    (ac (lim n 2) (lim m 2) (co (lim n 1) (lim m 1) (co (lim n 0) (lim m 0) 0))) (co (lim n 2) (lim m 2) (co (lim n 1) (lim m 1) (co (lim n 0) (lim m 0) 0)))
    (ac (lim n 3) (lim m 3) (co (lim n 2) (lim m 2) (co (lim n 1) (lim m 1) (co (lim n 0) (lim m 0) 0)))) (co (lim n 3) (lim m 3) (co (lim n 2) (lim m 2) (co (lim n 1) (lim m 1) (co (lim n 0) (lim m 0) 0)))) rfl rfl rfl rfl rfl rfl rfl rfl
  have l0 := co_le (lim_lt n 0) (lim_lt m 0) (Nat.zero_le 1)
  have l1 := co_le (lim_lt n 1) (lim_lt m 1) l0
  have l2 := co_le (lim_lt n 2) (lim_lt m 2) l1
  have h := add_core (lim n 0) (lim n 1) (lim n 2) (lim n 3) (lim m 0) (lim m 1) (lim m 2) (lim m 3) _ _ _ _ _ _ _ _ w (fun w => add64_run _ _ 0 (by omega) w) (fun w => add64_run _ _ _ l0 w) (fun w => add64_run _ _ _ l1 w) (fun w => add64_run _ _ _ l2 w)
  rw [e4, e3, e2, e1, e0] at h
  exact h

/-! ### the modulus, in memory -/
def lims (n : Nat) : List Value := [.int .u64 (lim n 0 : Nat), .int .u64 (lim n 1 : Nat), .int .u64 (lim n 2 : Nat), .int .u64 (lim n 3 : Nat)]
def modc (m : Nat) : List Value := lims m ++ [.int .u64 (neg64 (lim m 0) : Nat)] ++ lims (R % m) ++ lims (R * R % m)
def At (w : World) (b m : Nat) : Prop := ∀ (j : Nat) (v : Value), (modc m)[j]? = some v → w.cell? ⟨b, 0 + j, none⟩ = some v
theorem At.gw {w w' : World} {b m : Nat} (h : At w b m) (g : Gw w w') : At w' b m := fun j v hj => g.cell (h j v hj)
theorem at_part {w : World} {b m k n : Nat} (h : At w b m) (hk : ∀ j v, (lims n)[j]? = some v → (modc m)[k + j]? = some v) : ∀ (j : Nat) (v : Value), (lims n)[j]? = some v → w.cell? ⟨b, k + j, none⟩ = some v := fun j v hj => by
  have := h (k + j) v (hk j v hj)
  rwa [Nat.zero_add] at this
theorem lims_cases {n j : Nat} {v : Value} {Q : Nat → Value → Prop} (h0 : Q 0 (.int .u64 (lim n 0 : Nat))) (h1 : Q 1 (.int .u64 (lim n 1 : Nat))) (h2 : Q 2 (.int .u64 (lim n 2 : Nat))) (h3 : Q 3 (.int .u64 (lim n 3 : Nat)))
    (h : (lims n)[j]? = some v) : Q j v := by
  match j, h with
  | 0, h => simp only [lims, List.getElem?_cons_zero, Option.some.injEq] at h; exact h ▸ h0
  | 1, h => simp only [lims, List.getElem?_cons_zero, List.getElem?_cons_succ, Option.some.injEq] at h; exact h ▸ h1
  | 2, h => simp only [lims, List.getElem?_cons_zero, List.getElem?_cons_succ, Option.some.injEq] at h; exact h ▸ h2
  | 3, h => simp only [lims, List.getElem?_cons_zero, List.getElem?_cons_succ, Option.some.injEq] at h; exact h ▸ h3
  | j + 4, h => simp [lims] at h
theorem At.m {w : World} {b m : Nat} (h : At w b m) : ∀ (j : Nat) (v : Value), (lims m)[j]? = some v → w.cell? ⟨b, 0 + j, none⟩ = some v :=
  at_part h fun _j _v hj => lims_cases (Q := fun j v => (modc m)[0 + j]? = some v) rfl rfl rfl rfl hj
theorem At.one {w : World} {b m : Nat} (h : At w b m) : ∀ (j : Nat) (v : Value), (lims (R % m))[j]? = some v → w.cell? ⟨b, 5 + j, none⟩ = some v :=
  at_part h fun _j _v hj => lims_cases (Q := fun j v => (modc m)[5 + j]? = some v) rfl rfl rfl rfl hj
theorem At.two {w : World} {b m : Nat} (h : At w b m) : ∀ (j : Nat) (v : Value), (lims (R * R % m))[j]? = some v → w.cell? ⟨b, 9 + j, none⟩ = some v :=
  at_part h fun _j _v hj => lims_cases (Q := fun j v => (modc m)[9 + j]? = some v) rfl rfl rfl rfl hj
theorem At.neg {w : World} {b m : Nat} (h : At w b m) : w.cell? ⟨b, 4, none⟩ = some (.int .u64 (neg64 (lim m 0) : Nat)) := h 4 _ rfl
def ptr (b : Nat) : Value := .pointer (some ⟨b, 0, none⟩)
/-- what shrink makes of a number and what ran over. -/
theorem shrink_ok (b m n o : Nat) (hm : m < R) (hn : n < R) (ho : o = 0 ∨ o = 1) (w : World) (h : ∀ (j : Nat) (v : Value), (lims m)[j]? = some v → w.cell? ⟨b, 0 + j, none⟩ = some v) :
    Calls Tryd.prog 59 #[ptr b, N n, .int .u64 (o : Nat)] w fun e w' => e = .returned (N (if o = 0 ∧ n < m then n else dif n m)) ∧ Gw w w' := by
  have hs := fun w' => sub_ok n m hn hm w'
  rcases ho with rfl | rfl
  · by_cases hlt : n < m
    · rw [if_pos ⟨rfl, hlt⟩]
      exact shrink_01 b _ _ _ _ _ _ _ _ _ _ _ _ w h (fun w' _ => by have := hs w'; rw [if_pos hlt] at this; exact this)
    · rw [if_neg (fun c => hlt c.2)]
      exact shrink_00 b _ _ _ _ _ _ _ _ _ _ _ _ w h (fun w' _ => by have := hs w'; rw [if_neg hlt] at this; exact this)
  · rw [if_neg (fun c => by cases c.1)]
    by_cases hlt : n < m
    · exact shrink_11 b _ _ _ _ _ _ _ _ _ _ _ _ w h (fun w' _ => by have := hs w'; rw [if_pos hlt] at this; exact this)
    · exact shrink_10 b _ _ _ _ _ _ _ _ _ _ _ _ w h (fun w' _ => by have := hs w'; rw [if_neg hlt] at this; exact this)
theorem less_ok (n m : Nat) (hn : n < R) (hm : m < R) (w : World) : Calls Tryd.prog 52 #[N n, N m] w fun e w' => e = .returned (.bool (decide (n < m))) ∧ Gw w w' := by
  by_cases hlt : n < m
  · rw [decide_eq_true hlt]
    exact less_1 _ _ _ _ _ _ _ _ _ _ _ _ w (fun w' _ => by have := sub_ok n m hn hm w'; rw [if_pos hlt] at this; exact this)
  · rw [decide_eq_false hlt]
    exact less_0 _ _ _ _ _ _ _ _ _ _ _ _ w (fun w' _ => by have := sub_ok n m hn hm w'; rw [if_neg hlt] at this; exact this)
end Go.Proofs.YtbnfanmolphliaaDoor
