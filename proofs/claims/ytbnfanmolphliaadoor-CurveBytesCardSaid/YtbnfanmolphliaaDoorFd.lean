import Derived.Test.YtbnfanmolphliaaDoorFc
/-! Doubling and adding, by contract; small facts for the rest of the curve. -/
namespace Go.Proofs.YtbnfanmolphliaaDoor
open Go.RowKit Go.Toll TollMont
open TollEc (F pp cb Jp Pt jdouble jadd)
theorem double_ok {b : Nat} (p : Jp) (w : World) (ha : At w b pp) : Calls Tryd.prog 42 #[FV b, TF p] w fun e w' => e = .returned (TF (jdouble p)) ∧ Gw w w' := by
  by_cases hz : p.z = 0
  · rw [show jdouble p = ⟨0, 0, 0⟩ from if_pos (.inl hz)]; exact double_z p w ha hz
  · by_cases hy : p.y = 0
    · rw [show jdouble p = ⟨0, 0, 0⟩ from if_pos (.inr hy)]; exact double_y p w ha hz hy
    · have h := double_n p _ _ _ _ _ _ _ _ _ _ _ _ _ _ _ _ _ _ _ _ _ w ha hz hy rfl rfl rfl rfl rfl rfl rfl rfl rfl rfl rfl rfl rfl rfl rfl rfl rfl rfl rfl rfl rfl
      have e : jdouble p = _ := if_neg (fun c : p.z = 0 ∨ p.y = 0 => c.elim hz hy)
      rw [e]; exact h
theorem add_ok2 {b : Nat} (p q : Jp) (w : World) (ha : At w b pp) : Calls Tryd.prog 44 #[FV b, TF p, TF q] w fun e w' => e = .returned (TF (jadd p q)) ∧ Gw w w' := by
  by_cases hz : p.z = 0
  · rw [show jadd p q = q from if_pos hz]; exact add_p0 p q w ha hz
  · by_cases hw : q.z = 0
    · rw [show jadd p q = p from (if_neg hz).trans (if_pos hw)]; exact add_q0 p q w ha hz hw
    · by_cases hh : q.x * (p.z * p.z) - p.x * (q.z * q.z) = 0
      · by_cases hr : q.y * (p.z * (p.z * p.z)) - p.y * (q.z * (q.z * q.z)) = 0
        · rw [show jadd p q = jdouble p from (if_neg hz).trans ((if_neg hw).trans ((if_pos hh).trans (if_pos hr)))]
          exact add_dbl p q _ _ _ _ _ _ _ _ _ _ _ w ha hz hw rfl rfl rfl rfl rfl rfl rfl rfl rfl rfl hh hr (fun w' hw' => double_ok p w' (ha.gw hw'))
        · rw [show jadd p q = ⟨0, 0, 0⟩ from (if_neg hz).trans ((if_neg hw).trans ((if_pos hh).trans (if_neg hr)))]
          exact add_inf p q _ _ _ _ _ _ _ _ _ _ w ha hz hw rfl rfl rfl rfl rfl rfl rfl rfl rfl rfl hh hr
      · have h := add_n p q _ _ _ _ _ _ _ _ _ _ _ _ _ _ _ _ _ _ _ _ _ _ _ w ha hz hw rfl rfl rfl rfl rfl rfl rfl rfl rfl rfl rfl rfl rfl rfl rfl rfl rfl rfl rfl rfl rfl rfl rfl hh
        have e : jadd p q = _ := (if_neg hz).trans ((if_neg hw).trans (if_neg hh))
        rw [e]; exact h
theorem less_t {n : Nat} (hn : n < R) (h : n < pp) (w : World) : Calls Tryd.prog 52 #[N n, N pp] w fun e w' => e = .returned (.bool true) ∧ Gw w w' := by
  have := lessP n hn w; rw [decide_eq_true h] at this; exact this
theorem less_f {n : Nat} (hn : n < R) (h : ¬ n < pp) (w : World) : Calls Tryd.prog 52 #[N n, N pp] w fun e w' => e = .returned (.bool false) ∧ Gw w w' := by
  have := lessP n hn w; rw [decide_eq_false h] at this; exact this
theorem NF_1 : NF 1 = .agg #[.int .u64 1, .int .u64 0, .int .u64 0, .int .u64 0] := N_one
theorem NF_3 : NF 3 = .agg #[.int .u64 3, .int .u64 0, .int .u64 0, .int .u64 0] := N_small (k := 3) (by decide)
theorem subF3 {b : Nat} (x : F) (w : World) (ha : At w b pp) : Calls Tryd.prog 55 #[ptr b, NF x, .agg #[.int .u64 3, .int .u64 0, .int .u64 0, .int .u64 0]] w fun e w' => e = .returned (NF (x - 3)) ∧ Gw w w' := by
  have := subF x 3 w ha; rw [NF_3] at this; exact this
theorem built59_3 : Tryd.prog.built 59 [(0, .int .u64 3)] = some #[.int .u64 3, .int .u64 0, .int .u64 0, .int .u64 0] := by kernel_rfl
theorem built59_1 : Tryd.prog.built 59 [(0, .int .u64 1)] = some #[.int .u64 1, .int .u64 0, .int .u64 0, .int .u64 0] := by kernel_rfl
theorem built67_1 (x y : F) : Tryd.prog.built 67 [(0, NF x), (1, NF y), (2, .agg #[.int .u64 1, .int .u64 0, .int .u64 0, .int .u64 0])] = some #[.int .u64 (lv x 0 : Nat), .int .u64 (lv x 1 : Nat), .int .u64 (lv x 2 : Nat), .int .u64 (lv x 3 : Nat), .int .u64 (lv y 0 : Nat), .int .u64 (lv y 1 : Nat), .int .u64 (lv y 2 : Nat), .int .u64 (lv y 3 : Nat), .int .u64 (lv 1 0 : Nat), .int .u64 (lv 1 1 : Nat), .int .u64 (lv 1 2 : Nat), .int .u64 (lv 1 3 : Nat)] := by
  rw [← NF_1]; exact built67_3 x y 1
theorem built24_2 (x y : Nat) : Tryd.prog.built 24 [(0, B32 x), (1, B32 y)] = some #[.int .u8 (byt x 0 : Nat), .int .u8 (byt x 1 : Nat), .int .u8 (byt x 2 : Nat), .int .u8 (byt x 3 : Nat), .int .u8 (byt x 4 : Nat), .int .u8 (byt x 5 : Nat), .int .u8 (byt x 6 : Nat), .int .u8 (byt x 7 : Nat), .int .u8 (byt x 8 : Nat), .int .u8 (byt x 9 : Nat), .int .u8 (byt x 10 : Nat), .int .u8 (byt x 11 : Nat), .int .u8 (byt x 12 : Nat), .int .u8 (byt x 13 : Nat), .int .u8 (byt x 14 : Nat), .int .u8 (byt x 15 : Nat), .int .u8 (byt x 16 : Nat), .int .u8 (byt x 17 : Nat), .int .u8 (byt x 18 : Nat), .int .u8 (byt x 19 : Nat), .int .u8 (byt x 20 : Nat), .int .u8 (byt x 21 : Nat), .int .u8 (byt x 22 : Nat), .int .u8 (byt x 23 : Nat), .int .u8 (byt x 24 : Nat), .int .u8 (byt x 25 : Nat), .int .u8 (byt x 26 : Nat), .int .u8 (byt x 27 : Nat), .int .u8 (byt x 28 : Nat), .int .u8 (byt x 29 : Nat), .int .u8 (byt x 30 : Nat), .int .u8 (byt x 31 : Nat), .int .u8 (byt y 0 : Nat), .int .u8 (byt y 1 : Nat), .int .u8 (byt y 2 : Nat), .int .u8 (byt y 3 : Nat), .int .u8 (byt y 4 : Nat), .int .u8 (byt y 5 : Nat), .int .u8 (byt y 6 : Nat), .int .u8 (byt y 7 : Nat), .int .u8 (byt y 8 : Nat), .int .u8 (byt y 9 : Nat), .int .u8 (byt y 10 : Nat), .int .u8 (byt y 11 : Nat), .int .u8 (byt y 12 : Nat), .int .u8 (byt y 13 : Nat), .int .u8 (byt y 14 : Nat), .int .u8 (byt y 15 : Nat), .int .u8 (byt y 16 : Nat), .int .u8 (byt y 17 : Nat), .int .u8 (byt y 18 : Nat), .int .u8 (byt y 19 : Nat), .int .u8 (byt y 20 : Nat), .int .u8 (byt y 21 : Nat), .int .u8 (byt y 22 : Nat), .int .u8 (byt y 23 : Nat), .int .u8 (byt y 24 : Nat), .int .u8 (byt y 25 : Nat), .int .u8 (byt y 26 : Nat), .int .u8 (byt y 27 : Nat), .int .u8 (byt y 28 : Nat), .int .u8 (byt y 29 : Nat), .int .u8 (byt y 30 : Nat), .int .u8 (byt y 31 : Nat)] := by kernel_rfl
theorem built62 (g : Nat) : Tryd.prog.built 62 [(0, .pointer (some ⟨g, 0, none⟩))] = some #[.pointer (some ⟨g, 0, none⟩)] := by kernel_rfl
theorem unV_map (l : List Value) : unV (l.map SV.v) = some l := by
  induction l with
  | nil => rfl
  | cons a l ih => simp only [List.map_cons, unV, ih]
theorem at_own {w0 w : World} {s : VS} {rd : List Nat} {ρ : Nat → Nat} {id ty m : Nat} (hs : Sees w0 s rd ρ w) (hid : id ∈ rd) (hm : s.mem id = some ((modc m).map SV.v, ty)) : At w (ρ id) m :=
  sees_cells hs hid hm 0 (modc m) (by rw [List.drop_zero]; show unV (((modc m).map SV.v).take (modc m).length) = _; rw [List.take_of_length_le (by simp)]; exact unV_map _)
end Go.Proofs.YtbnfanmolphliaaDoor
