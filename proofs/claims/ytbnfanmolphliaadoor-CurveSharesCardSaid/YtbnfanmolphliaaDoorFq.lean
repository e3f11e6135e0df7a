import Derived.Test.YtbnfanmolphliaaDoorFp
import Derived.Test.YtbnfanmolphliaaDoorRb
/-! Any bytes through Read; the law Shares. -/
namespace Go.Proofs.YtbnfanmolphliaaDoor
open Go.RowKit Go.Vx TollMont
open Go.Toll (Gw)
open TollEc (F pp cb Jp Pt smul add base nn neg)
set_option maxHeartbeats 4000000
set_option maxRecDepth 100000
theorem l32_of {zs : List Int} (h : zs.length = 32) (hw : ∀ z ∈ zs, (Lit.int .u8 z).wf = true) : ∃ n, n < R ∧ zs.map (Value.int .u8) = l32 n := by
  obtain ⟨b0, b1, b2, b3, b4, b5, b6, b7, b8, b9, b10, b11, b12, b13, b14, b15, b16, b17, b18, b19, b20, b21, b22, b23, b24, b25, b26, b27, b28, b29, b30, b31, rfl, l0, l1, l2, l3, l4, l5, l6, l7, l8, l9, l10, l11, l12, l13, l14, l15, l16, l17, l18, l19, l20, l21, l22, l23, l24, l25, l26, l27, l28, l29, l30, l31⟩ := bytes32 h hw
  obtain ⟨_, _, _, _, hR⟩ := num_parts l0 l1 l2 l3 l4 l5 l6 l7 l8 l9 l10 l11 l12 l13 l14 l15 l16 l17 l18 l19 l20 l21 l22 l23 l24 l25 l26 l27 l28 l29 l30 l31
  refine ⟨num32 b0 b1 b2 b3 b4 b5 b6 b7 b8 b9 b10 b11 b12 b13 b14 b15 b16 b17 b18 b19 b20 b21 b22 b23 b24 b25 b26 b27 b28 b29 b30 b31, hR, ?_⟩
  have := congrArg (fun v : Value => v.cells.toList) (b32_num l0 l1 l2 l3 l4 l5 l6 l7 l8 l9 l10 l11 l12 l13 l14 l15 l16 l17 l18 l19 l20 l21 l22 l23 l24 l25 l26 l27 l28 l29 l30 l31)
  exact this.symm
theorem read_any {w : World} {v : Value} {n : Nat} {zs : List Int} {S : Nat → Prop} (hv : SlAt w v n 1 (zs.map (Value.int .u8)) S) (hw : ∀ z ∈ zs, (Lit.int .u8 z).wf = true) (hL : Laid w) :
    JE w v ∨ ∃ x y, JO w v x y := by
  by_cases hn : n = 65
  · subst hn
    have hlen : zs.length = 65 := by obtain ⟨_, _, _, _, h, _⟩ := hv; simpa using h
    obtain ⟨b, t, rfl, hb, ht, hwt⟩ := byte_cons hlen hw
    by_cases h4 : b = 4
    · subst h4
      have e : t = t.take 32 ++ t.drop 32 := (List.take_append_drop 32 t).symm
      obtain ⟨x, hx, ex⟩ := l32_of (zs := t.take 32) (by simp; omega) (fun z hz => hwt z (List.mem_of_mem_take hz))
      obtain ⟨y, hy, ey⟩ := l32_of (zs := t.drop 32) (by simp; omega) (fun z hz => hwt z (List.mem_of_mem_drop hz))
      have el : (((4 : Nat) : Int) :: t).map (Value.int .u8) = wb x y := by
        rw [e, List.map_cons, List.map_append, ex, ey]; rfl
      rw [el] at hv
      cases ho : onB x y with
      | true => exact .inr ⟨x, y, fun w' hb => read_on hx hy w' (hL.bw hb) (sl_bw hv hb) ho⟩
      | false => exact .inl fun w' hb => read_off hx hy w' (hL.bw hb) (sl_bw hv hb) ho
    · exact .inl fun w' hb' => read_tag w' (hL.bw hb') (sl_bw hv hb') h4
  · exact .inl fun w' hb => read_len w' (hL.bw hb) (sl_bw hv hb) hn
theorem sec_inf {a : Nat} (h : sec a = true) : smul a base ≠ .inf := fun c => by
  have h1 := of_decide_eq_true h
  have h2 := TollEc.smul_eq_inf c
  have := Nat.le_of_dvd (by omega) h2
  omega
theorem shares_law {a b : Nat} (hA : a < R) (hB : b < R) {v : Value} {n : Nat} {zs : List Int} {S : Nat → Prop} {w : World} (hv : SlAt w v n 1 (zs.map (Value.int .u8)) S) (hw : ∀ z ∈ zs, (Lit.int .u8 z).wf = true) (hL : Laid w) : Calls Tryd.prog 9 #[B32 a, B32 b, v] w fun e w' => e = .returned (.bool true) ∧ Bw w w' := by
  have op := TollEc.smul_on TollEc.base_on a
  have oq := TollEc.smul_on TollEc.base_on b
  cases ha : sec a with
  | false =>
    cases hb : sec b with
    | true => exact shares_at hA hB w hL ha hb rfl oq
    | false => exact shares_af hA hB w hL ha hb
  | true =>
    cases hb : sec b with
    | true =>
      rcases read_any hv hw hL with h | ⟨x, y, h⟩
      · exact shares_bte hA hB w hL ha hb h rfl op (sec_inf ha) rfl oq (sec_inf hb) rfl (TollEc.smul_comm TollEc.base_on _ _)
      · exact shares_bto hA hB w hL ha hb h rfl op (sec_inf ha) rfl oq (sec_inf hb) rfl (TollEc.smul_comm TollEc.base_on _ _)
    | false =>
      rcases read_any hv hw hL with h | ⟨x, y, h⟩
      · exact shares_bfe hA hB w hL ha hb h rfl op
      · exact shares_bfo hA hB w hL ha hb h rfl op
end Go.Proofs.YtbnfanmolphliaaDoor
