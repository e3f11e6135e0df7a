/- MontBytes returns true for every input, and its arguments read as before; no condition. -/
import Derived.Test.YtcbddldodpdikaaLc
import Derived.Test.YtcbddldodpdikaaRk
import Derived.Test.YtcbddldodpdikaaRows
namespace Go.Proofs.Ytcbddldodpdikaa
open Go.ChangeShapes Go.WideShapes Go.ChangeAt Go.RowKit Go.Toll
open TollMont (W R lim lim_of v4 v4_lt)
theorem Try.own : ownKnob Try.prog.godebug = none := by kernel_rfl
theorem cells24 : Try.prog.cellsOf 24 = 4 := by kernel_rfl
theorem cells22 : Try.prog.cellsOf 22 = 1 := by kernel_rfl
/-- four words are a number. -/
theorem num_of {a b c d : Nat} (ha : a < W) (hb : b < W) (hc : c < W) (hd : d < W) : ∃ n, n < R ∧ N n = .agg #[.int .u64 (a : Nat), .int .u64 (b : Nat), .int .u64 (c : Nat), .int .u64 (d : Nat)] := by
  obtain ⟨h0, h1, h2, h3, _⟩ := lim_of a b c d 0 ha hb hc hd
  refine ⟨v4 a b c d, v4_lt ha hb hc hd, ?_⟩
  simp only [Nat.mul_zero, Nat.add_zero] at h0 h1 h2 h3
  unfold N v4
  rw [h0, h1, h2, h3]
theorem open_num {H : Type} {enc : TypeId × Value → H} {w : World} {base : Nat} {sp : Nat → Bool} {held : Bool} {r : Reach} {b0 : Nat} {v : Value} {d : DataW H} {ps : List MemPlace}
    (hv : Value.okWide Try.prog w r b0 24 v) (hd : DataW.Trod enc Try.prog w base sp held 24 v d ps) :
    ∃ n, n < R ∧ v = N n ∧ ps = [] ∧ ∀ (w' : World) (b' : Nat) (sp' : Nat → Bool) (h' : Bool), DataW.Trod enc Try.prog w' b' sp' h' 24 (N n) d [] := by
  obtain ⟨zs, hl, rfl, rfl, rfl, hw⟩ := open_ints Try.underlying24 Try.underlying22 cells22 cells24 hv hd
  have hs := fun (w' : World) (b' : Nat) (sp' : Nat → Bool) (h' : Bool) => shut_ints (enc := enc) (w := w') (base := b') (sp := sp') (held := h') Try.underlying24 Try.underlying22 cells22 cells24 hl hw
  obtain ⟨z0, z1, z2, z3, rfl⟩ := list4 hl
  obtain ⟨n0, rfl, l0⟩ := word_of (hw z0 (by simp))
  obtain ⟨n1, rfl, l1⟩ := word_of (hw z1 (by simp))
  obtain ⟨n2, rfl, l2⟩ := word_of (hw z2 (by simp))
  obtain ⟨n3, rfl, l3⟩ := word_of (hw z3 (by simp))
  obtain ⟨n, hn, he⟩ := num_of l0 l1 l2 l3
  exact ⟨n, hn, he.symm, rfl, fun w' b' sp' h' => by rw [he]; exact hs w' b' sp' h'⟩
theorem cells5 : Try.prog.cellsOf 5 = 1 := by kernel_rfl
theorem cells39 : Try.prog.cellsOf 39 = 32 := by kernel_rfl
theorem cons_of {α : Type} {n : Nat} {l : List α} (h : l.length = n + 1) : ∃ a t, l = a :: t ∧ t.length = n := by
  cases l with
  | nil => cases h
  | cons a t => exact ⟨a, t, rfl, by simpa using h⟩
theorem byte_cons {n : Nat} {l : List Int} (h : l.length = n + 1) (hw : ∀ z ∈ l, (Lit.int .u8 z).wf = true) : ∃ (b : Nat) (t : List Int), l = (b : Int) :: t ∧ b < 256 ∧ t.length = n ∧ ∀ z ∈ t, (Lit.int .u8 z).wf = true := by
  obtain ⟨a, t, rfl, ht⟩ := cons_of h
  obtain ⟨b, rfl, hb⟩ := byte_of (hw a (by simp))
  exact ⟨b, t, rfl, hb, ht, fun z hz => hw z (by simp [hz])⟩
theorem bytes32 {l : List Int} (h : l.length = 32) (hw : ∀ z ∈ l, (Lit.int .u8 z).wf = true) : ∃ b0 b1 b2 b3 b4 b5 b6 b7 b8 b9 b10 b11 b12 b13 b14 b15 b16 b17 b18 b19 b20 b21 b22 b23 b24 b25 b26 b27 b28 b29 b30 b31 : Nat, l = [(b0 : Int), (b1 : Int), (b2 : Int), (b3 : Int), (b4 : Int), (b5 : Int), (b6 : Int), (b7 : Int), (b8 : Int), (b9 : Int), (b10 : Int), (b11 : Int), (b12 : Int), (b13 : Int), (b14 : Int), (b15 : Int), (b16 : Int), (b17 : Int), (b18 : Int), (b19 : Int), (b20 : Int), (b21 : Int), (b22 : Int), (b23 : Int), (b24 : Int), (b25 : Int), (b26 : Int), (b27 : Int), (b28 : Int), (b29 : Int), (b30 : Int), (b31 : Int)] ∧ b0 < 256 ∧ b1 < 256 ∧ b2 < 256 ∧ b3 < 256 ∧ b4 < 256 ∧ b5 < 256 ∧ b6 < 256 ∧ b7 < 256 ∧ b8 < 256 ∧ b9 < 256 ∧ b10 < 256 ∧ b11 < 256 ∧ b12 < 256 ∧ b13 < 256 ∧ b14 < 256 ∧ b15 < 256 ∧ b16 < 256 ∧ b17 < 256 ∧ b18 < 256 ∧ b19 < 256 ∧ b20 < 256 ∧ b21 < 256 ∧ b22 < 256 ∧ b23 < 256 ∧ b24 < 256 ∧ b25 < 256 ∧ b26 < 256 ∧ b27 < 256 ∧ b28 < 256 ∧ b29 < 256 ∧ b30 < 256 ∧ b31 < 256 := by
  obtain ⟨b0, t0, e0, l0, h, hw⟩ := byte_cons h hw
  obtain ⟨b1, t1, e1, l1, h, hw⟩ := byte_cons h hw
  obtain ⟨b2, t2, e2, l2, h, hw⟩ := byte_cons h hw
  obtain ⟨b3, t3, e3, l3, h, hw⟩ := byte_cons h hw
  obtain ⟨b4, t4, e4, l4, h, hw⟩ := byte_cons h hw
  obtain ⟨b5, t5, e5, l5, h, hw⟩ := byte_cons h hw
  obtain ⟨b6, t6, e6, l6, h, hw⟩ := byte_cons h hw
  obtain ⟨b7, t7, e7, l7, h, hw⟩ := byte_cons h hw
  obtain ⟨b8, t8, e8, l8, h, hw⟩ := byte_cons h hw
  obtain ⟨b9, t9, e9, l9, h, hw⟩ := byte_cons h hw
  obtain ⟨b10, t10, e10, l10, h, hw⟩ := byte_cons h hw
  obtain ⟨b11, t11, e11, l11, h, hw⟩ := byte_cons h hw
  obtain ⟨b12, t12, e12, l12, h, hw⟩ := byte_cons h hw
  obtain ⟨b13, t13, e13, l13, h, hw⟩ := byte_cons h hw
  obtain ⟨b14, t14, e14, l14, h, hw⟩ := byte_cons h hw
  obtain ⟨b15, t15, e15, l15, h, hw⟩ := byte_cons h hw
  obtain ⟨b16, t16, e16, l16, h, hw⟩ := byte_cons h hw
  obtain ⟨b17, t17, e17, l17, h, hw⟩ := byte_cons h hw
  obtain ⟨b18, t18, e18, l18, h, hw⟩ := byte_cons h hw
  obtain ⟨b19, t19, e19, l19, h, hw⟩ := byte_cons h hw
  obtain ⟨b20, t20, e20, l20, h, hw⟩ := byte_cons h hw
  obtain ⟨b21, t21, e21, l21, h, hw⟩ := byte_cons h hw
  obtain ⟨b22, t22, e22, l22, h, hw⟩ := byte_cons h hw
  obtain ⟨b23, t23, e23, l23, h, hw⟩ := byte_cons h hw
  obtain ⟨b24, t24, e24, l24, h, hw⟩ := byte_cons h hw
  obtain ⟨b25, t25, e25, l25, h, hw⟩ := byte_cons h hw
  obtain ⟨b26, t26, e26, l26, h, hw⟩ := byte_cons h hw
  obtain ⟨b27, t27, e27, l27, h, hw⟩ := byte_cons h hw
  obtain ⟨b28, t28, e28, l28, h, hw⟩ := byte_cons h hw
  obtain ⟨b29, t29, e29, l29, h, hw⟩ := byte_cons h hw
  obtain ⟨b30, t30, e30, l30, h, hw⟩ := byte_cons h hw
  obtain ⟨b31, t31, e31, l31, h, hw⟩ := byte_cons h hw
  obtain rfl : t31 = [] := List.length_eq_zero_iff.1 h
  subst e31 e30 e29 e28 e27 e26 e25 e24 e23 e22 e21 e20 e19 e18 e17 e16 e15 e14 e13 e12 e11 e10 e9 e8 e7 e6 e5 e4 e3 e2 e1 e0
  exact ⟨b0, b1, b2, b3, b4, b5, b6, b7, b8, b9, b10, b11, b12, b13, b14, b15, b16, b17, b18, b19, b20, b21, b22, b23, b24, b25, b26, b27, b28, b29, b30, b31, rfl, l0, l1, l2, l3, l4, l5, l6, l7, l8, l9, l10, l11, l12, l13, l14, l15, l16, l17, l18, l19, l20, l21, l22, l23, l24, l25, l26, l27, l28, l29, l30, l31⟩

set_option maxRecDepth 100000 in
theorem montBytes_lifted (os : Os) (started : os.Started) (H : Type) (enc : TypeId × Value → H) :
    ReturnsInHanded {} Try.checked os 7 .any (Rows.montBytesSpec.pre6 enc Try.prog Try.f7 Rows.montBytesRow.domain false) (Rows.montBytesSpec.post enc Try.prog Try.f7 false true false false) := by
  refine returnsInHanded_of_change (C := Try.checked) Try.own started (by kernel_rfl) Try.func7
    (ChangeSpec.witness6 (enc := enc) (C := Try.checked) false ⟨#[], #[.agg #[.int .u8 0, .int .u8 0, .int .u8 0, .int .u8 0, .int .u8 0, .int .u8 0, .int .u8 0, .int .u8 0, .int .u8 0, .int .u8 0, .int .u8 0, .int .u8 0, .int .u8 0, .int .u8 0, .int .u8 0, .int .u8 0, .int .u8 0, .int .u8 0, .int .u8 0, .int .u8 0, .int .u8 0, .int .u8 0, .int .u8 0, .int .u8 0, .int .u8 0, .int .u8 0, .int .u8 0, .int .u8 0, .int .u8 0, .int .u8 0, .int .u8 0, .int .u8 0], .agg #[.int .u64 0, .int .u64 0, .int .u64 0, .int .u64 0], .int .i64 0], []⟩ 8 (by kernel_rfl) (by kernel_rfl) (by kernel_rfl) (by kernel_rfl)) ?_
  intro W base args ds gs before hval0 hW hcnd _
  have hval : ∀ (j : Nat) t v, Try.f7.params[j]? = some t → args[j]? = some v → Value.okWide Try.prog W .any base t v := hval0
  have hW' := hW
  obtain ⟨p, q, hA0, hV, rfl, hfz, hnd⟩ := hW
  have hA : DataW.TrodAll enc Try.prog W 0 (fun _ => true) true Try.f7.params.toList args.toList ds p := hA0
  rw [Try.params7] at hA hval
  obtain ⟨v0, v1, v2, d0, d1, d2, p0, p1, p2, rfl, rfl, rfl, h0, h1, h2⟩ := trodAll_three hA
  obtain ⟨rfl, rfl⟩ := trodVars_none hV
  obtain ⟨zs, hl, rfl, rfl, rfl, hw⟩ := open_ints Try.underlying39 Try.underlying5 cells5 cells39 (hval 0 39 v0 rfl rfl) h0
  have s0 := fun (w' : World) (b' : Nat) (sp' : Nat → Bool) (h' : Bool) => shut_ints (enc := enc) (w := w') (base := b') (sp := sp') (held := h') Try.underlying39 Try.underlying5 cells5 cells39 hl hw
  obtain ⟨b0, b1, b2, b3, b4, b5, b6, b7, b8, b9, b10, b11, b12, b13, b14, b15, b16, b17, b18, b19, b20, b21, b22, b23, b24, b25, b26, b27, b28, b29, b30, b31, rfl, g0, g1, g2, g3, g4, g5, g6, g7, g8, g9, g10, g11, g12, g13, g14, g15, g16, g17, g18, g19, g20, g21, g22, g23, g24, g25, g26, g27, g28, g29, g30, g31⟩ := bytes32 hl hw
  obtain ⟨m, l1, rfl, rfl, s1⟩ := open_num (hval 1 24 v1 rfl rfl) h1
  obtain ⟨i, rfl, rfl, rfl, w2⟩ := open_int Try.underlying3 (hval 2 3 v2 rfl rfl) h2
  clear hA0 hval0
  simp only [List.append_nil] at hW'
  refine (bytes_law g0 g1 g2 g3 g4 g5 g6 g7 g8 g9 g10 g11 g12 g13 g14 g15 g16 g17 g18 g19 g20 g21 g22 g23 g24 g25 g26 g27 g28 g29 g30 g31 l1 i W).mono fun e W' ⟨he, hg⟩ => ?_
  subst he
  exact ⟨_, rfl, post_of_same (pa := []) (pv := []) hW' (fun _ _ _ => trodAll_mk1 (shut_bool Try.underlying4 _)) (fun sp _ => trodAll_mk3 (s0 W' _ sp _) (s1 W' _ sp _) (shut_int Try.underlying3 w2)) (fun _ _ => rfl) rfl
    (hg.b.frame _) hg.f (ok_one (by kernel_rfl) rfl (okWide_bool_mk Try.underlying4 _))⟩

theorem montBytes_holds : Rows.MontBytesSaid :=
  OpenClaim.holds_of_wide 7 Try.f7 rfl rfl rfl rfl rfl rfl rfl ⟨rfl, rfl, rfl, rfl, rfl⟩ rfl rfl rfl rfl rfl (by kernel_rfl) Try.func7 (by kernel_rfl)
    (of_decide_eq_true (by kernel_rfl)) (by unfold Func.isWrapper; first | (rw [if_pos (by decide +kernel)]; kernel_rfl) | (rw [if_neg (by decide +kernel)]; exact ⟨rfl, rfl⟩))
    (fun os started H enc _ => montBytes_lifted os started H enc)
#print axioms montBytes_holds
end Go.Proofs.Ytcbddldodpdikaa
