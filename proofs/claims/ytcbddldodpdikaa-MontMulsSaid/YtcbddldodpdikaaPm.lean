/- MontMuls returns true for every input, and its arguments read as before; no condition. -/
import Derived.Test.YtcbddldodpdikaaLa
import Derived.Test.YtcbddldodpdikaaRk
import Derived.Test.YtcbddldodpdikaaRows
namespace Go.Proofs.Ytcbddldodpdikaa
open Go.ChangeShapes Go.WideShapes Go.ChangeAt Go.RowKit Go.Toll
open TollMont (W R lim lim_of v4 v4_lt)
theorem Try.own : ownKnob Try.prog.godebug = none := by kernel_rfl
theorem cells24 : Try.prog.cellsOf 24 = 4 := by kernel_rfl
theorem cells22 : Try.prog.cellsOf 22 = 1 := by kernel_rfl
/-- four words are a number. -/
theorem num_of {a b c d : Nat} (ha : a < W) (hb : b < W) (hc : c < W) (hd : d < W) : ∃ n, n < R ∧ N n = .agg #[.int .u64 (a : Nat), .int .u64 (b : Nat), .int .u64 (c : Nat), .int .u64 (d : Nat)] := by
  obtain ⟨h0, h1, h2, h3, _⟩ := lim_of a b c d 0 ha hb hc hd
  refine ⟨v4 a b c d, v4_lt ha hb hc hd, ?_⟩
  simp only [Nat.mul_zero, Nat.add_zero] at h0 h1 h2 h3
  unfold N v4
  rw [h0, h1, h2, h3]
theorem open_num {H : Type} {enc : TypeId × Value → H} {w : World} {base : Nat} {sp : Nat → Bool} {held : Bool} {r : Reach} {b0 : Nat} {v : Value} {d : DataW H} {ps : List MemPlace}
    (hv : Value.okWide Try.prog w r b0 24 v) (hd : DataW.Trod enc Try.prog w base sp held 24 v d ps) :
    ∃ n, n < R ∧ v = N n ∧ ps = [] ∧ ∀ (w' : World) (b' : Nat) (sp' : Nat → Bool) (h' : Bool), DataW.Trod enc Try.prog w' b' sp' h' 24 (N n) d [] := by
  obtain ⟨zs, hl, rfl, rfl, rfl, hw⟩ := open_ints Try.underlying24 Try.underlying22 cells22 cells24 hv hd
  have hs := fun (w' : World) (b' : Nat) (sp' : Nat → Bool) (h' : Bool) => shut_ints (enc := enc) (w := w') (base := b') (sp := sp') (held := h') Try.underlying24 Try.underlying22 cells22 cells24 hl hw
  obtain ⟨z0, z1, z2, z3, rfl⟩ := list4 hl
  obtain ⟨n0, rfl, l0⟩ := word_of (hw z0 (by simp))
  obtain ⟨n1, rfl, l1⟩ := word_of (hw z1 (by simp))
  obtain ⟨n2, rfl, l2⟩ := word_of (hw z2 (by simp))
  obtain ⟨n3, rfl, l3⟩ := word_of (hw z3 (by simp))
  obtain ⟨n, hn, he⟩ := num_of l0 l1 l2 l3
  exact ⟨n, hn, he.symm, rfl, fun w' b' sp' h' => by rw [he]; exact hs w' b' sp' h'⟩

set_option maxRecDepth 100000 in
theorem montMuls_lifted (os : Os) (started : os.Started) (H : Type) (enc : TypeId × Value → H) :
    ReturnsInHanded {} Try.checked os 3 .any (Rows.montMulsSpec.pre6 enc Try.prog Try.f3 Rows.montMulsRow.domain false) (Rows.montMulsSpec.post enc Try.prog Try.f3 false true false false) := by
  refine returnsInHanded_of_change (C := Try.checked) Try.own started (by kernel_rfl) Try.func3
    (ChangeSpec.witness6 (enc := enc) (C := Try.checked) false ⟨#[], #[.agg #[.int .u64 0, .int .u64 0, .int .u64 0, .int .u64 0], .agg #[.int .u64 0, .int .u64 0, .int .u64 0, .int .u64 0], .agg #[.int .u64 0, .int .u64 0, .int .u64 0, .int .u64 0]], []⟩ 8 (by kernel_rfl) (by kernel_rfl) (by kernel_rfl) (by kernel_rfl)) ?_
  intro W base args ds gs before hval0 hW hcnd _
  have hval : ∀ (j : Nat) t v, Try.f3.params[j]? = some t → args[j]? = some v → Value.okWide Try.prog W .any base t v := hval0
  have hW' := hW
  obtain ⟨p, q, hA0, hV, rfl, hfz, hnd⟩ := hW
  have hA : DataW.TrodAll enc Try.prog W 0 (fun _ => true) true Try.f3.params.toList args.toList ds p := hA0
  rw [Try.params3] at hA hval
  obtain ⟨v0, v1, v2, d0, d1, d2, p0, p1, p2, rfl, rfl, rfl, h0, h1, h2⟩ := trodAll_three hA
  obtain ⟨rfl, rfl⟩ := trodVars_none hV
  obtain ⟨m, l0, rfl, rfl, s0⟩ := open_num (hval 0 24 v0 rfl rfl) h0
  obtain ⟨x, l1, rfl, rfl, s1⟩ := open_num (hval 1 24 v1 rfl rfl) h1
  obtain ⟨y, l2, rfl, rfl, s2⟩ := open_num (hval 2 24 v2 rfl rfl) h2
  clear hA0 hval0
  simp only [List.append_nil] at hW'
  refine (muls_law l0 l1 l2 W).mono fun e W' ⟨he, hg⟩ => ?_
  subst he
  exact ⟨_, rfl, post_of_same (pa := []) (pv := []) hW' (fun _ _ _ => trodAll_mk1 (shut_bool Try.underlying4 _)) (fun sp _ => trodAll_mk3 (s0 W' _ sp _) (s1 W' _ sp _) (s2 W' _ sp _)) (fun _ _ => rfl) rfl
    (hg.b.frame _) hg.f (ok_one (by kernel_rfl) rfl (okWide_bool_mk Try.underlying4 _))⟩

theorem montMuls_holds : Rows.MontMulsSaid :=
  OpenClaim.holds_of_wide 3 Try.f3 rfl rfl rfl rfl rfl rfl rfl ⟨rfl, rfl, rfl, rfl, rfl⟩ rfl rfl rfl rfl rfl (by kernel_rfl) Try.func3 (by kernel_rfl)
    (of_decide_eq_true (by kernel_rfl)) (by unfold Func.isWrapper; first | (rw [if_pos (by decide +kernel)]; kernel_rfl) | (rw [if_neg (by decide +kernel)]; exact ⟨rfl, rfl⟩))
    (fun os started H enc _ => montMuls_lifted os started H enc)
#print axioms montMuls_holds
end Go.Proofs.Ytcbddldodpdikaa
