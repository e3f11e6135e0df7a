/- CurveAdds returns true for every input, and its arguments read as before: the card, its five variables tied to the program's text (a pruned copy of the project; nothing is said of its other packages). -/
import Derived.Test.YtbnfanmolphliaaDoorFn
import Derived.Test.YtbnfanmolphliaaDoorRa
import Derived.Test.YtbnfanmolphliaaDoorCards
import Derived.Test.YtbnfanmolphliaaDoorTie
import Derived.SevenTiedAt
namespace Go.Proofs.YtbnfanmolphliaaDoor
open Go.ChangeShapes Go.WideShapes Go.ChangeAt Go.RowKit Go.Toll
open TollMont (R)
theorem u16_of {z : Int} (h : (Lit.int .u16 z).wf = true) : ∃ n : Nat, z = n ∧ n < 65536 := by
  simp [Lit.wf, IntKind.min, IntKind.max, IntKind.bits, IntKind.signed] at h
  exact ⟨z.toNat, by omega, by omega⟩
set_option maxRecDepth 100000 in
theorem curveAdds_lifted (os : Os) (started : os.Started) (H : Type) (enc : TypeId × Value → H) :
    ReturnsInHanded {} Tryd.checked os 4 .any (fun w args => (Rows.curveAddsSpec.pre enc Tryd.prog Tryd.f4 [] false w args ∧ laidMetH Tryd.prog laidList w) ∧ sizedMet enc Tryd.prog Tryd.f4 (OpenSpec.ofChange Rows.curveAddsSpec) false w args)
      (Rows.curveAddsSpec.post enc Tryd.prog Tryd.f4 false true false false) := by
  refine returnsInHanded_of_change_and (C := Tryd.checked) (X := fun w _ => laidMetH Tryd.prog laidList w) (fun _ _ _ hh h => h.of_heap hh) Tryd.own started (by kernel_rfl) Tryd.func4
    (ChangeSpec.witness_shaped (enc := enc) (C := Tryd.checked) (os := os) (X := fun w _ => laidMetH Tryd.prog laidList w) false (World.doorLaid Tryd.prog 34 os) #[.int .u16 0, .int .u16 0, .int .i64 0] 8 rfl (World.shaped_of_RefB (by kernel_rfl) (by kernel_rfl)) (by kernel_rfl) (by kernel_rfl) (by kernel_rfl) (door_met os _)) ?_
  intro W base args ds gs before hval0 hW _ _ hL _
  have hval : ∀ (j : Nat) t v, Tryd.f4.params[j]? = some t → args[j]? = some v → Value.okWide Tryd.prog W .any base t v := hval0
  have hW' := hW
  obtain ⟨p, q, hA0, hV, rfl, hfz, hnd⟩ := hW
  have hA : DataW.TrodAll enc Tryd.prog W 0 (fun _ => true) true Tryd.f4.params.toList args.toList ds p := hA0
  rw [Tryd.params4] at hA hval
  obtain ⟨v0, v1, v2, d0, d1, d2, p0, p1, p2, rfl, rfl, rfl, h0, h1, h2⟩ := trodAll_three hA
  obtain ⟨rfl, rfl⟩ := trodVars_none hV
  obtain ⟨z0, rfl, rfl, rfl, w0⟩ := open_int Tryd.underlying36 (hval 0 36 v0 rfl rfl) h0
  have s0 := fun (w' : World) (b' : Nat) (sp' : Nat → Bool) (h' : Bool) => shut_int (enc := enc) (w := w') (base := b') (spare := sp') (held := h') Tryd.underlying36 w0
  obtain ⟨z1, rfl, rfl, rfl, w1⟩ := open_int Tryd.underlying36 (hval 1 36 v1 rfl rfl) h1
  have s1 := fun (w' : World) (b' : Nat) (sp' : Nat → Bool) (h' : Bool) => shut_int (enc := enc) (w := w') (base := b') (spare := sp') (held := h') Tryd.underlying36 w1
  obtain ⟨k, rfl, rfl, rfl, w2⟩ := open_int Tryd.underlying3 (hval 2 3 v2 rfl rfl) h2
  have s2 := fun (w' : World) (b' : Nat) (sp' : Nat → Bool) (h' : Bool) => shut_int (enc := enc) (w := w') (base := b') (spare := sp') (held := h') Tryd.underlying3 w2
  obtain ⟨n, rfl, l0⟩ := u16_of w0
  obtain ⟨m, rfl, l1⟩ := u16_of w1
  clear hA0 hval0
  simp only [List.append_nil] at hW'
  refine (adds_law l0 l1 W (of_laid hL)).mono fun e W' ⟨he, hg⟩ => ?_
  subst he
  exact ⟨_, rfl, post_of_same (pa := []) (pv := []) hW' (fun _ _ _ => trodAll_mk1 (shut_bool Tryd.underlying4 _)) (fun sp _ => trodAll_mk3 (s0 W' _ sp _) (s1 W' _ sp _) (s2 W' _ sp _)) (fun _ _ => rfl) rfl
    (hg.b.frame _) hg.f (ok_one (by kernel_rfl) rfl (okWide_bool_mk Tryd.underlying4 _))⟩
theorem curveAdds_holds : Rows.CurveAddsSaid :=
  OpenClaim.holds_of_wide 4 Tryd.f4 rfl rfl rfl rfl rfl rfl rfl ⟨rfl, rfl, rfl, rfl, rfl⟩ rfl rfl rfl rfl rfl (by kernel_rfl) Tryd.func4 (by kernel_rfl)
    (of_decide_eq_true (by kernel_rfl)) (by unfold Func.isWrapper; first | (rw [if_pos (by decide +kernel)]; kernel_rfl) | (rw [if_neg (by decide +kernel)]; exact ⟨rfl, rfl⟩))
    (fun os started H enc _ => curveAdds_lifted os started H enc)
theorem curveAdds_card : Rows.CurveAddsCardSaid :=
  Claim7.holds_tied_plain_at .later [] [.data, .wider, .data, .wider, .wider] true (true, "49db476e7988770a065185f4199c94725516cfc0e9eeba9095d838e800402326") false
    curveAdds_holds (fun _ h => by cases h) (by kernel_rfl) (fun _ h => by cases h) curveAdds_row_tie rfl ⟨rfl, rfl⟩ (by kernel_rfl) rfl
    (fun f fn hf hfn => by
      obtain rfl : f = 4 := Option.some.inj ((show Tryd.prog.funcNamed "tollgate/tollgatelaw07.CurveAdds" = some 4 by kernel_rfl).symm.trans hf) |>.symm
      obtain rfl : fn = Tryd.f4 := (Option.some.inj (Tryd.func4.symm.trans hfn)).symm
      exact ⟨by kernel_rfl, fun j t ht => by
        rw [Tryd.params4] at ht
        have hm : t ∈ [36, 36, 3] := by simpa using Array.mem_of_getElem? ht
        have hall : ([36, 36, 3].all fun u => !Tryd.prog.wantsStandIn u) = true := by kernel_rfl
        exact (show Tryd.prog.wantsStandIn t = false by simpa using List.all_eq_true.1 hall t hm)⟩)
    (by kernel_rfl)
#print axioms curveAdds_card
end Go.Proofs.YtbnfanmolphliaaDoor
