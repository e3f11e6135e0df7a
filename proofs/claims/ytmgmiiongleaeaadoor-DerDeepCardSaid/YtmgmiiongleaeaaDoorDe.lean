import Derived.Test.YtmgmiiongleaeaaDoorDd
import Derived.WideShapes
namespace Go.Proofs.YtmgmiiongleaeaaDoor
open Go.RowKit Go.Vx
open Go.Toll (Gw)
set_option maxHeartbeats 4000000
set_option maxRecDepth 100000
theorem bstr_size (b : List Nat) : (bstr b).size = b.length := by simp [bstr, ByteArray.size]
theorem bstr_get {b : List Nat} {i c : Nat} (h : b[i]? = some c) : (bstr b)[i]? = some (UInt8.ofNat c) := by
  obtain ⟨hi, e⟩ := List.getElem?_eq_some_iff.1 h
  have h1 : i < (bstr b).size := by rw [bstr_size]; exact hi
  rw [getElem?_pos (bstr b) i h1]
  congr 1
  show (bstr b).data[i] = _
  simp [bstr, e]
theorem byte_nat {c : Nat} (h : c < 256) : (UInt8.ofNat c).toNat = c := by simp; omega
theorem ev_lenb {w0 : World} {ops : Array Oper} {o : Oper} {s : VS} {t : TypeId} {x : Operand} {b : List Nat} (ho : o.op = .call { callee := .builtin .len, args := #[x], argTypes := #[t] }) (hgd : Want ops o s) (hx : svEval s x = .v (.string (bstr b))) (hu : Tryd.prog.underlying t = some .string) : Ev Tryd.prog ops w0 o s ⟨.v (.int .i64 (b.length : Nat)), [], [], [], []⟩ := by
  have := ev_lens (w0 := w0) ho hgd hx hu
  rwa [bstr_size] at this
theorem ev_idxb {w0 : World} {ops : Array Oper} {o : Oper} {s : VS} {t : TypeId} {x ix : Operand} {b : List Nat} {k c : Nat} {ki : IntKind} (ho : o.op = .index t x ix) (hgd : Want ops o s) (hx : svEval s x = .v (.string (bstr b))) (hi : svEval s ix = .v (.int ki (k : Nat))) (hu : Tryd.prog.underlying t = some .string) (hc : b[k]? = some c) (h8 : c < 256) : Ev Tryd.prog ops w0 o s ⟨.v (.int .u8 (c : Int)), [], [], [], []⟩ := by
  have := ev_indexs (w0 := w0) ho hgd hx hi hu (bstr_get hc)
  rwa [byte_nat h8] at this
theorem bstr_inj {a b : List Nat} (ha : ∀ x ∈ a, x < 256) (hb : ∀ x ∈ b, x < 256) : bstr a = bstr b ↔ a = b := by
  refine ⟨fun h => ?_, fun h => by rw [h]⟩
  have h1 : a.map (fun b => UInt8.ofNat b) = b.map (fun b => UInt8.ofNat b) := by
    have := congrArg (fun s : ByteArray => s.data.toList) h
    simpa [bstr] using this
  apply List.ext_getElem?
  intro i
  have h2 := congrArg (fun l => (l[i]?).map UInt8.toNat) h1
  simp only [List.getElem?_map] at h2
  cases h3 : a[i]? with
  | none => rw [h3] at h2; cases h4 : b[i]? with
    | none => rfl
    | some y => rw [h4] at h2; simp at h2
  | some x => rw [h3] at h2; cases h4 : b[i]? with
    | none => rw [h4] at h2; simp at h2
    | some y =>
      rw [h4] at h2
      simp only [Option.map_some, Option.some.injEq] at h2
      rw [byte_nat (ha x (List.mem_of_getElem? h3)), byte_nat (hb y (List.mem_of_getElem? h4))] at h2
      rw [h2]
theorem bstr_beq {a b : List Nat} (ha : ∀ x ∈ a, x < 256) (hb : ∀ x ∈ b, x < 256) : ((bstr a).toList == (bstr b).toList) = decide (a = b) := by
  rw [← decide_eq_decide.2 (bstr_inj ha hb)]
  refine Bool.eq_iff_iff.2 ?_
  rw [beq_iff_eq, decide_eq_true_eq]
  refine ⟨fun h => ?_, fun h => by rw [h]⟩
  rw [ByteArray.toList_eq, ByteArray.toList_eq] at h
  exact Go.WideShapes.bytes_inj h
theorem str_is {a b : List Nat} {p : Bool} (h : decide (a = b) = p) (ha : ∀ x ∈ a, x < 256) (hb : ∀ x ∈ b, x < 256) (x y : Operand) (w : World) : (do eqGuard .eql 9 x y (.string (bstr a)) (.string (bstr b)); binOp .eql 9 (.string (bstr a)) (.string (bstr b)) : Sem Value).run Tryd.prog w = .ok (.bool p) w := by
  go_simp
  rw [bstr_beq ha hb, h]
theorem str_ne {a b : List Nat} {p : Bool} (h : decide (a ≠ b) = p) (ha : ∀ x ∈ a, x < 256) (hb : ∀ x ∈ b, x < 256) (x y : Operand) (w : World) : (do eqGuard .neq 9 x y (.string (bstr a)) (.string (bstr b)); binOp .neq 9 (.string (bstr a)) (.string (bstr b)) : Sem Value).run Tryd.prog w = .ok (.bool p) w := by
  have e : ((bstr a).toList == (bstr b).toList) = !p := by
    rw [bstr_beq ha hb, ← h]; simp
  go_simp
  try exact e
theorem rbody_1 {b : List Nat} (h8 : ∀ x ∈ b, x < 256) (_hm : b.length ≤ 1048576) (w : World) : Calls Tryd.prog 36 #[.int .i64 1, .string (bstr b)] w fun e w' => e = .returned (.bool (decide (b = [0]) || decide (b = [255]))) ∧ Bw w w' := by
  obtain ⟨p1, h_p1⟩ : ∃ p, decide (b = [0]) = p := ⟨_, rfl⟩
  obtain ⟨p2, h_p2⟩ : ∃ p, decide (b = [255]) = p := ⟨_, rfl⟩
  rw [h_p1, h_p2]
  go_enter Tryd.func36, Tryd.ntmps36
  refine ve_go ?_
  simp only [List.map_cons, List.map_nil]
  cases p1 <;> cases p2 <;>
  (
    refine vseq ?_
    apply vrp
    · apply VE.cons
      · exact ev_assign rfl (gn rfl)
      simp only [nm, seval]
      exact VE.nil _
    · kernel_rfl
    change VOk _ _ _ _ _
    refine vseq ?_
    apply vrp
    · apply VE.cons
      · exact ev_move rfl (gn rfl)
      simp only [nm, seval]
      apply VE.cons
      · exact ev_lenb rfl (gn rfl) rfl Tryd.underlying9
      simp only [nm, seval]
      apply VE.cons
      · exact ev_assign rfl (gn rfl)
      simp only [nm, seval]
      exact VE.nil _
    · kernel_rfl
    change VOk _ _ _ _ _
    refine vseq ?_
    refine vseq ?_
    apply vrp
    · apply VE.cons
      · exact ev_move rfl (gn rfl)
      simp only [nm, seval]
      exact VE.nil _
    · kernel_rfl
    change VOk _ _ _ _ _
    refine vblock ?_
    refine vseq ?_
    apply vrp
    · apply VE.cons
      · exact ev_eql (p := true) rfl (gn rfl) rfl rfl (by decide)
      simp only [nm, seval]
      apply VE.cons
      · exact ev_assign rfl (gn rfl)
      simp only [nm, seval]
      exact VE.nil _
    · kernel_rfl
    change VOk _ _ _ _ _
    refine vcond_t rfl ?_
    refine vseq ?_
    apply vrp
    · apply VE.cons
      · exact ev_move rfl (gn rfl)
      simp only [nm, seval]
      apply VE.cons
      · exact ev_bin rfl (gn rfl) rfl rfl (fun w => str_is (b := [0]) h_p1 h8 (by decide) _ _ w)
      simp only [nm, seval]
      apply VE.cons
      · exact ev_move rfl (gn rfl)
      simp only [nm, seval]
      apply VE.cons
      · first | exact Ev.skip (fun _ => rfl) | exact ev_move rfl (fun _ => rfl)
      simp only [nm, seval]
      apply VE.cons
      · first | exact Ev.skip (fun _ => rfl) | exact ev_bin rfl (fun _ => rfl) rfl rfl (fun w => str_is (b := [255]) h_p2 h8 (by decide) _ _ w)
      simp only [nm, seval]
      apply VE.cons
      · first | exact ev_pick_t rfl (gn rfl) rfl rfl | exact ev_pick_f rfl (gn rfl) rfl rfl
      simp only [nm, seval]
      apply VE.cons
      · exact ev_assign rfl (gn rfl)
      simp only [nm, seval]
      exact VE.nil _
    · kernel_rfl
    change VOk _ _ _ _ _
    refine vret ?_
    refine post_ret (res1 Tryd.results36 (rv_tmp rfl)) ?_
    intro ρ w' hr
    exact ⟨rfl, hr.1⟩
  )
theorem rbody_4 {b : List Nat} (_h8 : ∀ x ∈ b, x < 256) (_hm : b.length ≤ 1048576) (w : World) : Calls Tryd.prog 36 #[.int .i64 4, .string (bstr b)] w fun e w' => e = .returned (.bool (true)) ∧ Bw w w' := by
  go_enter Tryd.func36, Tryd.ntmps36
  refine ve_go ?_
  simp only [List.map_cons, List.map_nil]
  refine vseq ?_
  apply vrp
  · apply VE.cons
    · exact ev_assign rfl (gn rfl)
    simp only [nm, seval]
    exact VE.nil _
  · kernel_rfl
  change VOk _ _ _ _ _
  refine vseq ?_
  apply vrp
  · apply VE.cons
    · exact ev_move rfl (gn rfl)
    simp only [nm, seval]
    apply VE.cons
    · exact ev_lenb rfl (gn rfl) rfl Tryd.underlying9
    simp only [nm, seval]
    apply VE.cons
    · exact ev_assign rfl (gn rfl)
    simp only [nm, seval]
    exact VE.nil _
  · kernel_rfl
  change VOk _ _ _ _ _
  refine vseq ?_
  refine vseq ?_
  apply vrp
  · apply VE.cons
    · exact ev_move rfl (gn rfl)
    simp only [nm, seval]
    exact VE.nil _
  · kernel_rfl
  change VOk _ _ _ _ _
  refine vblock ?_
  refine vseq ?_
  apply vrp
  · apply VE.cons
    · exact ev_eql (p := false) rfl (gn rfl) rfl rfl (by decide)
    simp only [nm, seval]
    apply VE.cons
    · exact ev_assign rfl (gn rfl)
    simp only [nm, seval]
    exact VE.nil _
  · kernel_rfl
  change VOk _ _ _ _ _
  refine vcond_f rfl ?_
  refine vseq ?_
  apply vrp
  · apply VE.cons
    · exact ev_eql (p := false) rfl (gn rfl) rfl rfl (by decide)
    simp only [nm, seval]
    apply VE.cons
    · exact ev_assign rfl (gn rfl)
    simp only [nm, seval]
    exact VE.nil _
  · kernel_rfl
  change VOk _ _ _ _ _
  refine vcond_f rfl ?_
  refine vseq ?_
  apply vrp
  · apply VE.cons
    · exact ev_eql (p := false) rfl (gn rfl) rfl rfl (by decide)
    simp only [nm, seval]
    apply VE.cons
    · exact ev_assign rfl (gn rfl)
    simp only [nm, seval]
    exact VE.nil _
  · kernel_rfl
  change VOk _ _ _ _ _
  refine vcond_f rfl ?_
  refine vseq ?_
  apply vrp
  · apply VE.cons
    · exact ev_eql (p := true) rfl (gn rfl) rfl rfl (by decide)
    simp only [nm, seval]
    apply VE.cons
    · exact ev_assign rfl (gn rfl)
    simp only [nm, seval]
    exact VE.nil _
  · kernel_rfl
  change VOk _ _ _ _ _
  refine vcond_t rfl ?_
  refine vseq ?_
  apply vrp
  · apply VE.cons
    · exact ev_assign rfl (gn rfl)
    simp only [nm, seval]
    exact VE.nil _
  · kernel_rfl
  change VOk _ _ _ _ _
  refine vret ?_
  refine post_ret (res1 Tryd.results36 (rv_tmp rfl)) ?_
  intro ρ w' hr
  exact ⟨rfl, hr.1⟩
theorem rbody_0 {b : List Nat} (_h8 : ∀ x ∈ b, x < 256) (_hm : b.length ≤ 1048576) (tag : Int) (h_1 : tag ≠ 1) (h_2 : tag ≠ 2) (h_3 : tag ≠ 3) (h_4 : tag ≠ 4) (h_6 : tag ≠ 6) (h_12 : tag ≠ 12) (w : World) : Calls Tryd.prog 36 #[.int .i64 tag, .string (bstr b)] w fun e w' => e = .returned (.bool (false)) ∧ Bw w w' := by
  go_enter Tryd.func36, Tryd.ntmps36
  refine ve_go ?_
  simp only [List.map_cons, List.map_nil]
  refine vseq ?_
  apply vrp
  · apply VE.cons
    · exact ev_assign rfl (gn rfl)
    simp only [nm, seval]
    exact VE.nil _
  · kernel_rfl
  change VOk _ _ _ _ _
  refine vseq ?_
  apply vrp
  · apply VE.cons
    · exact ev_move rfl (gn rfl)
    simp only [nm, seval]
    apply VE.cons
    · exact ev_lenb rfl (gn rfl) rfl Tryd.underlying9
    simp only [nm, seval]
    apply VE.cons
    · exact ev_assign rfl (gn rfl)
    simp only [nm, seval]
    exact VE.nil _
  · kernel_rfl
  change VOk _ _ _ _ _
  refine vseq ?_
  refine vseq ?_
  apply vrp
  · apply VE.cons
    · exact ev_move rfl (gn rfl)
    simp only [nm, seval]
    exact VE.nil _
  · kernel_rfl
  change VOk _ _ _ _ _
  refine vblock ?_
  refine vseq ?_
  apply vrp
  · apply VE.cons
    · exact ev_eql (p := false) rfl (gn rfl) rfl rfl (decide_eq_false h_1)
    simp only [nm, seval]
    apply VE.cons
    · exact ev_assign rfl (gn rfl)
    simp only [nm, seval]
    exact VE.nil _
  · kernel_rfl
  change VOk _ _ _ _ _
  refine vcond_f rfl ?_
  refine vseq ?_
  apply vrp
  · apply VE.cons
    · exact ev_eql (p := false) rfl (gn rfl) rfl rfl (decide_eq_false h_2)
    simp only [nm, seval]
    apply VE.cons
    · exact ev_assign rfl (gn rfl)
    simp only [nm, seval]
    exact VE.nil _
  · kernel_rfl
  change VOk _ _ _ _ _
  refine vcond_f rfl ?_
  refine vseq ?_
  apply vrp
  · apply VE.cons
    · exact ev_eql (p := false) rfl (gn rfl) rfl rfl (decide_eq_false h_3)
    simp only [nm, seval]
    apply VE.cons
    · exact ev_assign rfl (gn rfl)
    simp only [nm, seval]
    exact VE.nil _
  · kernel_rfl
  change VOk _ _ _ _ _
  refine vcond_f rfl ?_
  refine vseq ?_
  apply vrp
  · apply VE.cons
    · exact ev_eql (p := false) rfl (gn rfl) rfl rfl (decide_eq_false h_4)
    simp only [nm, seval]
    apply VE.cons
    · exact ev_assign rfl (gn rfl)
    simp only [nm, seval]
    exact VE.nil _
  · kernel_rfl
  change VOk _ _ _ _ _
  refine vcond_f rfl ?_
  refine vseq ?_
  apply vrp
  · apply VE.cons
    · exact ev_eql (p := false) rfl (gn rfl) rfl rfl (decide_eq_false h_6)
    simp only [nm, seval]
    apply VE.cons
    · exact ev_assign rfl (gn rfl)
    simp only [nm, seval]
    exact VE.nil _
  · kernel_rfl
  change VOk _ _ _ _ _
  refine vcond_f rfl ?_
  refine vseq ?_
  apply vrp
  · apply VE.cons
    · exact ev_eql (p := false) rfl (gn rfl) rfl rfl (decide_eq_false h_12)
    simp only [nm, seval]
    apply VE.cons
    · exact ev_assign rfl (gn rfl)
    simp only [nm, seval]
    exact VE.nil _
  · kernel_rfl
  change VOk _ _ _ _ _
  refine vcond_f rfl ?_
  refine vskip ?_
  change VOk _ _ _ _ _
  refine vseq ?_
  apply vrp
  · apply VE.cons
    · exact ev_assign rfl (gn rfl)
    simp only [nm, seval]
    exact VE.nil _
  · kernel_rfl
  change VOk _ _ _ _ _
  refine vret ?_
  refine post_ret (res1 Tryd.results36 (rv_tmp rfl)) ?_
  intro ρ w' hr
  exact ⟨rfl, hr.1⟩
theorem rbody_2n (w : World) : Calls Tryd.prog 36 #[.int .i64 2, .string (bstr [])] w fun e w' => e = .returned (.bool (false)) ∧ Bw w w' := by
  go_enter Tryd.func36, Tryd.ntmps36
  refine ve_go ?_
  simp only [List.map_cons, List.map_nil]
  refine vseq ?_
  apply vrp
  · apply VE.cons
    · exact ev_assign rfl (gn rfl)
    simp only [nm, seval]
    exact VE.nil _
  · kernel_rfl
  change VOk _ _ _ _ _
  refine vseq ?_
  apply vrp
  · apply VE.cons
    · exact ev_move rfl (gn rfl)
    simp only [nm, seval]
    apply VE.cons
    · exact ev_lenb rfl (gn rfl) rfl Tryd.underlying9
    simp only [nm, seval]
    apply VE.cons
    · exact ev_assign rfl (gn rfl)
    simp only [nm, seval]
    exact VE.nil _
  · kernel_rfl
  change VOk _ _ _ _ _
  refine vseq ?_
  refine vseq ?_
  apply vrp
  · apply VE.cons
    · exact ev_move rfl (gn rfl)
    simp only [nm, seval]
    exact VE.nil _
  · kernel_rfl
  change VOk _ _ _ _ _
  refine vblock ?_
  refine vseq ?_
  apply vrp
  · apply VE.cons
    · exact ev_eql (p := false) rfl (gn rfl) rfl rfl (by decide)
    simp only [nm, seval]
    apply VE.cons
    · exact ev_assign rfl (gn rfl)
    simp only [nm, seval]
    exact VE.nil _
  · kernel_rfl
  change VOk _ _ _ _ _
  refine vcond_f rfl ?_
  refine vseq ?_
  apply vrp
  · apply VE.cons
    · exact ev_eql (p := true) rfl (gn rfl) rfl rfl (by decide)
    simp only [nm, seval]
    apply VE.cons
    · exact ev_assign rfl (gn rfl)
    simp only [nm, seval]
    exact VE.nil _
  · kernel_rfl
  change VOk _ _ _ _ _
  refine vcond_t rfl ?_
  refine vseq ?_
  apply vrp
  · apply VE.cons
    · exact ev_move rfl (gn rfl)
    simp only [nm, seval]
    apply VE.cons
    · exact ev_gtr (p := false) rfl (gn rfl) rfl rfl (by decide)
    simp only [nm, seval]
    apply VE.cons
    · exact ev_move rfl (gn rfl)
    simp only [nm, seval]
    apply VE.cons
    · first | exact Ev.skip (fun _ => rfl) | exact ev_move rfl (fun _ => rfl)
    simp only [nm, seval]
    apply VE.cons
    · first | exact Ev.skip (fun _ => rfl) | exact ev_gtr (p := false) rfl (fun _ => rfl) rfl rfl (by decide)
    simp only [nm, seval]
    apply VE.cons
    · first | exact Ev.skip (fun _ => rfl) | exact ev_move rfl (fun _ => rfl)
    simp only [nm, seval]
    apply VE.cons
    · first | exact Ev.skip (fun _ => rfl) | exact ev_move rfl (fun _ => rfl)
    simp only [nm, seval]
    apply VE.cons
    · first | exact Ev.skip (fun _ => rfl) | refine ev_pure' (fun _ => rfl) (fun ρ w => by simp only [VS.act, SV.c, List.map_cons, List.map_nil]; go_simp; exact rfl) (fun _ _ => rfl)
    simp only [nm, seval]
    apply VE.cons
    · first | exact Ev.skip (fun _ => rfl) | refine ev_pure' (fun _ => rfl) (fun ρ w => by simp only [VS.act, SV.c, List.map_cons, List.map_nil]; go_simp; exact rfl) (fun _ _ => rfl)
    simp only [nm, seval]
    apply VE.cons
    · first | exact Ev.skip (fun _ => rfl) | exact ev_pick_t rfl (fun _ => rfl) rfl rfl | exact ev_pick_f rfl (fun _ => rfl) rfl rfl
    simp only [nm, seval]
    apply VE.cons
    · first | exact Ev.skip (fun _ => rfl) | exact ev_move rfl (fun _ => rfl)
    simp only [nm, seval]
    apply VE.cons
    · first | exact Ev.skip (fun _ => rfl) | exact ev_move rfl (fun _ => rfl)
    simp only [nm, seval]
    apply VE.cons
    · first | exact Ev.skip (fun _ => rfl) | refine ev_pure' (fun _ => rfl) (fun ρ w => by simp only [VS.act, SV.c, List.map_cons, List.map_nil]; go_simp; exact rfl) (fun _ _ => rfl)
    simp only [nm, seval]
    apply VE.cons
    · first | exact Ev.skip (fun _ => rfl) | refine ev_pure' (fun _ => rfl) (fun ρ w => by simp only [VS.act, SV.c, List.map_cons, List.map_nil]; go_simp; exact rfl) (fun _ _ => rfl)
    simp only [nm, seval]
    apply VE.cons
    · first | exact Ev.skip (fun _ => rfl) | exact ev_pick_t rfl (fun _ => rfl) rfl rfl | exact ev_pick_f rfl (fun _ => rfl) rfl rfl
    simp only [nm, seval]
    apply VE.cons
    · first | exact Ev.skip (fun _ => rfl) | exact ev_not rfl (fun _ => rfl) rfl
    simp only [nm, seval]
    apply VE.cons
    · first | exact ev_pick_t rfl (gn rfl) rfl rfl | exact ev_pick_f rfl (gn rfl) rfl rfl
    simp only [nm, seval]
    apply VE.cons
    · exact ev_move rfl (gn rfl)
    simp only [nm, seval]
    apply VE.cons
    · first | exact Ev.skip (fun _ => rfl) | exact ev_move rfl (fun _ => rfl)
    simp only [nm, seval]
    apply VE.cons
    · first | exact Ev.skip (fun _ => rfl) | exact ev_gtr (p := false) rfl (fun _ => rfl) rfl rfl (by decide)
    simp only [nm, seval]
    apply VE.cons
    · first | exact Ev.skip (fun _ => rfl) | exact ev_move rfl (fun _ => rfl)
    simp only [nm, seval]
    apply VE.cons
    · first | exact Ev.skip (fun _ => rfl) | exact ev_move rfl (fun _ => rfl)
    simp only [nm, seval]
    apply VE.cons
    · first | exact Ev.skip (fun _ => rfl) | refine ev_pure' (fun _ => rfl) (fun ρ w => by simp only [VS.act, SV.c, List.map_cons, List.map_nil]; go_simp; exact rfl) (fun _ _ => rfl)
    simp only [nm, seval]
    apply VE.cons
    · first | exact Ev.skip (fun _ => rfl) | refine ev_pure' (fun _ => rfl) (fun ρ w => by simp only [VS.act, SV.c, List.map_cons, List.map_nil]; go_simp; exact rfl) (fun _ _ => rfl)
    simp only [nm, seval]
    apply VE.cons
    · first | exact Ev.skip (fun _ => rfl) | exact ev_pick_t rfl (fun _ => rfl) rfl rfl | exact ev_pick_f rfl (fun _ => rfl) rfl rfl
    simp only [nm, seval]
    apply VE.cons
    · first | exact Ev.skip (fun _ => rfl) | exact ev_move rfl (fun _ => rfl)
    simp only [nm, seval]
    apply VE.cons
    · first | exact Ev.skip (fun _ => rfl) | exact ev_move rfl (fun _ => rfl)
    simp only [nm, seval]
    apply VE.cons
    · first | exact Ev.skip (fun _ => rfl) | refine ev_pure' (fun _ => rfl) (fun ρ w => by simp only [VS.act, SV.c, List.map_cons, List.map_nil]; go_simp; exact rfl) (fun _ _ => rfl)
    simp only [nm, seval]
    apply VE.cons
    · first | exact Ev.skip (fun _ => rfl) | refine ev_pure' (fun _ => rfl) (fun ρ w => by simp only [VS.act, SV.c, List.map_cons, List.map_nil]; go_simp; exact rfl) (fun _ _ => rfl)
    simp only [nm, seval]
    apply VE.cons
    · first | exact Ev.skip (fun _ => rfl) | exact ev_pick_t rfl (fun _ => rfl) rfl rfl | exact ev_pick_f rfl (fun _ => rfl) rfl rfl
    simp only [nm, seval]
    apply VE.cons
    · first | exact Ev.skip (fun _ => rfl) | exact ev_not rfl (fun _ => rfl) rfl
    simp only [nm, seval]
    apply VE.cons
    · first | exact ev_pick_t rfl (gn rfl) rfl rfl | exact ev_pick_f rfl (gn rfl) rfl rfl
    simp only [nm, seval]
    apply VE.cons
    · exact ev_assign rfl (gn rfl)
    simp only [nm, seval]
    exact VE.nil _
  · kernel_rfl
  change VOk _ _ _ _ _
  refine vret ?_
  refine post_ret (res1 Tryd.results36 (rv_tmp rfl)) ?_
  intro ρ w' hr
  exact ⟨rfl, hr.1⟩
theorem rbody_2s {x : Nat} (w : World) : Calls Tryd.prog 36 #[.int .i64 2, .string (bstr [x])] w fun e w' => e = .returned (.bool (true)) ∧ Bw w w' := by
  go_enter Tryd.func36, Tryd.ntmps36
  refine ve_go ?_
  simp only [List.map_cons, List.map_nil]
  refine vseq ?_
  apply vrp
  · apply VE.cons
    · exact ev_assign rfl (gn rfl)
    simp only [nm, seval]
    exact VE.nil _
  · kernel_rfl
  change VOk _ _ _ _ _
  refine vseq ?_
  apply vrp
  · apply VE.cons
    · exact ev_move rfl (gn rfl)
    simp only [nm, seval]
    apply VE.cons
    · exact ev_lenb rfl (gn rfl) rfl Tryd.underlying9
    simp only [nm, seval]
    apply VE.cons
    · exact ev_assign rfl (gn rfl)
    simp only [nm, seval]
    exact VE.nil _
  · kernel_rfl
  change VOk _ _ _ _ _
  refine vseq ?_
  refine vseq ?_
  apply vrp
  · apply VE.cons
    · exact ev_move rfl (gn rfl)
    simp only [nm, seval]
    exact VE.nil _
  · kernel_rfl
  change VOk _ _ _ _ _
  refine vblock ?_
  refine vseq ?_
  apply vrp
  · apply VE.cons
    · exact ev_eql (p := false) rfl (gn rfl) rfl rfl (by decide)
    simp only [nm, seval]
    apply VE.cons
    · exact ev_assign rfl (gn rfl)
    simp only [nm, seval]
    exact VE.nil _
  · kernel_rfl
  change VOk _ _ _ _ _
  refine vcond_f rfl ?_
  refine vseq ?_
  apply vrp
  · apply VE.cons
    · exact ev_eql (p := true) rfl (gn rfl) rfl rfl (by decide)
    simp only [nm, seval]
    apply VE.cons
    · exact ev_assign rfl (gn rfl)
    simp only [nm, seval]
    exact VE.nil _
  · kernel_rfl
  change VOk _ _ _ _ _
  refine vcond_t rfl ?_
  refine vseq ?_
  apply vrp
  · apply VE.cons
    · exact ev_move rfl (gn rfl)
    simp only [nm, seval]
    apply VE.cons
    · exact ev_gtr (p := true) rfl (gn rfl) rfl rfl rfl
    simp only [nm, seval]
    apply VE.cons
    · exact ev_move rfl (gn rfl)
    simp only [nm, seval]
    apply VE.cons
    · first | exact Ev.skip (fun _ => rfl) | exact ev_move rfl (fun _ => rfl)
    simp only [nm, seval]
    apply VE.cons
    · first | exact Ev.skip (fun _ => rfl) | exact ev_gtr (p := false) rfl (fun _ => rfl) rfl rfl rfl
    simp only [nm, seval]
    apply VE.cons
    · first | exact Ev.skip (fun _ => rfl) | exact ev_move rfl (fun _ => rfl)
    simp only [nm, seval]
    apply VE.cons
    · first | exact Ev.skip (fun _ => rfl) | exact ev_move rfl (fun _ => rfl)
    simp only [nm, seval]
    apply VE.cons
    · first | exact Ev.skip (fun _ => rfl) | refine ev_pure' (fun _ => rfl) (fun ρ w => by simp only [VS.act, SV.c, List.map_cons, List.map_nil]; go_simp; exact rfl) (fun _ _ => rfl)
    simp only [nm, seval]
    apply VE.cons
    · first | exact Ev.skip (fun _ => rfl) | refine ev_pure' (fun _ => rfl) (fun ρ w => by simp only [VS.act, SV.c, List.map_cons, List.map_nil]; go_simp; exact rfl) (fun _ _ => rfl)
    simp only [nm, seval]
    apply VE.cons
    · first | exact Ev.skip (fun _ => rfl) | exact ev_pick_t rfl (fun _ => rfl) rfl rfl | exact ev_pick_f rfl (fun _ => rfl) rfl rfl
    simp only [nm, seval]
    apply VE.cons
    · first | exact Ev.skip (fun _ => rfl) | exact ev_move rfl (fun _ => rfl)
    simp only [nm, seval]
    apply VE.cons
    · first | exact Ev.skip (fun _ => rfl) | exact ev_move rfl (fun _ => rfl)
    simp only [nm, seval]
    apply VE.cons
    · first | exact Ev.skip (fun _ => rfl) | refine ev_pure' (fun _ => rfl) (fun ρ w => by simp only [VS.act, SV.c, List.map_cons, List.map_nil]; go_simp; exact rfl) (fun _ _ => rfl)
    simp only [nm, seval]
    apply VE.cons
    · first | exact Ev.skip (fun _ => rfl) | refine ev_pure' (fun _ => rfl) (fun ρ w => by simp only [VS.act, SV.c, List.map_cons, List.map_nil]; go_simp; exact rfl) (fun _ _ => rfl)
    simp only [nm, seval]
    apply VE.cons
    · first | exact Ev.skip (fun _ => rfl) | exact ev_pick_t rfl (fun _ => rfl) rfl rfl | exact ev_pick_f rfl (fun _ => rfl) rfl rfl
    simp only [nm, seval]
    apply VE.cons
    · first | exact Ev.skip (fun _ => rfl) | exact ev_not rfl (fun _ => rfl) rfl
    simp only [nm, seval]
    apply VE.cons
    · first | exact ev_pick_t rfl (gn rfl) rfl rfl | exact ev_pick_f rfl (gn rfl) rfl rfl
    simp only [nm, seval]
    apply VE.cons
    · exact ev_move rfl (gn rfl)
    simp only [nm, seval]
    apply VE.cons
    · first | exact Ev.skip (fun _ => rfl) | exact ev_move rfl (fun _ => rfl)
    simp only [nm, seval]
    apply VE.cons
    · first | exact Ev.skip (fun _ => rfl) | exact ev_gtr (p := false) rfl (fun _ => rfl) rfl rfl rfl
    simp only [nm, seval]
    apply VE.cons
    · first | exact Ev.skip (fun _ => rfl) | exact ev_move rfl (fun _ => rfl)
    simp only [nm, seval]
    apply VE.cons
    · first | exact Ev.skip (fun _ => rfl) | exact ev_move rfl (fun _ => rfl)
    simp only [nm, seval]
    apply VE.cons
    · first | exact Ev.skip (fun _ => rfl) | refine ev_pure' (fun _ => rfl) (fun ρ w => by simp only [VS.act, SV.c, List.map_cons, List.map_nil]; go_simp; exact rfl) (fun _ _ => rfl)
    simp only [nm, seval]
    apply VE.cons
    · first | exact Ev.skip (fun _ => rfl) | refine ev_pure' (fun _ => rfl) (fun ρ w => by simp only [VS.act, SV.c, List.map_cons, List.map_nil]; go_simp; exact rfl) (fun _ _ => rfl)
    simp only [nm, seval]
    apply VE.cons
    · first | exact Ev.skip (fun _ => rfl) | exact ev_pick_t rfl (fun _ => rfl) rfl rfl | exact ev_pick_f rfl (fun _ => rfl) rfl rfl
    simp only [nm, seval]
    apply VE.cons
    · first | exact Ev.skip (fun _ => rfl) | exact ev_move rfl (fun _ => rfl)
    simp only [nm, seval]
    apply VE.cons
    · first | exact Ev.skip (fun _ => rfl) | exact ev_move rfl (fun _ => rfl)
    simp only [nm, seval]
    apply VE.cons
    · first | exact Ev.skip (fun _ => rfl) | refine ev_pure' (fun _ => rfl) (fun ρ w => by simp only [VS.act, SV.c, List.map_cons, List.map_nil]; go_simp; exact rfl) (fun _ _ => rfl)
    simp only [nm, seval]
    apply VE.cons
    · first | exact Ev.skip (fun _ => rfl) | refine ev_pure' (fun _ => rfl) (fun ρ w => by simp only [VS.act, SV.c, List.map_cons, List.map_nil]; go_simp; exact rfl) (fun _ _ => rfl)
    simp only [nm, seval]
    apply VE.cons
    · first | exact Ev.skip (fun _ => rfl) | exact ev_pick_t rfl (fun _ => rfl) rfl rfl | exact ev_pick_f rfl (fun _ => rfl) rfl rfl
    simp only [nm, seval]
    apply VE.cons
    · first | exact Ev.skip (fun _ => rfl) | exact ev_not rfl (fun _ => rfl) rfl
    simp only [nm, seval]
    apply VE.cons
    · first | exact ev_pick_t rfl (gn rfl) rfl rfl | exact ev_pick_f rfl (gn rfl) rfl rfl
    simp only [nm, seval]
    apply VE.cons
    · exact ev_assign rfl (gn rfl)
    simp only [nm, seval]
    exact VE.nil _
  · kernel_rfl
  change VOk _ _ _ _ _
  refine vret ?_
  refine post_ret (res1 Tryd.results36 (rv_tmp rfl)) ?_
  intro ρ w' hr
  exact ⟨rfl, hr.1⟩
theorem rbody_2l {x y : Nat} {r : List Nat} (h8 : ∀ z ∈ x :: y :: r, z < 256) (w : World) : Calls Tryd.prog 36 #[.int .i64 2, .string (bstr (x :: y :: r))] w fun e w' => e = .returned (.bool (!((decide (x = 0) && decide (y < 128)) || (decide (x = 255) && decide (y ≥ 128))))) ∧ Bw w w' := by
  obtain ⟨p1, h_p1⟩ : ∃ p, decide (x = 0) = p := ⟨_, rfl⟩
  obtain ⟨p2, h_p2⟩ : ∃ p, decide (y < 128) = p := ⟨_, rfl⟩
  obtain ⟨p3, h_p3⟩ : ∃ p, decide (x = 255) = p := ⟨_, rfl⟩
  obtain ⟨p4, h_p4⟩ : ∃ p, decide (y ≥ 128) = p := ⟨_, rfl⟩
  rw [h_p1, h_p2, h_p3, h_p4]
  have h_p1' := (nat_eq x 0).trans h_p1
  have h_p2' := (nat_lt y 128).trans h_p2
  have h_p3' := (nat_eq x 255).trans h_p3
  have h_p4' := (nat_ge y 128).trans h_p4
  go_enter Tryd.func36, Tryd.ntmps36
  refine ve_go ?_
  simp only [List.map_cons, List.map_nil]
  cases p1 <;> cases p2 <;> cases p3 <;> cases p4 <;>
  (
    refine vseq ?_
    apply vrp
    · apply VE.cons
      · exact ev_assign rfl (gn rfl)
      simp only [nm, seval]
      exact VE.nil _
    · kernel_rfl
    change VOk _ _ _ _ _
    refine vseq ?_
    apply vrp
    · apply VE.cons
      · exact ev_move rfl (gn rfl)
      simp only [nm, seval]
      apply VE.cons
      · exact ev_lenb rfl (gn rfl) rfl Tryd.underlying9
      simp only [nm, seval]
      apply VE.cons
      · exact ev_assign rfl (gn rfl)
      simp only [nm, seval]
      exact VE.nil _
    · kernel_rfl
    change VOk _ _ _ _ _
    refine vseq ?_
    refine vseq ?_
    apply vrp
    · apply VE.cons
      · exact ev_move rfl (gn rfl)
      simp only [nm, seval]
      exact VE.nil _
    · kernel_rfl
    change VOk _ _ _ _ _
    refine vblock ?_
    refine vseq ?_
    apply vrp
    · apply VE.cons
      · exact ev_eql (p := false) rfl (gn rfl) rfl rfl (by decide)
      simp only [nm, seval]
      apply VE.cons
      · exact ev_assign rfl (gn rfl)
      simp only [nm, seval]
      exact VE.nil _
    · kernel_rfl
    change VOk _ _ _ _ _
    refine vcond_f rfl ?_
    refine vseq ?_
    apply vrp
    · apply VE.cons
      · exact ev_eql (p := true) rfl (gn rfl) rfl rfl (by decide)
      simp only [nm, seval]
      apply VE.cons
      · exact ev_assign rfl (gn rfl)
      simp only [nm, seval]
      exact VE.nil _
    · kernel_rfl
    change VOk _ _ _ _ _
    refine vcond_t rfl ?_
    refine vseq ?_
    apply vrp
    · apply VE.cons
      · exact ev_move rfl (gn rfl)
      simp only [nm, seval]
      apply VE.cons
      · exact ev_gtr (p := true) rfl (gn rfl) rfl rfl (decide_eq_true (by simp only [List.length_cons]; omega))
      simp only [nm, seval]
      apply VE.cons
      · exact ev_move rfl (gn rfl)
      simp only [nm, seval]
      apply VE.cons
      · first | exact Ev.skip (fun _ => rfl) | exact ev_move rfl (fun _ => rfl)
      simp only [nm, seval]
      apply VE.cons
      · first | exact Ev.skip (fun _ => rfl) | exact ev_gtr (p := true) rfl (fun _ => rfl) rfl rfl (decide_eq_true (by simp only [List.length_cons]; omega))
      simp only [nm, seval]
      apply VE.cons
      · first | exact Ev.skip (fun _ => rfl) | exact ev_move rfl (fun _ => rfl)
      simp only [nm, seval]
      apply VE.cons
      · first | exact Ev.skip (fun _ => rfl) | exact ev_move rfl (fun _ => rfl)
      simp only [nm, seval]
      apply VE.cons
      · first | exact Ev.skip (fun _ => rfl) | exact ev_idxb (k := 0) rfl (fun _ => rfl) rfl rfl Tryd.underlying9 (rfl) ((h8 _ (by simp)))
      simp only [nm, seval]
      apply VE.cons
      · first | exact Ev.skip (fun _ => rfl) | exact ev_eql rfl (fun _ => rfl) rfl rfl h_p1'
      simp only [nm, seval]
      apply VE.cons
      · first | exact Ev.skip (fun _ => rfl) | exact ev_pick_t rfl (fun _ => rfl) rfl rfl | exact ev_pick_f rfl (fun _ => rfl) rfl rfl
      simp only [nm, seval]
      apply VE.cons
      · first | exact Ev.skip (fun _ => rfl) | exact ev_move rfl (fun _ => rfl)
      simp only [nm, seval]
      apply VE.cons
      · first | exact Ev.skip (fun _ => rfl) | exact ev_move rfl (fun _ => rfl)
      simp only [nm, seval]
      apply VE.cons
      · first | exact Ev.skip (fun _ => rfl) | exact ev_idxb (k := 1) rfl (fun _ => rfl) rfl rfl Tryd.underlying9 (rfl) ((h8 _ (by simp)))
      simp only [nm, seval]
      apply VE.cons
      · first | exact Ev.skip (fun _ => rfl) | exact ev_lss5 rfl (fun _ => rfl) rfl rfl h_p2'
      simp only [nm, seval]
      apply VE.cons
      · first | exact Ev.skip (fun _ => rfl) | exact ev_pick_t rfl (fun _ => rfl) rfl rfl | exact ev_pick_f rfl (fun _ => rfl) rfl rfl
      simp only [nm, seval]
      apply VE.cons
      · first | exact Ev.skip (fun _ => rfl) | exact ev_not rfl (fun _ => rfl) rfl
      simp only [nm, seval]
      apply VE.cons
      · first | exact ev_pick_t rfl (gn rfl) rfl rfl | exact ev_pick_f rfl (gn rfl) rfl rfl
      simp only [nm, seval]
      apply VE.cons
      · exact ev_move rfl (gn rfl)
      simp only [nm, seval]
      apply VE.cons
      · first | exact Ev.skip (fun _ => rfl) | exact ev_move rfl (fun _ => rfl)
      simp only [nm, seval]
      apply VE.cons
      · first | exact Ev.skip (fun _ => rfl) | exact ev_gtr (p := true) rfl (fun _ => rfl) rfl rfl (decide_eq_true (by simp only [List.length_cons]; omega))
      simp only [nm, seval]
      apply VE.cons
      · first | exact Ev.skip (fun _ => rfl) | exact ev_move rfl (fun _ => rfl)
      simp only [nm, seval]
      apply VE.cons
      · first | exact Ev.skip (fun _ => rfl) | exact ev_move rfl (fun _ => rfl)
      simp only [nm, seval]
      apply VE.cons
      · first | exact Ev.skip (fun _ => rfl) | exact ev_idxb (k := 0) rfl (fun _ => rfl) rfl rfl Tryd.underlying9 (rfl) ((h8 _ (by simp)))
      simp only [nm, seval]
      apply VE.cons
      · first | exact Ev.skip (fun _ => rfl) | exact ev_eql rfl (fun _ => rfl) rfl rfl h_p3'
      simp only [nm, seval]
      apply VE.cons
      · first | exact Ev.skip (fun _ => rfl) | exact ev_pick_t rfl (fun _ => rfl) rfl rfl | exact ev_pick_f rfl (fun _ => rfl) rfl rfl
      simp only [nm, seval]
      apply VE.cons
      · first | exact Ev.skip (fun _ => rfl) | exact ev_move rfl (fun _ => rfl)
      simp only [nm, seval]
      apply VE.cons
      · first | exact Ev.skip (fun _ => rfl) | exact ev_move rfl (fun _ => rfl)
      simp only [nm, seval]
      apply VE.cons
      · first | exact Ev.skip (fun _ => rfl) | exact ev_idxb (k := 1) rfl (fun _ => rfl) rfl rfl Tryd.underlying9 (rfl) ((h8 _ (by simp)))
      simp only [nm, seval]
      apply VE.cons
      · first | exact Ev.skip (fun _ => rfl) | exact ev_geq5 rfl (fun _ => rfl) rfl rfl h_p4'
      simp only [nm, seval]
      apply VE.cons
      · first | exact Ev.skip (fun _ => rfl) | exact ev_pick_t rfl (fun _ => rfl) rfl rfl | exact ev_pick_f rfl (fun _ => rfl) rfl rfl
      simp only [nm, seval]
      apply VE.cons
      · first | exact Ev.skip (fun _ => rfl) | exact ev_not rfl (fun _ => rfl) rfl
      simp only [nm, seval]
      apply VE.cons
      · first | exact ev_pick_t rfl (gn rfl) rfl rfl | exact ev_pick_f rfl (gn rfl) rfl rfl
      simp only [nm, seval]
      apply VE.cons
      · exact ev_assign rfl (gn rfl)
      simp only [nm, seval]
      exact VE.nil _
    · kernel_rfl
    change VOk _ _ _ _ _
    refine vret ?_
    refine post_ret (res1 Tryd.results36 (rv_tmp rfl)) ?_
    intro ρ w' hr
    exact ⟨rfl, hr.1⟩
  )
end Go.Proofs.YtmgmiiongleaeaaDoor
