import Derived.Test.YtdhklekkpkbfeaaDoorSh
import Derived.Test.YtdhklekkpkbfeaaDoorVi
namespace Go.Proofs.YtdhklekkpkbfeaaDoor
open Go.RowKit Go.Vx
open Go.Toll (Gw)
open TollSha
set_option maxHeartbeats 4000000
set_option maxRecDepth 100000
theorem run_copy_nil (w : World) (dT sT ty elem : TypeId) (ad : Option Addr) (n cap : Nat) (ao : Option Addr) (sc : Nat) (hu : Tryd.prog.underlying dT = some (.slice elem)) (hs : (Tryd.prog.info? elem).map (·.size) = some 1) :
    (Builtin.copy_ #[dT, sT] ty #[.slice ad n cap, .slice ao 0 sc]).run Tryd.prog w = .ok (goInt 0) w := by
  cases hq : Tryd.prog.info? elem with
  | none => simp [hq] at hs
  | some i =>
    have hi : i.size = 1 := by simpa [hq] using hs
    cases ao <;> cases ad <;> simp [Builtin.copy_, run_underlying hu, Builtin.lenOf, Builtin.firstCells, sizeOf, typeInfo, hq, loadCells, loadCellsFrom, storeCells]
theorem ev_copy0 {w0 : World} {ops : Array Oper} {o : Oper} {s : VS} {dT sT e : TypeId} {x y : Operand} {id n : Nat} {l news : List Value} {v : Value} {S0 : Nat → Prop} (ho : o.op = .call { callee := .builtin .copy, args := #[x, y], argTypes := #[dT, sT] }) (hgd : Want ops o s)
    (hx : svEval s x = .d id) (hm : s.mem id = some (.row n 1 e (.exact l))) (hy : svEval s y = .v v) (hr : SlAt w0 v 0 1 news S0) (hu : Tryd.prog.underlying dT = some (.slice e)) (hs : (Tryd.prog.info? e).map (·.size) = some 1) (_hpos : 0 < n) :
    Ev Tryd.prog ops w0 o s ⟨.v (.int .i64 0), [], [], [], [id]⟩ :=
  Ev.run _ _ hgd fun ρ S w hb hR => by
    have e1 := svEval_c s ρ x
    rw [hx] at e1
    have e2 := svEval_c s ρ y
    rw [hy] at e2
    obtain ⟨xs, hxl, hxe, hrow⟩ := relon_get hR hm (by simp)
    obtain ⟨ao, sc, rfl, _, _, _⟩ := hr
    obtain ⟨ad, cap, h1, _⟩ := row_sl hrow hxl
    simp only [SV.c] at e1 e2
    rw [h1] at e1
    have hrun := run_copy_nil w dT sT o.type e ad n cap ao sc hu hs
    unfold execOp
    simp only [ho, resolve, invoke, builtin, Sem.run_bind, Sem.run_pure, Result.andThen_ok, List.map_toArray, List.map_cons, List.map_nil, e1, e2, hrun, SV.c, goInt]
theorem u8x (b c : Nat) (hb : b < 256) (hc : c < 256) : bits .xor .u8 (b : Int) (c : Int) = ((b ^^^ c : Nat) : Int) := by
  have h := Nat.xor_lt_two_pow (n := 8) (x := b) (y := c) (by omega) (by omega)
  show IntKind.u8.wrap ((BitVec.ofInt 8 (b : Int) ^^^ BitVec.ofInt 8 (c : Int)).toNat : Int) = _
  rw [BitVec.toNat_xor, BitVec.toNat_ofInt, BitVec.toNat_ofInt]
  have h1 : ((b : Int) % ((2 ^ 8 : Nat) : Int)).toNat = b := by omega
  have h2 : ((c : Int) % ((2 ^ 8 : Nat) : Int)).toNat = c := by omega
  rw [h1, h2, IntKind.wrap_u8']
  omega
theorem xor8 {b c : Nat} (hb : b < 256) (hc : c < 256) (p q : Operand) (w : World) : (do eqGuard .xor 5 p q (b8 b) (b8 c); binOp .xor 5 (b8 b) (b8 c) : Sem Value).run Tryd.prog w = .ok (b8 (b ^^^ c)) w := by
  have h := u8x b c hb hc
  unfold b8
  go_simp
  try exact h
def keyP (key : List Nat) : List Nat := key ++ List.replicate (64 - key.length) 0
theorem keyP_len {key : List Nat} (h : key.length ≤ 64) : (keyP key).length = 64 := by simp [keyP]; omega
theorem keyP_lt {key : List Nat} (h : ∀ x ∈ key, x < 256) : ∀ x ∈ keyP key, x < 256 := fun x hx => by
  rcases List.mem_append.1 hx with hx | hx
  · exact h x hx
  · rw [(List.mem_replicate.1 hx).2]; decide
def padI (K : List Nat) (x i : Nat) : List Nat := (K.take i).map (· ^^^ x) ++ K.drop i
theorem padI_len (K : List Nat) (x i : Nat) (h : i ≤ K.length) : (padI K x i).length = K.length := by simp [padI]; omega
theorem padI_get {K : List Nat} {x i : Nat} (h : i < K.length) : (padI K x i)[i]? = some (K.getD i 0) := by
  have e : ((K.take i).map (· ^^^ x)).length = i := by simp; omega
  unfold padI
  rw [List.getElem?_append_right (by omega), e, Nat.sub_self, List.getElem?_drop]
  simp [List.getD, h]
theorem padI_set {K : List Nat} {x i : Nat} (h : i < K.length) : (padI K x i).set i (K.getD i 0 ^^^ x) = padI K x (i + 1) := by
  have e : ((K.take i).map (· ^^^ x)).length = i := by simp; omega
  have e2 : K.drop i = K.getD i 0 :: K.drop (i + 1) := by rw [List.drop_eq_getElem_cons h]; simp [List.getD, h]
  have e3 : K.take (i + 1) = K.take i ++ [K.getD i 0] := take_get (by simp [List.getD, h])
  unfold padI
  rw [e2, e3, List.map_append, List.append_assoc, List.set_append_right _ _ (by omega), e, Nat.sub_self]
  rfl
theorem padK_eq {key : List Nat} {x : Nat} (h : key.length ≤ 64) : padI (keyP key) x 64 = padK key x := by
  have hl := keyP_len h
  unfold padI padK
  rw [List.take_of_length_le (by omega), List.drop_of_length_le (by omega), List.append_nil]
  apply List.ext_getElem?
  intro i
  rw [List.getElem?_map, List.getElem?_map]
  by_cases hi : i < 64
  · have h1 : (keyP key)[i]? = some (key.getD i 0) := by
      unfold keyP
      by_cases hk : i < key.length
      · rw [List.getElem?_append_left hk]; simp [List.getD, hk]
      · rw [List.getElem?_append_right (by omega), List.getElem?_replicate, if_pos (by omega)]
        simp [List.getD, List.getElem?_eq_none (show key.length ≤ i by omega)]
    rw [h1, List.getElem?_range hi]; rfl
  · rw [List.getElem?_eq_none (by omega), List.getElem?_eq_none (by simp; omega)]; rfl
def Z64 : List Value := List.replicate 64 (Value.int .u8 0)
theorem Z64_eq : Z64 = (List.replicate 64 0).map b8 := by rw [List.map_replicate]; rfl
theorem Z64_key {key : List Nat} {x : Nat} (_h : key.length ≤ 64) : key.map b8 ++ Z64.drop key.length = (padI (keyP key) x 0).map b8 := by
  rw [Z64_eq, ← List.map_drop, ← List.map_append, List.drop_replicate]
  rfl
theorem ev_makerow {w0 : World} {ops : Array Oper} {o : Oper} {s : VS} {t e : TypeId} {x y : Operand} {id k : Nat} {z : Value} (l : List Value) (hl : List.replicate k z = l) (hd : o.dst = some id) (ho : o.op = .makeSlice t x y) (hgd : Want ops o s)
    (hx : svEval s x = .v (.int .i64 (k : Nat))) (hy : svEval s y = .v (.int .i64 (k : Nat))) (ht : Tryd.prog.underlying t = some (.slice e)) (hI : ElInfo Tryd.prog e 1 1) (hz : ∀ w, (zeroValue e).run Tryd.prog w = .ok z w) (hzc : z.cells = #[z]) (hk : k ≤ 140737488355328) :
    Ev Tryd.prog ops w0 o s ⟨.d id, [(id, .row k 1 e (.exact l))], [], [id], []⟩ := by
  subst hl
  exact ev_makeslice hd ho hgd hx hy ht hI hz hzc hk
theorem b8_one (c : Nat) : (b8 c).cells = #[b8 c] := rfl
theorem pad_0 {v : Value} {key : List Nat} {S : Nat → Prop} {x : Nat} (w : World) (hv : SlAt w v key.length 1 (key.map b8) S) (hkl : key.length ≤ 64) (hk8 : ∀ y ∈ key, y < 256) (hx : x < 256) (h0 : key = []) : Calls Tryd.prog 22 #[v, b8 x] w fun e w' => ∃ v', e = .returned v' ∧ RetRow w w' v' 64 1 5 ((padK key x).map b8) ∧ Bw w w' := by
  have hKl := keyP_len hkl
  have hK8 := keyP_lt hk8
  go_enter Tryd.func22, Tryd.ntmps22
  refine ve_go ?_
  simp only [List.map_cons, List.map_nil]
  refine vseq ?_
  apply vrp
  · apply VE.cons
    · exact ev_assign rfl (gn rfl)
    simp only [nm, seval]
    exact VE.nil _
  · kernel_rfl
  change VOk _ _ _ _ _
  refine vseq ?_
  apply vrp
  · apply VE.cons
    · exact ev_makerow (k := 64) Z64 rfl rfl rfl (gn rfl) rfl rfl Tryd.underlying27 el5 Tryd.zeroValue5 rfl (by decide)
    simp only [nm, seval]
    apply VE.cons
    · exact ev_assign rfl (gn rfl)
    simp only [nm, seval]
    exact VE.nil _
  · kernel_rfl
  change VOk _ _ _ _ _
  refine vseq ?_
  apply vrp
  · apply VE.cons
    · exact ev_move rfl (gn rfl)
    simp only [nm, seval]
    apply VE.cons
    · exact ev_move rfl (gn rfl)
    simp only [nm, seval]
    apply VE.cons
    · exact ev_copy0 rfl (gn rfl) rfl rfl rfl (by rw [h0] at hv; exact hv) Tryd.underlying27 (by kernel_rfl) (by decide)
    simp only [nm, seval]
    exact VE.nil _
  · kernel_rfl
  change VOk _ _ _ _ _
  refine vseq ?_
  refine vseq ?_
  apply vrp
  · apply VE.cons
    · exact ev_move rfl (gn rfl)
    simp only [nm, seval]
    apply VE.cons
    · exact ev_len rfl (gn rfl) rfl Tryd.underlying27 (rdg_row rfl)
    simp only [nm, seval]
    apply VE.cons
    · exact ev_move rfl (gn rfl)
    simp only [nm, seval]
    exact VE.nil _
  · kernel_rfl
  change VOk _ _ _ _ _
  refine vblock ?_
  refine vloop_w (α := {y : Nat // y ≤ 64}) (fun (y : {y : Nat // y ≤ 64}) f => ⟨[.v (f 0), .v (b8 x), .v (f 2), .v (f 3), .v (f 4), .d 7, .v (f 6), .v (f 7), .v (f 8), .v (f 9), .v (f 10), .v (f 11), .v (.int .i64 64), .v (.int .i64 (y.1 : Nat)), .v (f 14), .v (f 15), .v (f 16), .v (f 17), .v (f 18), .v (f 19), .v (f 20), .v (f 21), .v (f 22), .v (f 23), .v (f 24)], memOf [(7, .row 64 1 5 (.exact ((padI (keyP key) x y.1).map b8)))]⟩) (fun y => 64 - y.1) ?_ (⟨0, Nat.zero_le _⟩) ?_
  · rintro ⟨i, hi⟩ f
    obtain ⟨q, h_q⟩ : ∃ q, decide (i < 64) = q := ⟨_, rfl⟩
    have h_q' := (nat_lt i 64).trans h_q
    change VOk _ _ _ _ _
    refine vseq ?_
    apply vrp
    · apply VE.cons
      · exact ev_lss rfl (gn rfl) rfl rfl h_q'
      simp only [nm, seval]
      exact VE.nil _
    · kernel_rfl
    change VOk _ _ _ _ _
    refine vseq ?_
    cases q
    · refine vcond_f rfl ?_
      have hi64 : i = 64 := by have := of_decide_eq_false h_q; omega
      subst hi64
      refine vexit ?_
      change VOk _ _ _ _ _
      refine vseq ?_
      apply vrp
      · apply VE.cons
        · exact ev_move rfl (gn rfl)
        simp only [nm, seval]
        apply VE.cons
        · exact ev_assign rfl (gn rfl)
        simp only [nm, seval]
        exact VE.nil _
      · kernel_rfl
      change VOk _ _ _ _ _
      refine vret ?_
      refine post_ret (res1 Tryd.results22 (rv_tmp rfl)) ?_
      intro ρ w' hr
      refine ⟨_, rfl, ?_, hr.1⟩
      have hh := ret_row (id := 7) hr rfl
      rw [padK_eq hkl] at hh
      exact hh
    · refine vcond_t rfl ?_
      have hlt : i < 64 := of_decide_eq_true h_q
      refine vskip ?_
      change VOk _ _ _ _ _
      refine vseq ?_
      refine vblock ?_
      refine vseq ?_
      apply vrp
      · apply VE.cons
        · exact ev_move rfl (gn rfl)
        simp only [nm, seval]
        apply VE.cons
        · exact ev_assign rfl (gn rfl)
        simp only [nm, seval]
        exact VE.nil _
      · kernel_rfl
      change VOk _ _ _ _ _
      apply vrp
      · apply VE.cons
        · exact ev_move rfl (gn rfl)
        simp only [nm, seval]
        apply VE.cons
        · exact ev_move rfl (gn rfl)
        simp only [nm, seval]
        apply VE.cons
        · exact ev_idx (k := i) rfl (gn rfl) rfl rfl Tryd.underlying27 Tryd.sizeOf5 (rdg_row rfl) (hlt) (by decide)
        simp only [nm, seval]
        apply VE.cons
        · exact ev_loadi rfl (gn rfl) rfl Tryd.underlying5 rfl (rdg_row rfl) (by rw [List.getElem?_map, padI_get (by rw [hKl]; exact hlt)]; rfl)
        simp only [nm, seval]
        apply VE.cons
        · exact ev_move rfl (gn rfl)
        simp only [nm, seval]
        apply VE.cons
        · exact ev_bin rfl (gn rfl) rfl rfl (fun w => xor8 (getD_lt hK8 _) hx _ _ w)
        simp only [nm, seval]
        apply VE.cons
        · exact ev_idx (k := i) rfl (gn rfl) rfl rfl Tryd.underlying27 Tryd.sizeOf5 (rdg_row rfl) (hlt) (by decide)
        simp only [nm, seval]
        apply VE.cons
        · exact ev_storei (l' := (padI (keyP key) x (i + 1)).map b8) rfl (gn rfl) rfl rfl rfl Tryd.sizeOf5 (b8_one _) rfl hlt (by rw [← padI_set (by rw [hKl]; exact hlt), List.map_set])
        simp only [nm, seval]
        exact VE.nil _
      · kernel_rfl
      change VOk _ _ _ _ _
      apply vrp
      · apply VE.cons
        · exact ev_add (c := ((i + 1 : Nat) : Int)) rfl (gn rfl) rfl rfl (by rw [i64w (by omega) (by omega)]; omega)
        simp only [nm, seval]
        apply VE.cons
        · exact ev_move rfl (gn rfl)
        simp only [nm, seval]
        exact VE.nil _
      · kernel_rfl
      refine ⟨⟨i + 1, by omega⟩, by show 64 - (i + 1) < 64 - i; omega, ?_⟩
      exact weaker_forget (fun i => i == 1 || i == 5 || i == 12 || i == 13) []
  · rw [show Z64 = (padI (keyP key) x 0).map b8 by subst h0; exact Z64_eq]
    exact weaker_forget (fun i => i == 1 || i == 5 || i == 12 || i == 13) []
theorem pad_p {v : Value} {key : List Nat} {S : Nat → Prop} {x : Nat} (w : World) (hv : SlAt w v key.length 1 (key.map b8) S) (hkl : key.length ≤ 64) (hk8 : ∀ y ∈ key, y < 256) (hx : x < 256) (h0 : 0 < key.length) : Calls Tryd.prog 22 #[v, b8 x] w fun e w' => ∃ v', e = .returned v' ∧ RetRow w w' v' 64 1 5 ((padK key x).map b8) ∧ Bw w w' := by
  have hKl := keyP_len hkl
  have hK8 := keyP_lt hk8
  go_enter Tryd.func22, Tryd.ntmps22
  refine ve_go ?_
  simp only [List.map_cons, List.map_nil]
  refine vseq ?_
  apply vrp
  · apply VE.cons
    · exact ev_assign rfl (gn rfl)
    simp only [nm, seval]
    exact VE.nil _
  · kernel_rfl
  change VOk _ _ _ _ _
  refine vseq ?_
  apply vrp
  · apply VE.cons
    · exact ev_makerow (k := 64) Z64 rfl rfl rfl (gn rfl) rfl rfl Tryd.underlying27 el5 Tryd.zeroValue5 rfl (by decide)
    simp only [nm, seval]
    apply VE.cons
    · exact ev_assign rfl (gn rfl)
    simp only [nm, seval]
    exact VE.nil _
  · kernel_rfl
  change VOk _ _ _ _ _
  refine vseq ?_
  apply vrp
  · apply VE.cons
    · exact ev_move rfl (gn rfl)
    simp only [nm, seval]
    apply VE.cons
    · exact ev_move rfl (gn rfl)
    simp only [nm, seval]
    apply VE.cons
    · exact ev_copyrow (l' := (padI (keyP key) x 0).map b8) rfl (gn rfl) rfl rfl rfl (rdg_arg hv) Tryd.underlying27 (by kernel_rfl) hkl h0 (by decide) (b8_all _) (Z64_key hkl)
    simp only [nm, seval]
    exact VE.nil _
  · kernel_rfl
  change VOk _ _ _ _ _
  refine vseq ?_
  refine vseq ?_
  apply vrp
  · apply VE.cons
    · exact ev_move rfl (gn rfl)
    simp only [nm, seval]
    apply VE.cons
    · exact ev_len rfl (gn rfl) rfl Tryd.underlying27 (rdg_row rfl)
    simp only [nm, seval]
    apply VE.cons
    · exact ev_move rfl (gn rfl)
    simp only [nm, seval]
    exact VE.nil _
  · kernel_rfl
  change VOk _ _ _ _ _
  refine vblock ?_
  refine vloop_w (α := {y : Nat // y ≤ 64}) (fun (y : {y : Nat // y ≤ 64}) f => ⟨[.v (f 0), .v (b8 x), .v (f 2), .v (f 3), .v (f 4), .d 7, .v (f 6), .v (f 7), .v (f 8), .v (f 9), .v (f 10), .v (f 11), .v (.int .i64 64), .v (.int .i64 (y.1 : Nat)), .v (f 14), .v (f 15), .v (f 16), .v (f 17), .v (f 18), .v (f 19), .v (f 20), .v (f 21), .v (f 22), .v (f 23), .v (f 24)], memOf [(7, .row 64 1 5 (.exact ((padI (keyP key) x y.1).map b8)))]⟩) (fun y => 64 - y.1) ?_ (⟨0, Nat.zero_le _⟩) ?_
  · rintro ⟨i, hi⟩ f
    obtain ⟨q, h_q⟩ : ∃ q, decide (i < 64) = q := ⟨_, rfl⟩
    have h_q' := (nat_lt i 64).trans h_q
    change VOk _ _ _ _ _
    refine vseq ?_
    apply vrp
    · apply VE.cons
      · exact ev_lss rfl (gn rfl) rfl rfl h_q'
      simp only [nm, seval]
      exact VE.nil _
    · kernel_rfl
    change VOk _ _ _ _ _
    refine vseq ?_
    cases q
    · refine vcond_f rfl ?_
      have hi64 : i = 64 := by have := of_decide_eq_false h_q; omega
      subst hi64
      refine vexit ?_
      change VOk _ _ _ _ _
      refine vseq ?_
      apply vrp
      · apply VE.cons
        · exact ev_move rfl (gn rfl)
        simp only [nm, seval]
        apply VE.cons
        · exact ev_assign rfl (gn rfl)
        simp only [nm, seval]
        exact VE.nil _
      · kernel_rfl
      change VOk _ _ _ _ _
      refine vret ?_
      refine post_ret (res1 Tryd.results22 (rv_tmp rfl)) ?_
      intro ρ w' hr
      refine ⟨_, rfl, ?_, hr.1⟩
      have hh := ret_row (id := 7) hr rfl
      rw [padK_eq hkl] at hh
      exact hh
    · refine vcond_t rfl ?_
      have hlt : i < 64 := of_decide_eq_true h_q
      refine vskip ?_
      change VOk _ _ _ _ _
      refine vseq ?_
      refine vblock ?_
      refine vseq ?_
      apply vrp
      · apply VE.cons
        · exact ev_move rfl (gn rfl)
        simp only [nm, seval]
        apply VE.cons
        · exact ev_assign rfl (gn rfl)
        simp only [nm, seval]
        exact VE.nil _
      · kernel_rfl
      change VOk _ _ _ _ _
      apply vrp
      · apply VE.cons
        · exact ev_move rfl (gn rfl)
        simp only [nm, seval]
        apply VE.cons
        · exact ev_move rfl (gn rfl)
        simp only [nm, seval]
        apply VE.cons
        · exact ev_idx (k := i) rfl (gn rfl) rfl rfl Tryd.underlying27 Tryd.sizeOf5 (rdg_row rfl) (hlt) (by decide)
        simp only [nm, seval]
        apply VE.cons
        · exact ev_loadi rfl (gn rfl) rfl Tryd.underlying5 rfl (rdg_row rfl) (by rw [List.getElem?_map, padI_get (by rw [hKl]; exact hlt)]; rfl)
        simp only [nm, seval]
        apply VE.cons
        · exact ev_move rfl (gn rfl)
        simp only [nm, seval]
        apply VE.cons
        · exact ev_bin rfl (gn rfl) rfl rfl (fun w => xor8 (getD_lt hK8 _) hx _ _ w)
        simp only [nm, seval]
        apply VE.cons
        · exact ev_idx (k := i) rfl (gn rfl) rfl rfl Tryd.underlying27 Tryd.sizeOf5 (rdg_row rfl) (hlt) (by decide)
        simp only [nm, seval]
        apply VE.cons
        · exact ev_storei (l' := (padI (keyP key) x (i + 1)).map b8) rfl (gn rfl) rfl rfl rfl Tryd.sizeOf5 (b8_one _) rfl hlt (by rw [← padI_set (by rw [hKl]; exact hlt), List.map_set])
        simp only [nm, seval]
        exact VE.nil _
      · kernel_rfl
      change VOk _ _ _ _ _
      apply vrp
      · apply VE.cons
        · exact ev_add (c := ((i + 1 : Nat) : Int)) rfl (gn rfl) rfl rfl (by rw [i64w (by omega) (by omega)]; omega)
        simp only [nm, seval]
        apply VE.cons
        · exact ev_move rfl (gn rfl)
        simp only [nm, seval]
        exact VE.nil _
      · kernel_rfl
      refine ⟨⟨i + 1, by omega⟩, by show 64 - (i + 1) < 64 - i; omega, ?_⟩
      exact weaker_forget (fun i => i == 1 || i == 5 || i == 12 || i == 13) []
  · exact weaker_forget (fun i => i == 1 || i == 5 || i == 12 || i == 13) []
theorem pad_ok {v : Value} {key : List Nat} {S : Nat → Prop} {x : Nat} (w : World) (hv : SlAt w v key.length 1 (key.map b8) S) (hkl : key.length ≤ 64) (hk8 : ∀ y ∈ key, y < 256) (hx : x < 256) : Calls Tryd.prog 22 #[v, b8 x] w fun e w' => ∃ v', e = .returned v' ∧ RetRow w w' v' 64 1 5 ((padK key x).map b8) ∧ Bw w w' := by
  by_cases h0 : 0 < key.length
  · exact pad_p w hv hkl hk8 hx h0
  · exact pad_0 w hv hkl hk8 hx (List.eq_nil_of_length_eq_zero (by omega))
end Go.Proofs.YtdhklekkpkbfeaaDoor
