import Derived.Test.YtmgmiiongleaeaaDoorDc
namespace Go.Proofs.YtmgmiiongleaeaaDoor
open Go.RowKit Go.Vx
open Go.Toll (Gw)
set_option maxHeartbeats 4000000
set_option maxRecDepth 100000
inductive Tr where
  | mk (tag : Int) (body : List Nat) (kids : List Tr)
mutual
/-- a node of the program's, in its three cells. -/
def DN (w : World) (S : Nat → Prop) : Tr → List Value → Prop
  | .mk t b ks, xs => ∃ bv kv cs, xs = [.int .i64 t, bv, kv] ∧ SlAt w bv b.length 1 (b.map b8) S ∧ SlAt w kv ks.length 3 cs S ∧ DNs w S ks cs
def DNs (w : World) (S : Nat → Prop) : List Tr → List Value → Prop
  | [], xs => xs = []
  | k :: ks, xs => ∃ x y, xs = x ++ y ∧ DN w S k x ∧ DNs w S ks y
end
mutual
/-- a node of the document's. -/
def RN (w : World) (S : Nat → Prop) : Tr → List Value → Prop
  | .mk t b ks, xs => ∃ kv cs, xs = [.int .i64 t, .string (bstr b), kv] ∧ SlAt w kv ks.length 3 cs S ∧ RNs w S ks cs
def RNs (w : World) (S : Nat → Prop) : List Tr → List Value → Prop
  | [], xs => xs = []
  | k :: ks, xs => ∃ x y, xs = x ++ y ∧ RN w S k x ∧ RNs w S ks y
end
mutual
def Tr.ok : Tr → Prop
  | .mk _ b ks => (∀ x ∈ b, x < 256) ∧ b.length ≤ 1048576 ∧ ks.length ≤ 1048576 ∧ oks ks
def oks : List Tr → Prop
  | [] => True
  | k :: ks => k.ok ∧ oks ks
end
mutual
def rightT : Tr → Nat → Bool
  | .mk t b ks, d => bif decide (d > 8) then false else bif !(madeT t) then (decide (ks.length = 0) && bodyT t b) else bif (decide (b.length > 0) || decide (ks.length > 20)) then false else !(notR ks (d + 1))
def notR : List Tr → Nat → Bool
  | [], _ => false
  | k :: ks, d => !(rightT k d) || notR ks d
end
def nr (d : Nat) (k : Tr) : Bool := !(rightT k (d + 1))
theorem notR_any (d : Nat) : ∀ ks, notR ks d = ks.any (fun k => !(rightT k d))
  | [] => by simp [notR]
  | k :: ks => by simp only [notR, List.any_cons, notR_any d ks]
theorem DN_len {w : World} {S : Nat → Prop} {t : Tr} {xs : List Value} (h : DN w S t xs) : xs.length = 3 := by
  cases t with
  | mk t b ks => simp only [DN] at h; obtain ⟨_, _, _, rfl, _⟩ := h; rfl
theorem RN_len {w : World} {S : Nat → Prop} {t : Tr} {xs : List Value} (h : RN w S t xs) : xs.length = 3 := by
  cases t with
  | mk t b ks => simp only [RN] at h; obtain ⟨_, _, rfl, _⟩ := h; rfl
theorem DNs_get {w : World} {S : Nat → Prop} : ∀ {ks : List Tr} {cs : List Value}, DNs w S ks cs → ∀ {i : Nat} {k : Tr}, ks[i]? = some k → ∃ x, (cs.drop (i * 3)).take 3 = x ∧ DN w S k x
  | [], _, _, i, k, h => by cases h
  | k0 :: ks, cs, h, i, k, hk => by
    simp only [DNs] at h
    obtain ⟨x, y, rfl, h1, h2⟩ := h
    have hx := DN_len h1
    cases i with
    | zero =>
      simp only [List.getElem?_cons_zero, Option.some.injEq] at hk
      subst hk
      exact ⟨x, by rw [Nat.zero_mul, List.drop_zero, ← hx]; exact List.take_left, h1⟩
    | succ i =>
      obtain ⟨x', e, h3⟩ := DNs_get h2 (i := i) (k := k) (by simpa using hk)
      refine ⟨x', ?_, h3⟩
      rw [show (i + 1) * 3 = 3 + i * 3 by omega, ← hx, List.drop_append, List.drop_of_length_le (by omega), List.nil_append, ← e, hx]
      congr 2
      omega
theorem RNs_get {w : World} {S : Nat → Prop} : ∀ {ks : List Tr} {cs : List Value}, RNs w S ks cs → ∀ {i : Nat} {k : Tr}, ks[i]? = some k → ∃ x, (cs.drop (i * 3)).take 3 = x ∧ RN w S k x
  | [], _, _, i, k, h => by cases h
  | k0 :: ks, cs, h, i, k, hk => by
    simp only [RNs] at h
    obtain ⟨x, y, rfl, h1, h2⟩ := h
    have hx := RN_len h1
    cases i with
    | zero =>
      simp only [List.getElem?_cons_zero, Option.some.injEq] at hk
      subst hk
      exact ⟨x, by rw [Nat.zero_mul, List.drop_zero, ← hx]; exact List.take_left, h1⟩
    | succ i =>
      obtain ⟨x', e, h3⟩ := RNs_get h2 (i := i) (k := k) (by simpa using hk)
      refine ⟨x', ?_, h3⟩
      rw [show (i + 1) * 3 = 3 + i * 3 by omega, ← hx, List.drop_append, List.drop_of_length_le (by omega), List.nil_append, ← e, hx]
      congr 2
      omega
mutual
theorem DN_bw {w w' : World} {S : Nat → Prop} (hb : Bw w w') : ∀ {t : Tr} {xs : List Value}, DN w S t xs → DN w' S t xs
  | .mk t b ks, xs, h => by
    simp only [DN] at h ⊢
    obtain ⟨bv, kv, cs, h1, h2, h3, h4⟩ := h
    exact ⟨bv, kv, cs, h1, sl_bw h2 hb, sl_bw h3 hb, DNs_bw hb h4⟩
theorem DNs_bw {w w' : World} {S : Nat → Prop} (hb : Bw w w') : ∀ {ks : List Tr} {xs : List Value}, DNs w S ks xs → DNs w' S ks xs
  | [], xs, h => by simp only [DNs] at h ⊢; exact h
  | k :: ks, xs, h => by
    simp only [DNs] at h ⊢
    obtain ⟨x, y, h1, h2, h3⟩ := h
    exact ⟨x, y, h1, DN_bw hb h2, DNs_bw hb h3⟩
end
mutual
theorem RN_bw {w w' : World} {S : Nat → Prop} (hb : Bw w w') : ∀ {t : Tr} {xs : List Value}, RN w S t xs → RN w' S t xs
  | .mk t b ks, xs, h => by
    simp only [RN] at h ⊢
    obtain ⟨kv, cs, h1, h3, h4⟩ := h
    exact ⟨kv, cs, h1, sl_bw h3 hb, RNs_bw hb h4⟩
theorem RNs_bw {w w' : World} {S : Nat → Prop} (hb : Bw w w') : ∀ {ks : List Tr} {xs : List Value}, RNs w S ks xs → RNs w' S ks xs
  | [], xs, h => by simp only [RNs] at h ⊢; exact h
  | k :: ks, xs, h => by
    simp only [RNs] at h ⊢
    obtain ⟨x, y, h1, h2, h3⟩ := h
    exact ⟨x, y, h1, RN_bw hb h2, RNs_bw hb h3⟩
end
def idxG {α : Type} (p : α → Bool) : List α → Nat → Int
  | [], _ => -1
  | b :: r, k => if p b then (k : Nat) else idxG p r (k + 1)
theorem idxG_t {α : Type} {p : α → Bool} {b : α} {r : List α} {k : Nat} (h : p b = true) : idxG p (b :: r) k = (k : Nat) := if_pos h
theorem idxG_f {α : Type} {p : α → Bool} {b : α} {r : List α} {k : Nat} (h : p b = false) : idxG p (b :: r) k = idxG p r (k + 1) := if_neg (by simp [h])
theorem idxG_any {α : Type} (p : α → Bool) : ∀ (l : List α) (k : Nat), decide (idxG p l k ≥ 0) = l.any p
  | [], k => by simp [idxG]
  | b :: r, k => by
    cases h : p b with
    | true => rw [idxG_t h, List.any_cons, h, Bool.true_or]; exact decide_eq_true (by omega)
    | false => rw [idxG_f h, idxG_any p r (k + 1), List.any_cons, h, Bool.false_or]
def RightOK (t : Tr) : Prop := ∀ (d : Nat) (xs : List Value) (w : World) (S : Nat → Prop), d ≤ 9 → DN w S t xs → Calls Tryd.prog 31 #[.agg xs.toArray, .int .i64 (d : Nat)] w fun e w' => e = .returned (.bool (rightT t d)) ∧ Bw w w'
theorem clo_ok {k : Tr} (ih : RightOK k) {t : Int} {bv kv : Value} {a : Addr} {d : Nat} {S : Nat → Prop} (w : World) (hx : DN w S k [.int .i64 t, bv, kv]) (hc : w.cell? a = some (.int .i64 (d : Nat))) (hd : d ≤ 8) : Calls Tryd.prog 44 #[.agg #[.int .i64 t, bv, kv], .pointer (some a)] w fun e w' => e = .returned (.bool (nr d k)) ∧ Bw w w' := by
  go_enter Tryd.func44, Tryd.ntmps44
  refine ve_go ?_
  simp only [List.map_cons, List.map_nil]
  refine vseq ?_
  apply vrp
  · apply VE.cons
    · exact ev_box rfl rfl (gn rfl) rfl
    simp only [nm, seval]
    apply VE.cons
    · exact ev_assign rfl (gn rfl)
    simp only [nm, seval]
    exact VE.nil _
  · kernel_rfl
  change VOk _ _ _ _ _
  refine vseq ?_
  apply vrp
  · apply VE.cons
    · first | exact ev_load rfl (gn rfl) rfl rfl Tryd.underlying29 rfl Tryd.sizeOf29 rfl rfl | exact ev_loadx rfl (gn rfl) rfl Tryd.underlying29 rfl Tryd.sizeOf29 (by assumption) rfl | exact ev_loada rfl (gn rfl) rfl rfl Tryd.underlying29 rfl Tryd.sizeOf29 rfl
    simp only [nm, seval]
    apply VE.cons
    · first | exact ev_load1 rfl (gn rfl) rfl rfl Tryd.underlying3 rfl rfl | exact ev_loadx1 rfl (gn rfl) rfl Tryd.underlying3 rfl (by assumption)
    simp only [nm, seval]
    apply VE.cons
    · exact ev_add (c := ((d + 1 : Nat) : Int)) rfl (gn rfl) rfl rfl (by rw [i64w (by omega) (by omega)]; omega)
    simp only [nm, seval]
    apply VE.cons
    · exact ev_callb rfl (gn rfl) rfl (en_of Tryd.func31 (by kernel_rfl) rfl) (fun w' hb => ih (d + 1) _ w' _ (by omega) (DN_bw hb hx))
    simp only [nm, seval]
    apply VE.cons
    · exact ev_not rfl (gn rfl) rfl
    simp only [nm, seval]
    apply VE.cons
    · exact ev_assign rfl (gn rfl)
    simp only [nm, seval]
    exact VE.nil _
  · kernel_rfl
  change VOk _ _ _ _ _
  refine vret ?_
  refine post_ret (res1 Tryd.results44 (rv_tmp rfl)) ?_
  intro ρ w' hr
  exact ⟨rfl, hr.1⟩
theorem indexn_ok {kv : Value} {ks : List Tr} {cs : List Value} {a : Addr} {d : Nat} {S : Nat → Prop} (w : World) (hih : ∀ k ∈ ks, RightOK k) (hv : SlAt w kv ks.length 3 cs S) (hn : DNs w S ks cs) (hm : ks.length ≤ 1048576) (hc : w.cell? a = some (.int .i64 (d : Nat))) (hd : d ≤ 8) : Calls Tryd.prog 55 #[kv, cloV 44 (.pointer (some a))] w fun e w' => e = .returned (.int .i64 (idxG (nr d) ks 0)) ∧ Bw w w' := by
  go_enter Tryd.func55, Tryd.ntmps55
  refine ve_go ?_
  simp only [List.map_cons, List.map_nil]
  refine vseq ?_
  apply vrp
  · apply VE.cons
    · exact ev_assign rfl (gn rfl)
    simp only [nm, seval]
    exact VE.nil _
  · kernel_rfl
  change VOk _ _ _ _ _
  refine vseq ?_
  refine vseq ?_
  apply vrp
  · apply VE.cons
    · exact ev_move rfl (gn rfl)
    simp only [nm, seval]
    apply VE.cons
    · exact ev_len rfl (gn rfl) rfl Tryd.underlying27 (rdg_arg hv)
    simp only [nm, seval]
    apply VE.cons
    · exact ev_move rfl (gn rfl)
    simp only [nm, seval]
    exact VE.nil _
  · kernel_rfl
  change VOk _ _ _ _ _
  refine vblock ?_
  refine vloop_w (α := {i : Nat // i ≤ ks.length ∧ idxG (nr d) ks 0 = idxG (nr d) (ks.drop i) i}) (fun (x : {i : Nat // i ≤ ks.length ∧ idxG (nr d) ks 0 = idxG (nr d) (ks.drop i) i}) f => ⟨[.v kv, .v (cloV 44 (.pointer (some a))), .v (f 2), .v (f 3), .v (f 4), .v (f 5), .v kv, .v (.int .i64 (ks.length : Nat)), .v (.int .i64 (x.1 : Nat)), .v (f 9), .v (f 10), .v (f 11), .v (f 12), .v (f 13), .v (f 14), .v (f 15), .v (f 16), .v (f 17), .v (f 18)], memOf []⟩) (fun x => ks.length - x.1) ?_ (⟨0, Nat.zero_le _, rfl⟩) ?_
  · rintro ⟨i, hi, hidx⟩ f
    obtain ⟨q, h_q⟩ : ∃ q, decide ((i : Int) < (ks.length : Int)) = q := ⟨_, rfl⟩
    change VOk _ _ _ _ _
    refine vseq ?_
    apply vrp
    · apply VE.cons
      · exact ev_lss rfl (gn rfl) rfl rfl h_q
      simp only [nm, seval]
      exact VE.nil _
    · kernel_rfl
    change VOk _ _ _ _ _
    refine vseq ?_
    cases q
    · refine vcond_f rfl ?_
      have hge : ks.length ≤ i := by have := of_decide_eq_false h_q; omega
      rw [List.drop_eq_nil_of_le hge] at hidx
      refine vexit ?_
      change VOk _ _ _ _ _
      refine vseq ?_
      apply vrp
      · apply VE.cons
        · exact ev_assign rfl (gn rfl)
        simp only [nm, seval]
        exact VE.nil _
      · kernel_rfl
      change VOk _ _ _ _ _
      refine vret ?_
      refine post_ret (res1 Tryd.results55 (rv_tmp rfl)) ?_
      intro ρ w' hr
      (first | (refine ⟨?_, hr.1⟩; rw [hidx]; rfl) | (refine ⟨?_, hr.1⟩; rw [hidx, drop_get hk, idxG_t h_q2]; rfl))
    · refine vcond_t rfl ?_
      have hlt : i < ks.length := by have := of_decide_eq_true h_q; omega
      obtain ⟨kk, hk⟩ := get_some hlt
      obtain ⟨x, hx, hdn⟩ := DNs_get hn hk
      obtain ⟨t, b, kks, rfl⟩ : ∃ t b kks, kk = Tr.mk t b kks := by cases kk with | mk t b kks => exact ⟨t, b, kks, rfl⟩
      have hdn' := hdn
      simp only [DN] at hdn'
      obtain ⟨bv', kv', cs', rfl, _, _, _⟩ := hdn'
      obtain ⟨q2, h_q2⟩ : ∃ q2, nr d (.mk t b kks) = q2 := ⟨_, rfl⟩
      refine vskip ?_
      change VOk _ _ _ _ _
      refine vseq ?_
      refine vblock ?_
      refine vseq ?_
      apply vrp
      · apply VE.cons
        · exact ev_move rfl (gn rfl)
        simp only [nm, seval]
        apply VE.cons
        · exact ev_assign rfl (gn rfl)
        simp only [nm, seval]
        exact VE.nil _
      · kernel_rfl
      change VOk _ _ _ _ _
      refine vseq ?_
      apply vrp
      · apply VE.cons
        · exact ev_move rfl (gn rfl)
        simp only [nm, seval]
        apply VE.cons
        · exact ev_move rfl (gn rfl)
        simp only [nm, seval]
        apply VE.cons
        · exact ev_move rfl (gn rfl)
        simp only [nm, seval]
        apply VE.cons
        · exact ev_idx (k := i) rfl (gn rfl) rfl rfl Tryd.underlying27 Tryd.sizeOf29 (rdg_arg hv) (hlt) (by decide)
        simp only [nm, seval]
        apply VE.cons
        · exact ev_loadp rfl (gn rfl) rfl Tryd.underlying29 rfl Tryd.sizeOf29 (rdg_arg hv) (hx) rfl (by decide)
        simp only [nm, seval]
        apply VE.cons
        · exact ev_callv rfl (gn rfl) rfl rfl (en_of Tryd.func44 (by kernel_rfl) rfl) (fun w' hb => h_q2 ▸ clo_ok (hih _ (List.mem_of_getElem? hk)) w' (DN_bw hb hdn) (hb.cell hc) hd)
        simp only [nm, seval]
        exact VE.nil _
      · kernel_rfl
      change VOk _ _ _ _ _
      cases q2
      · refine vcond_f rfl ?_
        refine vskip ?_
        change VOk _ _ _ _ _
        apply vrp
        · apply VE.cons
          · exact ev_add (c := ((i + 1 : Nat) : Int)) rfl (gn rfl) rfl rfl (by rw [i64w (by omega) (by omega)]; omega)
          simp only [nm, seval]
          apply VE.cons
          · exact ev_move rfl (gn rfl)
          simp only [nm, seval]
          exact VE.nil _
        · kernel_rfl
        refine ⟨⟨i + 1, by omega, by rw [hidx, drop_get hk, idxG_f h_q2]⟩, by show ks.length - (i + 1) < ks.length - i; omega, ?_⟩
        exact weaker_forget (fun i => i == 0 || i == 1 || i == 6 || i == 7 || i == 8) []
      · refine vcond_t rfl ?_
        refine vseq ?_
        apply vrp
        · apply VE.cons
          · exact ev_move rfl (gn rfl)
          simp only [nm, seval]
          apply VE.cons
          · exact ev_assign rfl (gn rfl)
          simp only [nm, seval]
          exact VE.nil _
        · kernel_rfl
        change VOk _ _ _ _ _
        refine vret ?_
        refine post_ret (res1 Tryd.results55 (rv_tmp rfl)) ?_
        intro ρ w' hr
        (first | (refine ⟨?_, hr.1⟩; rw [hidx]; rfl) | (refine ⟨?_, hr.1⟩; rw [hidx, drop_get hk, idxG_t h_q2]; rfl))
  · exact weaker_forget (fun i => i == 0 || i == 1 || i == 6 || i == 7 || i == 8) []
theorem containsn_ok {kv : Value} {ks : List Tr} {cs : List Value} {a : Addr} {d : Nat} {S : Nat → Prop} (w : World) (hih : ∀ k ∈ ks, RightOK k) (hv : SlAt w kv ks.length 3 cs S) (hn : DNs w S ks cs) (hm : ks.length ≤ 1048576) (hc : w.cell? a = some (.int .i64 (d : Nat))) (hd : d ≤ 8) : Calls Tryd.prog 43 #[kv, cloV 44 (.pointer (some a))] w fun e w' => e = .returned (.bool (notR ks (d + 1))) ∧ Bw w w' := by
  go_enter Tryd.func43, Tryd.ntmps43
  refine ve_go ?_
  simp only [List.map_cons, List.map_nil]
  refine vseq ?_
  apply vrp
  · apply VE.cons
    · exact ev_assign rfl (gn rfl)
    simp only [nm, seval]
    exact VE.nil _
  · kernel_rfl
  change VOk _ _ _ _ _
  refine vseq ?_
  apply vrp
  · apply VE.cons
    · exact ev_move rfl (gn rfl)
    simp only [nm, seval]
    apply VE.cons
    · exact ev_move rfl (gn rfl)
    simp only [nm, seval]
    apply VE.cons
    · exact ev_callb rfl (gn rfl) rfl (en_of Tryd.func55 (by kernel_rfl) rfl) (fun w' hb => indexn_ok w' hih (sl_bw hv hb) (DNs_bw hb hn) hm (hb.cell hc) hd)
    simp only [nm, seval]
    apply VE.cons
    · exact ev_geq rfl (gn rfl) rfl rfl ((idxG_any _ ks 0).trans (notR_any (d + 1) ks).symm)
    simp only [nm, seval]
    apply VE.cons
    · exact ev_assign rfl (gn rfl)
    simp only [nm, seval]
    exact VE.nil _
  · kernel_rfl
  change VOk _ _ _ _ _
  refine vret ?_
  refine post_ret (res1 Tryd.results43 (rv_tmp rfl)) ?_
  intro ρ w' hr
  exact ⟨rfl, hr.1⟩
theorem right_step {t : Int} {b : List Nat} {ks : List Tr} {bv kv : Value} {cs : List Value} {d : Nat} {S : Nat → Prop} (w : World) (hih : ∀ k ∈ ks, RightOK k) (hbv : SlAt w bv b.length 1 (b.map b8) S) (hv : SlAt w kv ks.length 3 cs S) (hn : DNs w S ks cs) (h8 : ∀ x ∈ b, x < 256) (hbl : b.length ≤ 1048576) (hm : ks.length ≤ 1048576) (hd9 : d ≤ 9) : Calls Tryd.prog 31 #[.agg #[.int .i64 t, bv, kv], .int .i64 (d : Nat)] w fun e w' => e = .returned (.bool (rightT (.mk t b ks) d)) ∧ Bw w w' := by
  unfold rightT
  obtain ⟨q1, h_q1⟩ : ∃ p, decide (d > 8) = p := ⟨_, rfl⟩
  obtain ⟨q2, h_q2⟩ : ∃ p, madeT t = p := ⟨_, rfl⟩
  obtain ⟨q3, h_q3⟩ : ∃ p, decide (ks.length = 0) = p := ⟨_, rfl⟩
  obtain ⟨q5, h_q5⟩ : ∃ p, decide (b.length > 0) = p := ⟨_, rfl⟩
  obtain ⟨q6, h_q6⟩ : ∃ p, decide (ks.length > 20) = p := ⟨_, rfl⟩
  rw [h_q1, h_q2, h_q3, h_q5, h_q6]
  have h_q1' := (nat_gt d 8).trans h_q1
  have h_q3' := (nat_eq ks.length 0).trans h_q3
  have h_q5' := (nat_gt b.length 0).trans h_q5
  have h_q6' := (nat_gt ks.length 20).trans h_q6
  go_enter Tryd.func31, Tryd.ntmps31
  refine ve_go ?_
  simp only [List.map_cons, List.map_nil]
  refine vseq ?_
  apply vrp
  · apply VE.cons
    · exact ev_box rfl rfl (gn rfl) rfl
    simp only [nm, seval]
    apply VE.cons
    · exact ev_box rfl rfl (gn rfl) rfl
    simp only [nm, seval]
    apply VE.cons
    · exact ev_assign rfl (gn rfl)
    simp only [nm, seval]
    exact VE.nil _
  · kernel_rfl
  change VOk _ _ _ _ _
  refine vseq ?_
  refine vblock ?_
  refine vseq ?_
  apply vrp
  · apply VE.cons
    · first | exact ev_load1 rfl (gn rfl) rfl rfl Tryd.underlying3 rfl rfl | exact ev_loadx1 rfl (gn rfl) rfl Tryd.underlying3 rfl (by assumption)
    simp only [nm, seval]
    apply VE.cons
    · exact ev_gtr rfl (gn rfl) rfl rfl h_q1'
    simp only [nm, seval]
    apply VE.cons
    · exact ev_assign rfl (gn rfl)
    simp only [nm, seval]
    exact VE.nil _
  · kernel_rfl
  change VOk _ _ _ _ _
  cases q1
  · refine vcond_f rfl ?_
    refine vseq ?_
    apply vrp
    · apply VE.cons
      · first | exact ev_field rfl (gn rfl) rfl Tryd.underlying29 rfl Tryd.sizeOf3 | exact ev_fieldx rfl (gn rfl) rfl Tryd.underlying29 rfl Tryd.sizeOf3
      simp only [nm, seval]
      apply VE.cons
      · first | exact ev_load1 rfl (gn rfl) rfl rfl Tryd.underlying3 rfl rfl | exact ev_loadx1 rfl (gn rfl) rfl Tryd.underlying3 rfl (by assumption)
      simp only [nm, seval]
      apply VE.cons
      · exact ev_callb (v := .bool q2) rfl (gn rfl) rfl (en_of Tryd.func41 (by kernel_rfl) rfl) (fun w' hb => h_q2 ▸ made_ok t w')
      simp only [nm, seval]
      apply VE.cons
      · exact ev_not rfl (gn rfl) rfl
      simp only [nm, seval]
      apply VE.cons
      · exact ev_assign rfl (gn rfl)
      simp only [nm, seval]
      exact VE.nil _
    · kernel_rfl
    change VOk _ _ _ _ _
    cases q2
    · refine vcond_t rfl ?_
      cases q3 <;>
      (
        refine vseq ?_
        apply vrp
        · apply VE.cons
          · first | exact ev_field rfl (gn rfl) rfl Tryd.underlying29 rfl Tryd.sizeOf27 | exact ev_fieldx rfl (gn rfl) rfl Tryd.underlying29 rfl Tryd.sizeOf27
          simp only [nm, seval]
          apply VE.cons
          · first | exact ev_load1 rfl (gn rfl) rfl rfl Tryd.underlying27 rfl rfl | exact ev_loadx1 rfl (gn rfl) rfl Tryd.underlying27 rfl (by assumption)
          simp only [nm, seval]
          apply VE.cons
          · exact ev_len rfl (gn rfl) rfl Tryd.underlying27 (rdg_arg hv)
          simp only [nm, seval]
          apply VE.cons
          · exact ev_eql rfl (gn rfl) rfl rfl h_q3'
          simp only [nm, seval]
          apply VE.cons
          · exact ev_move rfl (gn rfl)
          simp only [nm, seval]
          apply VE.cons
          · first | exact Ev.skip (fun _ => rfl) | exact ev_field rfl (fun _ => rfl) rfl Tryd.underlying29 rfl Tryd.sizeOf3 | exact ev_fieldx rfl (fun _ => rfl) rfl Tryd.underlying29 rfl Tryd.sizeOf3
          simp only [nm, seval]
          apply VE.cons
          · first | exact Ev.skip (fun _ => rfl) | exact ev_load1 rfl (fun _ => rfl) rfl rfl Tryd.underlying3 rfl rfl | exact ev_loadx1 rfl (fun _ => rfl) rfl Tryd.underlying3 rfl (by assumption)
          simp only [nm, seval]
          apply VE.cons
          · first | exact Ev.skip (fun _ => rfl) | exact ev_field rfl (fun _ => rfl) rfl Tryd.underlying29 rfl Tryd.sizeOf26 | exact ev_fieldx rfl (fun _ => rfl) rfl Tryd.underlying29 rfl Tryd.sizeOf26
          simp only [nm, seval]
          apply VE.cons
          · first | exact Ev.skip (fun _ => rfl) | exact ev_load1 rfl (fun _ => rfl) rfl rfl Tryd.underlying26 rfl rfl | exact ev_loadx1 rfl (fun _ => rfl) rfl Tryd.underlying26 rfl (by assumption)
          simp only [nm, seval]
          apply VE.cons
          · first | exact Ev.skip (fun _ => rfl) | exact ev_callb rfl (fun _ => rfl) rfl (en_of Tryd.func42 (by kernel_rfl) rfl) (fun w' hb => body_ok t w' (sl_bw hbv hb) (by omega) h8)
          simp only [nm, seval]
          apply VE.cons
          · first | exact ev_pick_t rfl (gn rfl) rfl rfl | exact ev_pick_f rfl (gn rfl) rfl rfl
          simp only [nm, seval]
          apply VE.cons
          · exact ev_assign rfl (gn rfl)
          simp only [nm, seval]
          exact VE.nil _
        · kernel_rfl
        change VOk _ _ _ _ _
        refine vret ?_
        refine post_ret (res1 Tryd.results31 (rv_tmp rfl)) ?_
        intro ρ w' hr
        exact ⟨rfl, hr.1⟩
      )
    · refine vcond_f rfl ?_
      cases q5 <;> cases q6 <;>
      (
        refine vseq ?_
        apply vrp
        · apply VE.cons
          · first | exact ev_field rfl (gn rfl) rfl Tryd.underlying29 rfl Tryd.sizeOf26 | exact ev_fieldx rfl (gn rfl) rfl Tryd.underlying29 rfl Tryd.sizeOf26
          simp only [nm, seval]
          apply VE.cons
          · first | exact ev_load1 rfl (gn rfl) rfl rfl Tryd.underlying26 rfl rfl | exact ev_loadx1 rfl (gn rfl) rfl Tryd.underlying26 rfl (by assumption)
          simp only [nm, seval]
          apply VE.cons
          · exact ev_len rfl (gn rfl) rfl Tryd.underlying26 (rdg_arg hbv)
          simp only [nm, seval]
          apply VE.cons
          · exact ev_gtr rfl (gn rfl) rfl rfl h_q5'
          simp only [nm, seval]
          apply VE.cons
          · exact ev_move rfl (gn rfl)
          simp only [nm, seval]
          apply VE.cons
          · first | exact Ev.skip (fun _ => rfl) | exact ev_field rfl (fun _ => rfl) rfl Tryd.underlying29 rfl Tryd.sizeOf27 | exact ev_fieldx rfl (fun _ => rfl) rfl Tryd.underlying29 rfl Tryd.sizeOf27
          simp only [nm, seval]
          apply VE.cons
          · first | exact Ev.skip (fun _ => rfl) | exact ev_load1 rfl (fun _ => rfl) rfl rfl Tryd.underlying27 rfl rfl | exact ev_loadx1 rfl (fun _ => rfl) rfl Tryd.underlying27 rfl (by assumption)
          simp only [nm, seval]
          apply VE.cons
          · first | exact Ev.skip (fun _ => rfl) | exact ev_len rfl (fun _ => rfl) rfl Tryd.underlying27 (rdg_arg hv)
          simp only [nm, seval]
          apply VE.cons
          · first | exact Ev.skip (fun _ => rfl) | exact ev_gtr rfl (fun _ => rfl) rfl rfl h_q6'
          simp only [nm, seval]
          apply VE.cons
          · first | exact ev_pick_t rfl (gn rfl) rfl rfl | exact ev_pick_f rfl (gn rfl) rfl rfl
          simp only [nm, seval]
          apply VE.cons
          · exact ev_assign rfl (gn rfl)
          simp only [nm, seval]
          exact VE.nil _
        · kernel_rfl
        change VOk _ _ _ _ _
        first
        | (
            refine vcond_t rfl ?_
            refine vseq ?_
            apply vrp
            · apply VE.cons
              · exact ev_assign rfl (gn rfl)
              simp only [nm, seval]
              exact VE.nil _
            · kernel_rfl
            change VOk _ _ _ _ _
            refine vret ?_
            refine post_ret (res1 Tryd.results31 (rv_tmp rfl)) ?_
            intro ρ w' hr
            exact ⟨rfl, hr.1⟩
          )
        | (
            refine vcond_f rfl ?_
            refine vskip ?_
            change VOk _ _ _ _ _
            refine vseq ?_
            apply vrp
            · apply VE.cons
              · first | exact ev_field rfl (gn rfl) rfl Tryd.underlying29 rfl Tryd.sizeOf27 | exact ev_fieldx rfl (gn rfl) rfl Tryd.underlying29 rfl Tryd.sizeOf27
              simp only [nm, seval]
              apply VE.cons
              · first | exact ev_load1 rfl (gn rfl) rfl rfl Tryd.underlying27 rfl rfl | exact ev_loadx1 rfl (gn rfl) rfl Tryd.underlying27 rfl (by assumption)
              simp only [nm, seval]
              apply VE.cons
              · exact ev_makefunc rfl (gn rfl) rfl
              simp only [nm, seval]
              apply VE.cons
              · exact ev_callp (v := .bool (notR ks (d + 1))) [3] rfl (gn rfl) rfl (en_of Tryd.func43 (by kernel_rfl) rfl) (fun ρ S' w' hb hR => containsn_ok w' hih (sl_bw hv hb) (DNs_bw hb hn) hm (relon_cells hR (by simp) rfl 0 [.int .i64 (d : Nat)] rfl 0 _ rfl) (by have := of_decide_eq_false h_q1; omega))
              simp only [nm, seval]
              apply VE.cons
              · exact ev_not rfl (gn rfl) rfl
              simp only [nm, seval]
              apply VE.cons
              · exact ev_assign rfl (gn rfl)
              simp only [nm, seval]
              exact VE.nil _
            · kernel_rfl
            change VOk _ _ _ _ _
            refine vret ?_
            refine post_ret (res1 Tryd.results31 (rv_tmp rfl)) ?_
            intro ρ w' hr
            exact ⟨rfl, hr.1⟩
          )
      )
  · refine vcond_t rfl ?_
    refine vseq ?_
    apply vrp
    · apply VE.cons
      · exact ev_assign rfl (gn rfl)
      simp only [nm, seval]
      exact VE.nil _
    · kernel_rfl
    change VOk _ _ _ _ _
    refine vret ?_
    refine post_ret (res1 Tryd.results31 (rv_tmp rfl)) ?_
    intro ρ w' hr
    exact ⟨rfl, hr.1⟩
mutual
theorem right_all : ∀ t : Tr, t.ok → RightOK t
  | .mk t b ks, h => fun d xs w S hd hx => by
    simp only [Tr.ok] at h
    simp only [DN] at hx
    obtain ⟨bv, kv, cs, rfl, h2, h3, h4⟩ := hx
    exact right_step w (rights_all ks h.2.2.2) h2 h3 h4 h.1 h.2.1 h.2.2.1 hd
theorem rights_all : ∀ ks : List Tr, oks ks → ∀ k ∈ ks, RightOK k
  | [], _ => fun k hk => by cases hk
  | k0 :: ks, h => fun k hk => by
    simp only [oks] at h
    rcases List.mem_cons.1 hk with e | hk
    · exact e ▸ right_all k0 h.1
    · exact rights_all ks h.2 k hk
end
end Go.Proofs.YtmgmiiongleaeaaDoor
