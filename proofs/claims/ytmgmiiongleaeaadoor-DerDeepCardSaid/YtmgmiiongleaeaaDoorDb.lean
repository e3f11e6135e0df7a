import Derived.Test.YtmgmiiongleaeaaDoorDa
namespace Go.Proofs.YtmgmiiongleaeaaDoor
open Go.RowKit Go.Vx
open Go.Toll (Gw)
set_option maxHeartbeats 4000000
set_option maxRecDepth 100000
def idxT (p : Nat → Bool) : List Nat → Nat → Int
  | [], _ => -1
  | b :: r, k => if p b then (k : Nat) else idxT p r (k + 1)
theorem idxT_any (p : Nat → Bool) : ∀ (l : List Nat) (k : Nat), decide (idxT p l k ≥ 0) = l.any p
  | [], k => by simp [idxT]
  | b :: r, k => by
    by_cases h : p b = true
    · have e : idxT p (b :: r) k = (k : Nat) := if_pos h
      rw [e, List.any_cons, h, Bool.true_or]; exact decide_eq_true (by omega)
    · have e : idxT p (b :: r) k = idxT p r (k + 1) := if_neg h
      rw [e, idxT_any p r (k + 1), List.any_cons]; simp [h]
theorem get_some {α : Type} {l : List α} {i : Nat} (h : i < l.length) : ∃ x, l[i]? = some x := ⟨l[i], List.getElem?_eq_getElem h⟩
theorem drop_get {α : Type} {l : List α} {i : Nat} {x : α} (h : l[i]? = some x) : l.drop i = x :: l.drop (i + 1) := by
  obtain ⟨hi, e⟩ := List.getElem?_eq_some_iff.1 h
  rw [List.drop_eq_getElem_cons hi, e]
theorem map_get {bs : List Nat} {i b : Nat} (h : bs[i]? = some b) : (bs.map b8)[i]? = some (b8 b) := by rw [List.getElem?_map, h]; rfl
theorem len_lt {w : World} {v : Value} {n size : Nat} {l : List Value} {S : Nat → Prop} (h : SlAt w v n size l S) (_hs : 0 < size) (_hm : True) : l.length = n * size := by
  obtain ⟨_, _, _, _, h, _⟩ := h; exact h
theorem indexb_ok {v : Value} {bs : List Nat} {S : Nat → Prop} {fid : FuncId} {cap : Array Value} {p : Nat → Bool} (w : World) (hv : SlAt w v bs.length 1 (bs.map b8) S) (hm : bs.length < 9223372036854775807) (he : ∀ args w, (callFunc fid args).run Tryd.prog w = .ok (.enter fid args) w) (hc : ∀ b ∈ bs, ∀ w', Bw w w' → Calls Tryd.prog fid (#[] ++ [b8 b].toArray ++ cap) w' fun e w'' => e = .returned (.bool (p b)) ∧ Bw w' w'') : Calls Tryd.prog 66 #[v, .func (.func fid) #[] cap] w fun e w' => e = .returned (.int .i64 (idxT p bs 0)) ∧ Bw w w' := by
  go_enter Tryd.func66, Tryd.ntmps66
  refine ve_go ?_
  simp only [List.map_cons, List.map_nil]
  refine vseq ?_
  apply vrp
  · apply VE.cons
    · exact ev_assign rfl (gn rfl)
    simp only [nm, seval]
    exact VE.nil _
  · kernel_rfl
  change VOk _ _ _ _ _
  refine vseq ?_
  refine vseq ?_
  apply vrp
  · apply VE.cons
    · exact ev_move rfl (gn rfl)
    simp only [nm, seval]
    apply VE.cons
    · exact ev_len rfl (gn rfl) rfl Tryd.underlying26 (rdg_arg hv)
    simp only [nm, seval]
    apply VE.cons
    · exact ev_move rfl (gn rfl)
    simp only [nm, seval]
    exact VE.nil _
  · kernel_rfl
  change VOk _ _ _ _ _
  refine vblock ?_
  refine vloop_w (α := {i : Nat // i ≤ bs.length ∧ idxT p bs 0 = idxT p (bs.drop i) i}) (fun (x : {i : Nat // i ≤ bs.length ∧ idxT p bs 0 = idxT p (bs.drop i) i}) f => ⟨[.v v, .v (.func (.func fid) #[] cap), .v (f 2), .v (f 3), .v (f 4), .v (f 5), .v v, .v (.int .i64 (bs.length : Nat)), .v (.int .i64 (x.1 : Nat)), .v (f 9), .v (f 10), .v (f 11), .v (f 12), .v (f 13), .v (f 14), .v (f 15), .v (f 16), .v (f 17), .v (f 18)], memOf []⟩) (fun x => bs.length - x.1) ?_ (⟨0, Nat.zero_le _, rfl⟩) ?_
  · rintro ⟨i, hi, hidx⟩ f
    obtain ⟨q, h_q⟩ : ∃ q, decide ((i : Int) < (bs.length : Int)) = q := ⟨_, rfl⟩
    change VOk _ _ _ _ _
    refine vseq ?_
    apply vrp
    · apply VE.cons
      · exact ev_lss rfl (gn rfl) rfl rfl h_q
      simp only [nm, seval]
      exact VE.nil _
    · kernel_rfl
    change VOk _ _ _ _ _
    refine vseq ?_
    cases q
    · refine vcond_f rfl ?_
      have hge : bs.length ≤ i := by have := of_decide_eq_false h_q; omega
      rw [List.drop_eq_nil_of_le hge] at hidx
      refine vexit ?_
      change VOk _ _ _ _ _
      refine vseq ?_
      apply vrp
      · apply VE.cons
        · exact ev_assign rfl (gn rfl)
        simp only [nm, seval]
        exact VE.nil _
      · kernel_rfl
      change VOk _ _ _ _ _
      refine vret ?_
      refine post_ret (res1 Tryd.results66 (rv_tmp rfl)) ?_
      intro ρ w' hr
      first | (refine ⟨?_, hr.1⟩; rw [hidx]; rfl) | (refine ⟨?_, hr.1⟩; rw [hidx, drop_get hb]; simp only [idxT, h_q2]; rfl)
    · refine vcond_t rfl ?_
      have hlt : i < bs.length := by have := of_decide_eq_true h_q; omega
      obtain ⟨b, hb⟩ := get_some hlt
      obtain ⟨q2, h_q2⟩ : ∃ q2, p b = q2 := ⟨_, rfl⟩
      refine vskip ?_
      change VOk _ _ _ _ _
      refine vseq ?_
      refine vblock ?_
      refine vseq ?_
      apply vrp
      · apply VE.cons
        · exact ev_move rfl (gn rfl)
        simp only [nm, seval]
        apply VE.cons
        · exact ev_assign rfl (gn rfl)
        simp only [nm, seval]
        exact VE.nil _
      · kernel_rfl
      change VOk _ _ _ _ _
      refine vseq ?_
      apply vrp
      · apply VE.cons
        · exact ev_move rfl (gn rfl)
        simp only [nm, seval]
        apply VE.cons
        · exact ev_move rfl (gn rfl)
        simp only [nm, seval]
        apply VE.cons
        · exact ev_move rfl (gn rfl)
        simp only [nm, seval]
        apply VE.cons
        · exact ev_idx (k := i) rfl (gn rfl) rfl rfl Tryd.underlying26 Tryd.sizeOf5 (rdg_arg hv) (hlt) (by decide)
        simp only [nm, seval]
        apply VE.cons
        · exact ev_loadi rfl (gn rfl) rfl Tryd.underlying5 rfl (rdg_arg hv) (map_get hb)
        simp only [nm, seval]
        apply VE.cons
        · exact ev_callv rfl (gn rfl) rfl rfl he (fun w' hbw => h_q2 ▸ hc b (List.mem_of_getElem? hb) w' hbw)
        simp only [nm, seval]
        exact VE.nil _
      · kernel_rfl
      change VOk _ _ _ _ _
      cases q2
      · refine vcond_f rfl ?_
        refine vskip ?_
        change VOk _ _ _ _ _
        apply vrp
        · apply VE.cons
          · exact ev_add (c := ((i + 1 : Nat) : Int)) rfl (gn rfl) rfl rfl (by rw [i64w (by omega) (by omega)]; omega)
          simp only [nm, seval]
          apply VE.cons
          · exact ev_move rfl (gn rfl)
          simp only [nm, seval]
          exact VE.nil _
        · kernel_rfl
        refine ⟨⟨i + 1, by omega, by rw [hidx, drop_get hb]; simp only [idxT, h_q2]; rfl⟩, by show bs.length - (i + 1) < bs.length - i; omega, ?_⟩
        exact weaker_forget (fun i => i == 0 || i == 1 || i == 6 || i == 7 || i == 8) []
      · refine vcond_t rfl ?_
        refine vseq ?_
        apply vrp
        · apply VE.cons
          · exact ev_move rfl (gn rfl)
          simp only [nm, seval]
          apply VE.cons
          · exact ev_assign rfl (gn rfl)
          simp only [nm, seval]
          exact VE.nil _
        · kernel_rfl
        change VOk _ _ _ _ _
        refine vret ?_
        refine post_ret (res1 Tryd.results66 (rv_tmp rfl)) ?_
        intro ρ w' hr
        first | (refine ⟨?_, hr.1⟩; rw [hidx]; rfl) | (refine ⟨?_, hr.1⟩; rw [hidx, drop_get hb]; simp only [idxT, h_q2]; rfl)
  · exact weaker_forget (fun i => i == 0 || i == 1 || i == 6 || i == 7 || i == 8) []
theorem containsb_ok {v : Value} {bs : List Nat} {S : Nat → Prop} {fid : FuncId} {cap : Array Value} {p : Nat → Bool} (w : World) (hv : SlAt w v bs.length 1 (bs.map b8) S) (hm : bs.length < 9223372036854775807) (he : ∀ args w, (callFunc fid args).run Tryd.prog w = .ok (.enter fid args) w) (hc : ∀ b ∈ bs, ∀ w', Bw w w' → Calls Tryd.prog fid (#[] ++ [b8 b].toArray ++ cap) w' fun e w'' => e = .returned (.bool (p b)) ∧ Bw w' w'') : Calls Tryd.prog 61 #[v, .func (.func fid) #[] cap] w fun e w' => e = .returned (.bool (bs.any p)) ∧ Bw w w' := by
  go_enter Tryd.func61, Tryd.ntmps61
  refine ve_go ?_
  simp only [List.map_cons, List.map_nil]
  refine vseq ?_
  apply vrp
  · apply VE.cons
    · exact ev_assign rfl (gn rfl)
    simp only [nm, seval]
    exact VE.nil _
  · kernel_rfl
  change VOk _ _ _ _ _
  refine vseq ?_
  apply vrp
  · apply VE.cons
    · exact ev_move rfl (gn rfl)
    simp only [nm, seval]
    apply VE.cons
    · exact ev_move rfl (gn rfl)
    simp only [nm, seval]
    apply VE.cons
    · exact ev_callb rfl (gn rfl) rfl (en_of Tryd.func66 (by kernel_rfl) rfl) (fun w' hb => indexb_ok w' (sl_bw hv hb) hm he (fun b h2 w'' h3 => hc b h2 w'' (hb.trans h3)))
    simp only [nm, seval]
    apply VE.cons
    · exact ev_geq rfl (gn rfl) rfl rfl (idxT_any p bs 0)
    simp only [nm, seval]
    apply VE.cons
    · exact ev_assign rfl (gn rfl)
    simp only [nm, seval]
    exact VE.nil _
  · kernel_rfl
  change VOk _ _ _ _ _
  refine vret ?_
  refine post_ret (res1 Tryd.results61 (rv_tmp rfl)) ?_
  intro ρ w' hr
  exact ⟨rfl, hr.1⟩
theorem plain_ok {v : Value} {bs : List Nat} {S : Nat → Prop} (w : World) (hv : SlAt w v bs.length 1 (bs.map b8) S) (hm : bs.length < 9223372036854775807) : Calls Tryd.prog 54 #[v] w fun e w' => e = .returned (.bool (plainT bs)) ∧ Bw w w' := by
  go_enter Tryd.func54, Tryd.ntmps54
  refine ve_go ?_
  simp only [List.map_cons, List.map_nil]
  refine vseq ?_
  apply vrp
  · apply VE.cons
    · exact ev_assign rfl (gn rfl)
    simp only [nm, seval]
    exact VE.nil _
  · kernel_rfl
  change VOk _ _ _ _ _
  refine vseq ?_
  apply vrp
  · apply VE.cons
    · exact ev_move rfl (gn rfl)
    simp only [nm, seval]
    apply VE.cons
    · exact ev_callb rfl (gn rfl) rfl (en_of Tryd.func61 (by kernel_rfl) rfl) (fun w' hb => containsb_ok w' (sl_bw hv hb) hm (en_of Tryd.func62 (by kernel_rfl) rfl) (fun b _ w'' _ => plainf_ok b w''))
    simp only [nm, seval]
    apply VE.cons
    · exact ev_not rfl (gn rfl) rfl
    simp only [nm, seval]
    apply VE.cons
    · exact ev_assign rfl (gn rfl)
    simp only [nm, seval]
    exact VE.nil _
  · kernel_rfl
  change VOk _ _ _ _ _
  refine vret ?_
  refine post_ret (res1 Tryd.results54 (rv_tmp rfl)) ?_
  intro ρ w' hr
  exact ⟨rfl, hr.1⟩
def oidGo : Bool → List Nat → Option Bool
  | a, [] => some a
  | a, b :: r => if a && decide (b = 128) then none else oidGo (decide (b < 128)) r
def oidT (bs : List Nat) : Bool := match oidGo true bs with | none => false | some a => decide (bs.length > 0) && a
theorem oidGo_t {a : Bool} {b : Nat} {r : List Nat} (h : (a && decide (b = 128)) = true) : oidGo a (b :: r) = none := if_pos h
theorem oidGo_f {a : Bool} {b : Nat} {r : List Nat} (h : (a && decide (b = 128)) = false) : oidGo a (b :: r) = oidGo (decide (b < 128)) r := if_neg (by simp [h])
theorem oid_ok {v : Value} {bs : List Nat} {S : Nat → Prop} (w : World) (hv : SlAt w v bs.length 1 (bs.map b8) S) (hm : bs.length < 9223372036854775807) : Calls Tryd.prog 53 #[v] w fun e w' => e = .returned (.bool (oidT bs)) ∧ Bw w w' := by
  go_enter Tryd.func53, Tryd.ntmps53
  refine ve_go ?_
  simp only [List.map_cons, List.map_nil]
  refine vseq ?_
  apply vrp
  · apply VE.cons
    · exact ev_assign rfl (gn rfl)
    simp only [nm, seval]
    exact VE.nil _
  · kernel_rfl
  change VOk _ _ _ _ _
  refine vseq ?_
  apply vrp
  · apply VE.cons
    · exact ev_assign rfl (gn rfl)
    simp only [nm, seval]
    exact VE.nil _
  · kernel_rfl
  change VOk _ _ _ _ _
  refine vseq ?_
  refine vseq ?_
  apply vrp
  · apply VE.cons
    · exact ev_move rfl (gn rfl)
    simp only [nm, seval]
    apply VE.cons
    · exact ev_len rfl (gn rfl) rfl Tryd.underlying26 (rdg_arg hv)
    simp only [nm, seval]
    apply VE.cons
    · exact ev_move rfl (gn rfl)
    simp only [nm, seval]
    exact VE.nil _
  · kernel_rfl
  change VOk _ _ _ _ _
  refine vblock ?_
  refine vloop_w (α := {x : Nat × Bool // x.1 ≤ bs.length ∧ oidGo true bs = oidGo x.2 (bs.drop x.1)}) (fun (x : {x : Nat × Bool // x.1 ≤ bs.length ∧ oidGo true bs = oidGo x.2 (bs.drop x.1)}) f => ⟨[.v v, .v (f 1), .v (.bool false), .v (.bool x.1.2), .v (f 4), .v (f 5), .v v, .v (.int .i64 (bs.length : Nat)), .v (.int .i64 (x.1.1 : Nat)), .v (f 9), .v (f 10), .v (f 11), .v (f 12), .v (f 13), .v (f 14), .v (f 15), .v (f 16), .v (f 17), .v (f 18), .v (f 19), .v (f 20), .v (f 21), .v (f 22), .v (f 23), .v (f 24), .v (f 25)], memOf []⟩) (fun x => bs.length - x.1.1) ?_ (⟨(0, true), Nat.zero_le _, rfl⟩) ?_
  · rintro ⟨⟨i, bg⟩, hi, hgo⟩ f
    simp only at hi hgo
    obtain ⟨q, h_q⟩ : ∃ q, decide ((i : Int) < (bs.length : Int)) = q := ⟨_, rfl⟩
    change VOk _ _ _ _ _
    refine vseq ?_
    apply vrp
    · apply VE.cons
      · exact ev_lss rfl (gn rfl) rfl rfl h_q
      simp only [nm, seval]
      exact VE.nil _
    · kernel_rfl
    change VOk _ _ _ _ _
    refine vseq ?_
    cases q
    · refine vcond_f rfl ?_
      have hge : bs.length ≤ i := by have := of_decide_eq_false h_q; omega
      rw [List.drop_eq_nil_of_le hge] at hgo
      obtain ⟨q5, h_q5⟩ : ∃ q5, decide (bs.length > 0) = q5 := ⟨_, rfl⟩
      have h_q5' := (nat_gt bs.length 0).trans h_q5
      cases bg <;> cases q5 <;>
      (
        refine vexit ?_
        change VOk _ _ _ _ _
        refine vseq ?_
        apply vrp
        · apply VE.cons
          · exact ev_move rfl (gn rfl)
          simp only [nm, seval]
          apply VE.cons
          · exact ev_len rfl (gn rfl) rfl Tryd.underlying26 (rdg_arg hv)
          simp only [nm, seval]
          apply VE.cons
          · exact ev_gtr rfl (gn rfl) rfl rfl h_q5'
          simp only [nm, seval]
          apply VE.cons
          · exact ev_move rfl (gn rfl)
          simp only [nm, seval]
          apply VE.cons
          · first | exact Ev.skip (fun _ => rfl) | exact ev_move rfl (fun _ => rfl)
          simp only [nm, seval]
          apply VE.cons
          · first | exact ev_pick_t rfl (gn rfl) rfl rfl | exact ev_pick_f rfl (gn rfl) rfl rfl
          simp only [nm, seval]
          apply VE.cons
          · exact ev_assign rfl (gn rfl)
          simp only [nm, seval]
          exact VE.nil _
        · kernel_rfl
        change VOk _ _ _ _ _
        refine vret ?_
        refine post_ret (res1 Tryd.results53 (rv_tmp rfl)) ?_
        intro ρ w' hr
        (first | (refine ⟨?_, hr.1⟩; unfold oidT; rw [hgo, drop_get hb, oidGo_t (by rw [h_q3]; rfl)]; rfl) | (refine ⟨?_, hr.1⟩; unfold oidT; rw [hgo]; simp only [oidGo, h_q5]; rfl))
      )
    · refine vcond_t rfl ?_
      have hlt : i < bs.length := by have := of_decide_eq_true h_q; omega
      obtain ⟨b, hb⟩ := get_some hlt
      obtain ⟨q3, h_q3⟩ : ∃ q3, decide (b = 128) = q3 := ⟨_, rfl⟩
      obtain ⟨q4, h_q4⟩ : ∃ q4, decide (b < 128) = q4 := ⟨_, rfl⟩
      have h_q3' := (nat_eq b 128).trans h_q3
      have h_q4' := (nat_lt b 128).trans h_q4
      cases bg <;> cases q3 <;>
      (
        refine vskip ?_
        change VOk _ _ _ _ _
        refine vseq ?_
        refine vblock ?_
        refine vseq ?_
        apply vrp
        · apply VE.cons
          · exact ev_idx (k := i) rfl (gn rfl) rfl rfl Tryd.underlying26 Tryd.sizeOf5 (rdg_arg hv) (hlt) (by decide)
          simp only [nm, seval]
          apply VE.cons
          · exact ev_loadi rfl (gn rfl) rfl Tryd.underlying5 rfl (rdg_arg hv) (map_get hb)
          simp only [nm, seval]
          apply VE.cons
          · exact ev_assign rfl (gn rfl)
          simp only [nm, seval]
          exact VE.nil _
        · kernel_rfl
        change VOk _ _ _ _ _
        refine vseq ?_
        refine vseq ?_
        apply vrp
        · apply VE.cons
          · exact ev_move rfl (gn rfl)
          simp only [nm, seval]
          apply VE.cons
          · exact ev_move rfl (gn rfl)
          simp only [nm, seval]
          apply VE.cons
          · first | exact Ev.skip (fun _ => rfl) | exact ev_move rfl (fun _ => rfl)
          simp only [nm, seval]
          apply VE.cons
          · first | exact Ev.skip (fun _ => rfl) | exact ev_eql rfl (fun _ => rfl) rfl rfl h_q3'
          simp only [nm, seval]
          apply VE.cons
          · first | exact ev_pick_t rfl (gn rfl) rfl rfl | exact ev_pick_f rfl (gn rfl) rfl rfl
          simp only [nm, seval]
          exact VE.nil _
        · kernel_rfl
        change VOk _ _ _ _ _
        first
        | (
            refine vcond_t rfl ?_
            refine vseq ?_
            apply vrp
            · apply VE.cons
              · exact ev_assign rfl (gn rfl)
              simp only [nm, seval]
              exact VE.nil _
            · kernel_rfl
            change VOk _ _ _ _ _
            refine vret ?_
            refine post_ret (res1 Tryd.results53 (rv_tmp rfl)) ?_
            intro ρ w' hr
            (first | (refine ⟨?_, hr.1⟩; unfold oidT; rw [hgo, drop_get hb, oidGo_t (by rw [h_q3]; rfl)]; rfl) | (refine ⟨?_, hr.1⟩; unfold oidT; rw [hgo]; simp only [oidGo, h_q5]; rfl))
          )
        | (
            refine vcond_f rfl ?_
            refine vskip ?_
            change VOk _ _ _ _ _
            apply vrp
            · apply VE.cons
              · exact ev_move rfl (gn rfl)
              simp only [nm, seval]
              apply VE.cons
              · exact ev_lss5 rfl (gn rfl) rfl rfl h_q4'
              simp only [nm, seval]
              apply VE.cons
              · exact ev_assign rfl (gn rfl)
              simp only [nm, seval]
              exact VE.nil _
            · kernel_rfl
            change VOk _ _ _ _ _
            apply vrp
            · apply VE.cons
              · exact ev_add (c := ((i + 1 : Nat) : Int)) rfl (gn rfl) rfl rfl (by rw [i64w (by omega) (by omega)]; omega)
              simp only [nm, seval]
              apply VE.cons
              · exact ev_move rfl (gn rfl)
              simp only [nm, seval]
              exact VE.nil _
            · kernel_rfl
            refine ⟨⟨(i + 1, q4), by show i + 1 ≤ bs.length; omega, by show oidGo true bs = oidGo q4 (bs.drop (i + 1)); rw [hgo, drop_get hb, oidGo_f (by rw [h_q3]; rfl), h_q4]⟩, by show bs.length - (i + 1) < bs.length - i; omega, ?_⟩
            exact weaker_forget (fun i => i == 0 || i == 2 || i == 3 || i == 6 || i == 7 || i == 8) []
          )
      )
  · exact weaker_forget (fun i => i == 0 || i == 2 || i == 3 || i == 6 || i == 7 || i == 8) []
end Go.Proofs.YtmgmiiongleaeaaDoor
