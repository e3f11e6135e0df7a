import Derived.Test.YtiidceljhmpgcaaDoorRows
import Derived.ProofKit
import Derived.OpenShut
import Derived.LaidMore
import Derived.Lay
import Derived.Stop.Joined
import Derived.ChangeSlices
import Derived.Lib.LaidTab
import Derived.Test.YtiidceljhmpgcaaDoorY7
section
namespace Go.Proofs.YtiidceljhmpgcaaDoor
open Go.RowKit Go.Vx
open Go.Toll (Gw)
open TollSha
set_option maxHeartbeats 4000000
set_option maxRecDepth 100000
def catF (n : Nat) (f g : Nat → Nat) : Nat → Nat := fun j => if j < n then f j else g (j - n)
theorem cat_eq (n k : Nat) (f g : Nat → Nat) : tb n f ++ tb k g = tb (n + k) (catF n f g) := by
  have h1 : tb n f = tb n (catF n f g) := tb_ext fun j hj => (if_pos hj).symm
  have h2 : tb k g = tb k (fun j => catF n f g (n + j)) := tb_ext fun j _ => by
    unfold catF
    rw [if_neg (by omega), Nat.add_sub_cancel_left]
  rw [h1, h2, tb_app]
theorem rec_tb (kf h iv : Nat → Nat) (n m : Nat) (f : Nat → Nat) (k p : Nat) : ∃ g, recL kf h iv n m f k p = tb (5 + (m + 1 + p + 16)) (catF 5 (hdF (m + 1 + p + 16)) g) := by
  unfold recL
  rw [cat_eq (m + 1 + p) 16, cat_eq]
  exact ⟨_, rfl⟩
theorem cat_lo {n : Nat} {f g : Nat → Nat} {j : Nat} (h : j < n) : catF n f g j = f j := if_pos h
section
variable {P : Program} {w0 : World} {ops : Array Oper} {o : Oper} {s : VS}
theorem ev_callsv {f : FuncId} {xs : Array Operand} {ats : Array TypeId} {vs : List SV} (val : SV) (rd : List Nat) (ho : o.op = .call { callee := .value (.func f), args := xs, argTypes := ats }) (hgd : Want ops o s)
    (hx : xs.toList.map (svEval s) = vs) (he : ∀ args w, (callFunc f args).run P w = .ok (.enter f args) w)
    (hc : ∀ ρ S w, Bw w0 w → RelOn w0.heap.size ρ S w (restr rd s.mem) → Calls P f (SV.cs ρ vs).toArray w fun e w' => e = .returned (val.c ρ) ∧ Bw w w') : Ev P ops w0 o s ⟨val, [], [], [], rd⟩ :=
  Ev.call f (fun ρ => (SV.cs ρ vs).toArray) val rd hgd (fun ρ w => by
    obtain ⟨dst, op, type, pos, after, guard⟩ := o
    simp only at ho
    subst ho
    rw [execOp_call_go, args_p, hx, ← cs_map]
    simpa using he (SV.cs ρ vs).toArray w) fun ρ S w hb hR => (hc ρ S w hb hR).mono fun _ _ ⟨h1, h2⟩ => ⟨by rw [h1], h2⟩
end
theorem inn_lo {m : Nat} {f : Nat → Nat} {k j : Nat} (h : j < m) : innF m f k j = f j := if_pos h
theorem inn_m {m : Nat} {f : Nat → Nat} {k : Nat} : innF m f k m = k := by unfold innF; rw [if_neg (by omega), if_pos rfl]
theorem inn_hi {m : Nat} {f : Nat → Nat} {k j : Nat} (h : m < j) : innF m f k j = 0 := by unfold innF; rw [if_neg (by omega), if_neg (by omega)]
theorem rec_hd {w : World} {v : Value} {n k : Nat} {f : Nat → Nat} {r : List Value} {S : Nat → Prop} (h : SlAt w v (n + k) 1 (tb n f ++ r) S) (_hr : r.length = k) : SlAt w (cutV 0 n 1 v) n 1 (tb n f) S := by
  have := sl_cut (lo := 0) (hi := n) h (Nat.zero_le _) (by omega)
  rw [Nat.zero_mul, List.drop_zero, Nat.mul_one, Nat.sub_zero, tbr_take (Nat.le_refl _)] at this
  exact this
theorem rec_tl {w : World} {v : Value} {n k : Nat} {f : Nat → Nat} {r : List Value} {S : Nat → Prop} (h : SlAt w v (n + k) 1 (tb n f ++ r) S) (hr : r.length = k) : SlAt w (cutV n (n + k) 1 v) k 1 r S := by
  have := sl_cut (lo := n) (hi := n + k) h (by omega) (Nat.le_refl _)
  rw [Nat.mul_one, Nat.mul_one, Nat.add_sub_cancel_left, List.drop_append_of_le_length (by rw [tb_len]; exact Nat.le_refl _), List.drop_of_length_le (by rw [tb_len]; exact Nat.le_refl _), List.nil_append, List.take_of_length_le (by rw [hr]; exact Nat.le_refl _)] at this
  exact this
theorem c_trim {ρ : Nat → Nm} {S1 : Nat → Nat → Prop} {w : World} {mm : Mem} {base i : Nat} {f : Nat → Nat} {m p k : Nat} (hR : RelOn base ρ S1 w (restr [i] mm)) (hi : mm i = some (.row (m + 1 + p) 1 5 (.exact (tb (m + 1 + p) (innF m f k))))) (hk : 0 < k) (hm : m + 1 + p < 1000000) :
    Calls Tryd.prog 23 (SV.cs ρ [.d i, .v (.string (ByteArray.mk #[0]))]).toArray w fun e w' => e = .returned ((SV.fn (cutV 0 (m + 1) 1) (.d i)).c ρ) ∧ Bw w w' := by
  obtain ⟨xs, x1, x2, x3⟩ := relon_get hR hi (by simp)
  have x2' : xs = tb (m + 1 + p) (innF m f k) := x2
  subst x2'
  exact trim_ok w (row_sl x3 x1) (by omega) (fun j h1 _ => inn_hi (by omega)) (fun _ => by rw [Nat.add_sub_cancel, inn_m]; omega) (by omega) (by omega)
theorem hOpen_ok {bp v : Value} {gh n m k p : Nat} {kf h iv f : Nat → Nat} {F S : Nat → Prop} (w : World) (hh : w.heap[gh]? = some (.cells (halfL bp iv n).toArray 47 (0, 0))) (hB : BoxAt w bp kf h F) (hF : Off w gh F) (hkf : By kf) (hhb : By h) (hiv : By iv) (hf : By f) (hv : SlAt w v (5 + ((m + 1 + p) + 16)) 1 (recL kf h iv n m f k p) S) (hS : Off w gh S) (hk1 : 21 ≤ k) (hk2 : k ≤ 23) (hm : m ≤ 1000) (hp : p ≤ 1000) (hn : n < 1000) : Calls Tryd.prog 8 #[.pointer (some ⟨gh, 0, none⟩), v] w fun e w' => ∃ v', e = .returned (.tuple #[.int .i64 (k : Nat), v', .int .i64 0]) ∧ TurnD w w' gh (halfL bp iv (n + 1)) 47 v' (.sl m 1 (tb m f)) := by
  have hk : k < 256 := by omega
  obtain ⟨G, hg⟩ := rec_tb kf h iv n m f k p
  go_enter Tryd.func8, Tryd.ntmps8
  refine ve_gob (own1R gh) (by simp [SV.c, own1R]) (own1_rel hh (.p 801 0 :: .v v :: .v undef :: .v undef :: .v undef :: .v undef :: .v undef :: .v undef :: .v undef :: .v undef :: .v undef :: .v undef :: .v undef :: .v undef :: .v undef :: .v undef :: .v undef :: .v undef :: .v undef :: .v undef :: .v undef :: .v undef :: .v undef :: .v undef :: .v undef :: .v undef :: .v undef :: .v undef :: .v undef :: .v undef :: .v undef :: .v undef :: .v undef :: .v undef :: .v undef :: .v undef :: .v undef :: .v undef :: .v undef :: .v undef :: .v undef :: .v undef :: .v undef :: .v undef :: .v undef :: .v undef :: .v undef :: .v undef :: .v undef :: .v undef :: .v undef :: .v undef :: .v undef :: .v undef :: .v undef :: .v undef :: .v undef :: .v undef :: .v undef :: .v undef :: .v undef :: .v undef :: .v undef :: .v undef :: .v undef :: .v undef :: .v undef :: .v undef :: .v undef :: .v undef :: .v undef :: .v undef :: .v undef :: .v undef :: .v undef :: .v undef :: .v undef :: .v undef :: .v undef :: .v undef :: .v undef :: [])) ?_
  simp only [own1M]
  refine vseq ?_
  apply vrp
  · apply VE.cons
    · exact ev_assign rfl (gn rfl)
    simp only [nm, seval]
    apply VE.cons
    · exact ev_assign rfl (gn rfl)
    simp only [nm, seval]
    apply VE.cons
    · exact ev_assign rfl (gn rfl)
    simp only [nm, seval]
    exact VE.nil _
  · kernel_rfl
  change VOk _ _ _ _ _
  refine vseq ?_
  refine vseq ?_
  apply vrp
  · apply VE.cons
    · exact ev_move rfl (gn rfl)
    simp only [nm, seval]
    apply VE.cons
    · exact ev_ptrnil26 rfl (gn rfl) rfl rfl
    simp only [nm, seval]
    exact VE.nil _
  · kernel_rfl
  change VOk _ _ _ _ _
  refine vcond_f rfl ?_
  refine vskip ?_
  change VOk _ _ _ _ _
  refine vseq ?_
  refine vseq ?_
  apply vrp
  · apply VE.cons
    · exact ev_move rfl (gn rfl)
    simp only [nm, seval]
    apply VE.cons
    · exact ev_callp (v := .int .i64 0) [803] rfl (gn rfl) rfl (en_of Tryd.func21 (by kernel_rfl) rfl) (fun ρ S w' hb hR => by have h := (hv.keep (fr_keep hR rfl rfl hS)); rw [hg] at h; exact alone_ok w' h rfl rfl rfl (by rw [cat_lo (by decide)]; show ((m + 1 + p) + 16) / 256 % 256 = _; omega) (by rw [cat_lo (by decide)]; rfl) (by omega))
    simp only [nm, seval]
    apply VE.cons
    · exact ev_assign rfl (gn rfl)
    simp only [nm, seval]
    exact VE.nil _
  · kernel_rfl
  change VOk _ _ _ _ _
  refine vseq ?_
  apply vrp
  · apply VE.cons
    · exact ev_move rfl (gn rfl)
    simp only [nm, seval]
    apply VE.cons
    · exact ev_neq (p := false) rfl (gn rfl) rfl rfl (by simp)
    simp only [nm, seval]
    exact VE.nil _
  · kernel_rfl
  change VOk _ _ _ _ _
  refine vcond_f rfl ?_
  refine vskip ?_
  change VOk _ _ _ _ _
  refine vseq ?_
  refine vblock ?_
  refine vseq ?_
  apply vrp
  · apply VE.cons
    · exact ev_move rfl (gn rfl)
    simp only [nm, seval]
    apply VE.cons
    · exact ev_idx (k := 0) rfl (gn rfl) rfl rfl Tryd.underlying28 Tryd.sizeOf5 (rdg_fr hv rfl hS) (by omega) (by decide)
    simp only [nm, seval]
    apply VE.cons
    · exact ev_loadi (v := b8 23) rfl (gn rfl) rfl Tryd.underlying5 rfl (rdg_fr hv rfl hS) (by rw [hg]; exact tb_get (by omega))
    simp only [nm, seval]
    apply VE.cons
    · exact ev_neq (p := false) rfl (gn rfl) rfl rfl (by simp)
    simp only [nm, seval]
    apply VE.cons
    · exact ev_assign rfl (gn rfl)
    simp only [nm, seval]
    exact VE.nil _
  · kernel_rfl
  change VOk _ _ _ _ _
  refine vcond_f rfl ?_
  refine vseq ?_
  apply vrp
  · apply VE.cons
    · exact ev_move rfl (gn rfl)
    simp only [nm, seval]
    apply VE.cons
    · first | exact ev_nil rfl (gn rfl) rfl | exact ev_nilx rfl (gn rfl) rfl
    simp only [nm, seval]
    apply VE.cons
    · first | exact ev_field rfl (gn rfl) rfl Tryd.underlying47 rfl Tryd.sizeOf3 | exact ev_fieldx rfl (gn rfl) rfl Tryd.underlying47 rfl Tryd.sizeOf3
    simp only [nm, seval]
    apply VE.cons
    · exact ev_load1r rfl (gn rfl) rfl rfl Tryd.underlying3 rfl (halfL_n bp iv n)
    simp only [nm, seval]
    apply VE.cons
    · exact ev_geq (p := false) rfl (gn rfl) rfl rfl (by simp; omega)
    simp only [nm, seval]
    apply VE.cons
    · exact ev_assign rfl (gn rfl)
    simp only [nm, seval]
    exact VE.nil _
  · kernel_rfl
  change VOk _ _ _ _ _
  refine vcond_f rfl ?_
  refine vskip ?_
  change VOk _ _ _ _ _
  refine vseq ?_
  apply vrd (by kernel_rfl)
  · apply VE.cons
    · exact ev_move rfl (gn rfl)
    simp only [nm, seval]
    apply VE.cons
    · first | exact ev_nil rfl (gn rfl) rfl | exact ev_nilx rfl (gn rfl) rfl
    simp only [nm, seval]
    apply VE.cons
    · first | exact ev_field rfl (gn rfl) rfl Tryd.underlying47 rfl Tryd.sizeOf42 | exact ev_fieldx rfl (gn rfl) rfl Tryd.underlying47 rfl Tryd.sizeOf42
    simp only [nm, seval]
    apply VE.cons
    · exact ev_load1r rfl (gn rfl) rfl rfl Tryd.underlying42 rfl (halfL_b bp iv n)
    simp only [nm, seval]
    apply VE.cons
    · exact ev_move rfl (gn rfl)
    simp only [nm, seval]
    apply VE.cons
    · exact ev_callp (v := .agg (tb 12 (ncF iv n)).toArray) [801] rfl (gn rfl) rfl (en_of Tryd.func20 (by kernel_rfl) rfl) (fun ρ S w' hb hR => nonce_ok w' (relon_get hR (id := 801) rfl (by simp)).2 hiv)
    simp only [nm, seval]
    apply VE.cons
    · exact ev_move rfl (gn rfl)
    simp only [nm, seval]
    apply VE.cons
    · exact ev_cut (a := 5) (b := (5 + ((m + 1 + p) + 16))) rfl (gn rfl) rfl Tryd.underlying28 Tryd.sizeOf5 (rdg_fr hv rfl hS) rfl rfl (by omega) (by omega)
    simp only [nm, seval]
    apply VE.cons
    · exact ev_move rfl (gn rfl)
    simp only [nm, seval]
    apply VE.cons
    · exact ev_cut (a := 0) (b := 5) rfl (gn rfl) rfl Tryd.underlying28 Tryd.sizeOf5 (rdg_fr hv rfl hS) rfl rfl (by omega) (by omega)
    simp only [nm, seval]
    apply VE.cons
    · exact ev_callrowt (l := tb (m + 1 + p) (innF m f k)) [803] rfl rfl (gn rfl) rfl (en_of Tryd.func22 (by kernel_rfl) rfl) (by rw [tb_len, Nat.mul_one]) (fun ρ S w' hb hR => gOpen_ok w' (hB.keep (fr_keep hR rfl rfl hF)) hkf hhb (ncF_by hiv n) (innF_by hf hk) (hdF_by _) (rec_tl (hv.keep (fr_keep hR rfl rfl hS)) (by rw [List.length_append, tb_len, tb_len])) (rec_hd (hv.keep (fr_keep hR rfl rfl hS)) (by rw [List.length_append, tb_len, tb_len])) (by omega) (by decide) (by omega) (by decide))
    simp only [nm, seval]
    apply VE.cons
    · exact ev_move rfl (gn rfl)
    simp only [nm, seval]
    apply VE.cons
    · first | exact ev_extract rfl (gn rfl) rfl rfl | exact ev_extractt rfl (gn rfl) rfl rfl
    simp only [nm, seval]
    apply VE.cons
    · first | exact ev_extract rfl (gn rfl) rfl rfl | exact ev_extractt rfl (gn rfl) rfl rfl
    simp only [nm, seval]
    apply VE.cons
    · exact ev_assign rfl (gn rfl)
    simp only [nm, seval]
    apply VE.cons
    · exact ev_assign rfl (gn rfl)
    simp only [nm, seval]
    exact VE.nil _
  · kernel_rfl
  change VOk _ _ _ _ _
  refine vseq ?_
  refine vseq ?_
  apply vrp
  · apply VE.cons
    · exact ev_move rfl (gn rfl)
    simp only [nm, seval]
    apply VE.cons
    · exact ev_neq (p := false) rfl (gn rfl) rfl rfl (by simp)
    simp only [nm, seval]
    exact VE.nil _
  · kernel_rfl
  change VOk _ _ _ _ _
  refine vcond_f rfl ?_
  refine vskip ?_
  change VOk _ _ _ _ _
  refine vseq ?_
  apply vrp
  · apply VE.cons
    · exact ev_move rfl (gn rfl)
    simp only [nm, seval]
    apply VE.cons
    · first | exact ev_nil rfl (gn rfl) rfl | exact ev_nilx rfl (gn rfl) rfl
    simp only [nm, seval]
    apply VE.cons
    · first | exact ev_field rfl (gn rfl) rfl Tryd.underlying47 rfl Tryd.sizeOf3 | exact ev_fieldx rfl (gn rfl) rfl Tryd.underlying47 rfl Tryd.sizeOf3
    simp only [nm, seval]
    apply VE.cons
    · exact ev_load1r rfl (gn rfl) rfl rfl Tryd.underlying3 rfl (halfL_n bp iv n)
    simp only [nm, seval]
    apply VE.cons
    · exact ev_add (c := ((n + 1 : Nat) : Int)) rfl (gn rfl) rfl rfl (by rw [i64w (by omega) (by omega)]; omega)
    simp only [nm, seval]
    apply VE.cons
    · first | exact ev_nil rfl (gn rfl) rfl | exact ev_nilx rfl (gn rfl) rfl
    simp only [nm, seval]
    apply VE.cons
    · first | exact ev_field rfl (gn rfl) rfl Tryd.underlying47 rfl Tryd.sizeOf3 | exact ev_fieldx rfl (gn rfl) rfl Tryd.underlying47 rfl Tryd.sizeOf3
    simp only [nm, seval]
    apply VE.cons
    · exact ev_store1s rfl (gn rfl) rfl rfl rfl Tryd.sizeOf3 rfl (by rw [half_len]; decide) rfl (half_set bp iv n (n + 1))
    simp only [nm, seval]
    exact VE.nil _
  · kernel_rfl
  change VOk _ _ _ _ _
  refine vseq ?_
  apply vrp
  · apply VE.cons
    · exact ev_move rfl (gn rfl)
    simp only [nm, seval]
    apply VE.cons
    · exact ev_callsv (.fn (cutV 0 (m + 1) 1) (.d 40)) [40] rfl (gn rfl) rfl (en_of Tryd.func23 (by kernel_rfl) rfl) (fun ρ S w' hb hR => c_trim (m := m) (p := p) (f := f) (k := k) hR rfl (by omega) (by omega))
    simp only [nm, seval]
    apply VE.cons
    · exact ev_assign rfl (gn rfl)
    simp only [nm, seval]
    exact VE.nil _
  · kernel_rfl
  change VOk _ _ _ _ _
  refine vseq ?_
  apply vrp
  · apply VE.cons
    · exact ev_move rfl (gn rfl)
    simp only [nm, seval]
    apply VE.cons
    · exact ev_len rfl (gn rfl) rfl Tryd.underlying28 (rdg_sub (lo := 0) (hi := m + 1) (n' := m + 1) (l' := tb (m + 1) (innF m f k)) (rdg_row rfl) (by omega) (by omega) (by rw [Nat.zero_mul, List.drop_zero, Nat.sub_zero, Nat.mul_one]; exact tb_take _ _ _ (by omega)) (by omega))
    simp only [nm, seval]
    apply VE.cons
    · exact ev_sub (c := ((m : Nat) : Int)) rfl (gn rfl) rfl rfl (by rw [i64w (by omega) (by omega)]; omega)
    simp only [nm, seval]
    apply VE.cons
    · exact ev_assign rfl (gn rfl)
    simp only [nm, seval]
    exact VE.nil _
  · kernel_rfl
  change VOk _ _ _ _ _
  refine vseq ?_
  refine vblock ?_
  refine vseq ?_
  apply vrp
  · apply VE.cons
    · exact ev_move rfl (gn rfl)
    simp only [nm, seval]
    apply VE.cons
    · exact ev_lss (p := false) rfl (gn rfl) rfl rfl (by simp)
    simp only [nm, seval]
    apply VE.cons
    · exact ev_move rfl (gn rfl)
    simp only [nm, seval]
    apply VE.cons
    · first | exact Ev.skip (fun _ => rfl) | exact ev_move rfl (fun _ => rfl)
    simp only [nm, seval]
    apply VE.cons
    · first | exact Ev.skip (fun _ => rfl) | exact ev_move rfl (fun _ => rfl)
    simp only [nm, seval]
    apply VE.cons
    · first | exact Ev.skip (fun _ => rfl) | exact ev_idx (k := m) rfl (fun _ => rfl) rfl rfl Tryd.underlying28 Tryd.sizeOf5 (rdg_sub (lo := 0) (hi := m + 1) (n' := m + 1) (l' := tb (m + 1) (innF m f k)) (rdg_row rfl) (by omega) (by omega) (by rw [Nat.zero_mul, List.drop_zero, Nat.sub_zero, Nat.mul_one]; exact tb_take _ _ _ (by omega)) (by omega)) (by omega) (by decide)
    simp only [nm, seval]
    apply VE.cons
    · first | exact Ev.skip (fun _ => rfl) | exact ev_loadi (v := b8 k) rfl (fun _ => rfl) rfl Tryd.underlying5 rfl (rdg_sub (lo := 0) (hi := m + 1) (n' := m + 1) (l' := tb (m + 1) (innF m f k)) (rdg_row rfl) (by omega) (by omega) (by rw [Nat.zero_mul, List.drop_zero, Nat.sub_zero, Nat.mul_one]; exact tb_take _ _ _ (by omega)) (by omega)) (by rw [tb_get (by omega), inn_m])
    simp only [nm, seval]
    apply VE.cons
    · first | exact Ev.skip (fun _ => rfl) | exact ev_conv rfl (fun _ => rfl) rfl (fun w => cv8i hk w)
    simp only [nm, seval]
    apply VE.cons
    · first | exact Ev.skip (fun _ => rfl) | exact ev_callb (v := .bool true) rfl (fun _ => rfl) rfl (en_of Tryd.func16 (by kernel_rfl) rfl) (fun w' hb => kind_ok hk1 hk2 w')
    simp only [nm, seval]
    apply VE.cons
    · first | exact Ev.skip (fun _ => rfl) | exact ev_not rfl (fun _ => rfl) rfl
    simp only [nm, seval]
    apply VE.cons
    · first | exact ev_pick_t rfl (gn rfl) rfl rfl | exact ev_pick_f rfl (gn rfl) rfl rfl
    simp only [nm, seval]
    apply VE.cons
    · exact ev_assign rfl (gn rfl)
    simp only [nm, seval]
    exact VE.nil _
  · kernel_rfl
  change VOk _ _ _ _ _
  refine vcond_f rfl ?_
  refine vseq ?_
  apply vrp
  · apply VE.cons
    · exact ev_move rfl (gn rfl)
    simp only [nm, seval]
    apply VE.cons
    · exact ev_gtr (p := false) rfl (gn rfl) rfl rfl (by simp; omega)
    simp only [nm, seval]
    apply VE.cons
    · exact ev_assign rfl (gn rfl)
    simp only [nm, seval]
    exact VE.nil _
  · kernel_rfl
  change VOk _ _ _ _ _
  refine vcond_f rfl ?_
  refine vskip ?_
  change VOk _ _ _ _ _
  refine vseq ?_
  apply vrd (by kernel_rfl)
  · apply VE.cons
    · exact ev_move rfl (gn rfl)
    simp only [nm, seval]
    apply VE.cons
    · exact ev_move rfl (gn rfl)
    simp only [nm, seval]
    apply VE.cons
    · exact ev_idx (k := m) rfl (gn rfl) rfl rfl Tryd.underlying28 Tryd.sizeOf5 (rdg_sub (lo := 0) (hi := m + 1) (n' := m + 1) (l' := tb (m + 1) (innF m f k)) (rdg_row rfl) (by omega) (by omega) (by rw [Nat.zero_mul, List.drop_zero, Nat.sub_zero, Nat.mul_one]; exact tb_take _ _ _ (by omega)) (by omega)) (by omega) (by decide)
    simp only [nm, seval]
    apply VE.cons
    · exact ev_loadi (v := b8 k) rfl (gn rfl) rfl Tryd.underlying5 rfl (rdg_sub (lo := 0) (hi := m + 1) (n' := m + 1) (l' := tb (m + 1) (innF m f k)) (rdg_row rfl) (by omega) (by omega) (by rw [Nat.zero_mul, List.drop_zero, Nat.sub_zero, Nat.mul_one]; exact tb_take _ _ _ (by omega)) (by omega)) (by rw [tb_get (by omega), inn_m])
    simp only [nm, seval]
    apply VE.cons
    · exact ev_conv rfl (gn rfl) rfl (fun w => cv8i hk w)
    simp only [nm, seval]
    apply VE.cons
    · exact ev_move rfl (gn rfl)
    simp only [nm, seval]
    apply VE.cons
    · exact ev_move rfl (gn rfl)
    simp only [nm, seval]
    apply VE.cons
    · exact ev_cut (a := 0) (b := m) rfl (gn rfl) rfl Tryd.underlying28 Tryd.sizeOf5 (rdg_sub (lo := 0) (hi := m + 1) (n' := m + 1) (l' := tb (m + 1) (innF m f k)) (rdg_row rfl) (by omega) (by omega) (by rw [Nat.zero_mul, List.drop_zero, Nat.sub_zero, Nat.mul_one]; exact tb_take _ _ _ (by omega)) (by omega)) rfl rfl (by omega) (by omega)
    simp only [nm, seval]
    apply VE.cons
    · exact ev_assign rfl (gn rfl)
    simp only [nm, seval]
    apply VE.cons
    · exact ev_assign rfl (gn rfl)
    simp only [nm, seval]
    apply VE.cons
    · exact ev_assign rfl (gn rfl)
    simp only [nm, seval]
    exact VE.nil _
  · kernel_rfl
  change VOk _ _ _ _ _
  refine vret ?_
  refine post_ret (res3 Tryd.results8 (rv_tmp rfl) (rv_tmp rfl) (rv_tmp rfl)) ?_
  intro ρ w' hr
  obtain ⟨S1, h1, h2⟩ := ret_dat1 (id := 40) hr rfl rfl rfl rfl (by decide) (by omega)
  have h3 := sl_tb (a := 0) (b := m) (n := m) (sl_tb (a := 0) (b := m + 1) (n := m + 1) h1 (Nat.zero_le _) (by omega) rfl) (Nat.zero_le _) (by omega) rfl
  rw [show tb m (fun k_1 => innF m f k (0 + (0 + k_1))) = tb m f from tb_ext fun j hj => by rw [Nat.zero_add, Nat.zero_add, inn_lo hj]] at h3
  exact ⟨_, rfl, own1_end hr rfl rfl rfl rfl, S1, ⟨_, rfl, h3⟩, h2⟩
end Go.Proofs.YtiidceljhmpgcaaDoor
end
section
namespace Go.Proofs.YtiidceljhmpgcaaDoor
open Go.RowKit Go.Vx
open Go.Toll (Gw)
open TollSha
set_option maxHeartbeats 4000000
set_option maxRecDepth 100000
def gf (l : List Nat) : Nat → Nat := fun j => l.getD j 0
theorem map_tb {l : List Nat} {n : Nat} (h : l.length = n) : l.map b8 = tb n (gf l) := by
  subst h
  unfold tb
  apply List.ext_getElem
  · simp
  · intro i h1 h2
    simp at h1
    simp [gf, List.getD, h1]
theorem gf_by {l : List Nat} (h : ∀ x ∈ l, x < 256) : By (gf l) := fun j => by
  unfold gf
  rw [List.getD_eq_getElem?_getD]
  cases hj : l[j]? with
  | none => exact (by decide : 0 < 256)
  | some x => exact h x (List.mem_of_getElem? hj)
def keyL (key : List Nat) : List Nat := expand key (hkinfo [107, 101, 121] [] 16) 16
def ivL (key : List Nat) : List Nat := expand key (hkinfo [105, 118] [] 12) 12
def kfn (key : List Nat) : Nat → Nat := gf (keyL key)
def ivn (key : List Nat) : Nat → Nat := gf (ivL key)
def hfn (key : List Nat) : Nat → Nat := sealT (kfn key) zeroT
theorem kfn_by (key : List Nat) : By (kfn key) := gf_by (expand_lt _ _ _)
theorem ivn_by (key : List Nat) : By (ivn key) := gf_by (expand_lt _ _ _)
theorem hfn_by (key : List Nat) : By (hfn key) := sealT_by (kfn_by key) zeroT_by
def NewAt (w w' : World) (v : Value) (kf h iv : Nat → Nat) : Prop :=
  ∃ (g : Nat) (p : Value) (F : Nat → Prop), v = .pointer (some ⟨g, 0, none⟩) ∧ w.heap.size ≤ g ∧ w'.heap[g]? = some (.cells (halfL p iv 0).toArray 47 (0, 0)) ∧ BoxAt w' p kf h F ∧ (∀ k, F k → w.heap.size ≤ k ∧ k < w'.heap.size) ∧ ¬ F g
theorem built47 (p : Option Addr) : Tryd.prog.built 47 [(0, .pointer p)] = some (halfL (.pointer p) zeroT 0).toArray := by kernel_rfl
def hSV (id : Nat) (iv : Nat → Nat) : List SV := .d id :: (tb 12 iv).map .v ++ [.v (.int .i64 0)]
theorem hSV_cs (ρ : Nat → Nm) (id : Nat) (iv : Nat → Nat) : SV.cs ρ (hSV id iv) = halfL (ρ id).val iv 0 := by
  unfold hSV halfL
  rw [cs_map, List.map_append, List.map_cons, List.map_map]
  simp [SV.c, Function.comp_def]
theorem hSV_has (i id : Nat) (iv : Nat → Nat) (h : id ≠ i) : SV.hasL i (hSV id iv) = false := by
  rw [hasL_any]
  unfold hSV
  simp [SV.has, h]
section
variable {w0 : World} {ops : Array Oper} {o : Oper} {s : VS}
theorem ev_buildhalf {x : Operand} {id : Nat} {kf h : Nat → Nat} (ho : o.op = .build 47 #[(0, x)]) (hgd : Want ops o s) (hx : svEval s x = .d id) (hm : s.mem id = some (.dat (datB kf h))) :
    Ev Tryd.prog ops w0 o s ⟨.agg (hSV id zeroT), [], [], [], [id]⟩ :=
  Ev.run _ _ hgd fun ρ S w hb hR => by
    have e1 := svEval_c s ρ x
    rw [hx] at e1
    obtain ⟨p, h1, g, kp, rfl, _⟩ := relon_dat hR (by simp) hm
    simp only [List.cons.injEq, and_true] at h1
    simp only [SV.c, h1] at e1
    have hv : SV.c ρ (.agg (hSV id zeroT)) = .agg (halfL (.pointer (some ⟨g, 0, none⟩)) zeroT 0).toArray := by
      simp only [SV.c, hSV_cs, h1]
    rw [hv]
    have h2 := run_build (P := Tryd.prog) w 47 #[(0, .pointer (some ⟨g, 0, none⟩))] _ (built47 (some ⟨g, 0, none⟩))
    simp only [execOp, ho, List.map_toArray, List.map_cons, List.map_nil, e1]
    rw [Sem.run_bind, h2]
    rfl
theorem ev_callnewH {vs : List Value} {xs : Array Operand} {ats : Array TypeId} {id : Nat} (r : Nat) {kf h iv : Nat → Nat} (hir : r ≠ id) (_hd : o.dst = some id) (ho : o.op = .call { callee := .value (.func 6), args := xs, argTypes := ats }) (hgd : Want ops o s)
    (hx : unV (xs.toList.map (svEval s)) = some vs) (_he : ∀ args w, (callFunc 6 args).run Tryd.prog w = .ok (.enter 6 args) w) (hNew : ∀ w, Bw w0 w → Calls Tryd.prog 6 vs.toArray w fun e w' => ∃ v, e = .returned v ∧ NewAt w w' v kf h iv ∧ Bw w w') :
    Ev Tryd.prog ops w0 o s ⟨.p id 0, [(id, .cells (hSV r iv) 47), (r, .dat (datB kf h))], [], [id, r], []⟩ := by
  refine ⟨by simp [Eff.ok], .inr ⟨hgd, fun ρ S w hb hR => .inr (.inr ⟨6, vs.toArray, ?_, (hNew w hb).mono fun e w' ⟨v, h1, ⟨g, p, F, h2, h3, h4, h5, h6, h7⟩, h8⟩ => ⟨_, h1, fun k => if k = id then ⟨g, undef⟩ else if k = r then ⟨0, p⟩ else ρ k, fun k => if k = r then F else fun _ => False, ?_⟩⟩)⟩⟩
  · obtain ⟨dst, op, type, pos, after, guard⟩ := o
    simp only at ho
    subst ho
    rw [execOp_call_go, args_c hx]
    simp
  · have cs : ∀ i b, memOf [(id, Blk.cells (hSV r iv) 47), (r, .dat (datB kf h))] i = some b → (i = id ∧ b = .cells (hSV r iv) 47) ∨ (i = r ∧ b = .dat (datB kf h)) := by
      intro i b h
      have := memOf_mem h
      simpa using this
    have er : (if r = id then (⟨g, undef⟩ : Nm) else if r = r then ⟨0, p⟩ else ρ r) = ⟨0, p⟩ := by rw [if_neg hir, if_pos rfl]
    refine ⟨by simp [SV.c, h2], fun i hi => ?_, h8.os, h8.tape, h8.output, h8.size, fun k hk _ => h8.block k hk, ?_, ?_, ?_, ?_⟩
    · simp only [List.mem_cons, List.not_mem_nil, or_false, not_or] at hi
      rw [if_neg hi.1, if_neg hi.2]
    · intro i b hi
      rcases cs i b hi with ⟨rfl, rfl⟩ | ⟨rfl, rfl⟩
      · refine ⟨by simp only [if_true]; exact Nat.le_trans hb.size h3, ?_⟩
        show w'.heap[(if i = i then (⟨g, undef⟩ : Nm) else if i = r then ⟨0, p⟩ else ρ i).g]? = _
        rw [if_pos rfl, cellsObj, hSV_cs, h4]
        show _ = some (Obj.cells (halfL (if r = i then (⟨g, undef⟩ : Nm) else if r = r then ⟨0, p⟩ else ρ r).val iv 0).toArray 47 (0, 0))
        rw [er]
      · show (datB kf h).holds [(if i = id then (⟨g, undef⟩ : Nm) else if i = i then ⟨0, p⟩ else ρ i).val] w' (if i = i then F else fun _ => False)
        rw [er, if_pos rfl]
        exact ⟨p, rfl, h5⟩
    · intro i k hi hk
      by_cases h : i = r
      · rw [if_pos h] at hk
        exact .inr (h6 k hk)
      · rw [if_neg h] at hk
        exact hk.elim
    · intro i b hi hob
      rcases cs i b hi with ⟨rfl, rfl⟩ | ⟨rfl, rfl⟩
      · refine .inr ⟨by simp only [if_true]; exact h3, fun j _ hj => ?_⟩
        simp only [if_true] at hj
        by_cases h : j = r
        · rw [if_pos h] at hj; exact h7 hj
        · rw [if_neg h] at hj; exact hj
      · exact hob.elim
    · intro i b j c hi hob hj hoc _
      rcases cs i b hi with ⟨rfl, rfl⟩ | ⟨rfl, rfl⟩
      · rcases cs j c hj with ⟨rfl, rfl⟩ | ⟨rfl, rfl⟩
        · rfl
        · exact hoc.elim
      · exact hob.elim
end
theorem ret_H {w w' : World} {s : VS} {ρ : Nat → Nm} {kf h iv : Nat → Nat} {L : List SV} (hr : Rel w ρ s w') (h1 : s.mem 27 = some (.cells L 47)) (h2 : s.mem 22 = some (.dat (datB kf h))) (hL : L = hSV 22 iv) : NewAt w w' (.pointer (some ⟨(ρ 27).g, 0, none⟩)) kf h iv := by
  subst hL
  obtain ⟨hb, S, hR⟩ := hr
  have a1 := hR.good 27 _ h1
  obtain ⟨p, e, hK⟩ : (datB kf h).holds [(ρ 22).val] w' (S 22) := hR.good 22 _ h2
  simp only [List.cons.injEq, and_true] at e
  refine ⟨_, p, S 22, rfl, a1.1, ?_, hK, fun k hk => ⟨hR.fr 22 k (by rw [h2]; rfl) hk, hR.lt 22 k (by rw [h2]; rfl) hk⟩, hR.dis 27 _ 22 h1 True.intro (by rw [h2]; rfl)⟩
  rw [a1.2, cellsObj, hSV_cs, e]
theorem hSV_put (id : Nat) (iv : Nat → Nat) : (hSV id zeroT).take 1 ++ (tb 12 iv).map .v ++ (hSV id zeroT).drop (1 + 12) = hSV id iv := by
  unfold hSV
  rw [List.cons_append, List.take_succ_cons, List.take_zero, Nat.add_comm, List.drop_succ_cons, List.drop_append_of_le_length (by rw [List.length_map, tb_len]; exact Nat.le_refl _), List.drop_of_length_le (by rw [List.length_map, tb_len]; exact Nat.le_refl _)]
  rfl
theorem rNew_ok {key : List Nat} (w : World) (hL : LaidK w) (hH : LaidH w) (hb1 : 1 < w.heap.size) (hkl : key.length = 32) (hk8 : ∀ y ∈ key, y < 256) : Calls Tryd.prog 6 #[.agg (key.map b8).toArray] w fun e w' => ∃ v, e = .returned v ∧ NewAt w w' v (kfn key) (hfn key) (ivn key) ∧ Bw w w' := by
  go_enter Tryd.func6, Tryd.ntmps6
  refine ve_go ?_
  simp only [List.map_cons, List.map_nil]
  refine vseq ?_
  apply vrp
  · apply VE.cons
    · exact ev_boxr (l := key.map b8) rfl rfl (gn rfl) rfl rfl
    simp only [nm, seval]
    apply VE.cons
    · exact ev_assign rfl (gn rfl)
    simp only [nm, seval]
    exact VE.nil _
  · kernel_rfl
  change VOk _ _ _ _ _
  refine vseq ?_
  apply vrp
  · apply VE.cons
    · exact ev_loadr (vs := key.map b8) rfl (gn rfl) rfl rfl Tryd.underlying22 rfl Tryd.sizeOf22 (List.take_of_length_le (by simp [hkl])) (by simp [hkl])
    simp only [nm, seval]
    apply VE.cons
    · exact ev_callrowt [] rfl rfl (gn rfl) rfl (en_of Tryd.func11 (by kernel_rfl) rfl) (n := 16) (size := 1) (l := tb 16 (kfn key)) (y := .int .i64 0) (by rw [tb_len]) (fun ρ S w' hb hR => by have h := Label_ok (key := key) (lab := [107, 101, 121]) (ctx := []) (n := 16) (u := .slice none 0 0) (F := fun _ => False) w' (hL.bw hb) (hH.bw hb) (Nat.lt_of_lt_of_le hb1 hb.size) hkl hk8 ⟨none, 0, rfl, Nat.le_refl _, rfl, .inl rfl⟩ (by simp) (by decide) (by decide) (by decide) (by decide); rw [map_tb (expand_len _ _ _)] at h; exact h)
    simp only [nm, seval]
    apply VE.cons
    · exact ev_move rfl (gn rfl)
    simp only [nm, seval]
    apply VE.cons
    · first | exact ev_extract rfl (gn rfl) rfl rfl | exact ev_extractt rfl (gn rfl) rfl rfl
    simp only [nm, seval]
    apply VE.cons
    · first | exact ev_extract rfl (gn rfl) rfl rfl | exact ev_extractt rfl (gn rfl) rfl rfl
    simp only [nm, seval]
    apply VE.cons
    · exact ev_assign rfl (gn rfl)
    simp only [nm, seval]
    apply VE.cons
    · exact ev_assign rfl (gn rfl)
    simp only [nm, seval]
    exact VE.nil _
  · kernel_rfl
  change VOk _ _ _ _ _
  refine vseq ?_
  apply vrp
  · apply VE.cons
    · exact ev_loadr (vs := key.map b8) rfl (gn rfl) rfl rfl Tryd.underlying22 rfl Tryd.sizeOf22 (List.take_of_length_le (by simp [hkl])) (by simp [hkl])
    simp only [nm, seval]
    apply VE.cons
    · exact ev_callrowt [] rfl rfl (gn rfl) rfl (en_of Tryd.func11 (by kernel_rfl) rfl) (n := 12) (size := 1) (l := tb 12 (ivn key)) (y := .int .i64 0) (by rw [tb_len]) (fun ρ S w' hb hR => by have h := Label_ok (key := key) (lab := [105, 118]) (ctx := []) (n := 12) (u := .slice none 0 0) (F := fun _ => False) w' (hL.bw hb) (hH.bw hb) (Nat.lt_of_lt_of_le hb1 hb.size) hkl hk8 ⟨none, 0, rfl, Nat.le_refl _, rfl, .inl rfl⟩ (by simp) (by decide) (by decide) (by decide) (by decide); rw [map_tb (expand_len _ _ _)] at h; exact h)
    simp only [nm, seval]
    apply VE.cons
    · exact ev_move rfl (gn rfl)
    simp only [nm, seval]
    apply VE.cons
    · first | exact ev_extract rfl (gn rfl) rfl rfl | exact ev_extractt rfl (gn rfl) rfl rfl
    simp only [nm, seval]
    apply VE.cons
    · first | exact ev_extract rfl (gn rfl) rfl rfl | exact ev_extractt rfl (gn rfl) rfl rfl
    simp only [nm, seval]
    apply VE.cons
    · exact ev_assign rfl (gn rfl)
    simp only [nm, seval]
    apply VE.cons
    · exact ev_assign rfl (gn rfl)
    simp only [nm, seval]
    exact VE.nil _
  · kernel_rfl
  change VOk _ _ _ _ _
  refine vseq ?_
  apply vrp
  · apply VE.cons
    · exact ev_move rfl (gn rfl)
    simp only [nm, seval]
    apply VE.cons
    · exact ev_calldt (D := datB (kfn key) (hfn key)) (ys := [.int .i64 0]) [12] rfl rfl (gn rfl) rfl (en_of Tryd.func15 (by kernel_rfl) rfl) (fun ρ S w' hb hR => by obtain ⟨S1, h⟩ := rdg_row (w0 := w) (id := 12) rfl ρ S w' hb hR; exact gNew_ok w' h (kfn_by key))
    simp only [nm, seval]
    apply VE.cons
    · exact ev_move rfl (gn rfl)
    simp only [nm, seval]
    apply VE.cons
    · first | exact ev_extract rfl (gn rfl) rfl rfl | exact ev_extractt rfl (gn rfl) rfl rfl
    simp only [nm, seval]
    apply VE.cons
    · first | exact ev_extract rfl (gn rfl) rfl rfl | exact ev_extractt rfl (gn rfl) rfl rfl
    simp only [nm, seval]
    apply VE.cons
    · exact ev_assign rfl (gn rfl)
    simp only [nm, seval]
    apply VE.cons
    · exact ev_assign rfl (gn rfl)
    simp only [nm, seval]
    exact VE.nil _
  · kernel_rfl
  change VOk _ _ _ _ _
  refine vseq ?_
  apply vrp
  · apply VE.cons
    · exact ev_move rfl (gn rfl)
    simp only [nm, seval]
    apply VE.cons
    · exact ev_buildhalf rfl (gn rfl) rfl rfl
    simp only [nm, seval]
    apply VE.cons
    · exact ev_boxag rfl rfl (gn rfl) rfl (hSV_has _ _ _ (by decide))
    simp only [nm, seval]
    apply VE.cons
    · exact ev_assign rfl (gn rfl)
    simp only [nm, seval]
    exact VE.nil _
  · kernel_rfl
  change VOk _ _ _ _ _
  refine vseq ?_
  apply vrp
  · apply VE.cons
    · exact ev_move rfl (gn rfl)
    simp only [nm, seval]
    apply VE.cons
    · first | exact ev_nil rfl (gn rfl) rfl | exact ev_nilx rfl (gn rfl) rfl
    simp only [nm, seval]
    apply VE.cons
    · first | exact ev_field rfl (gn rfl) rfl Tryd.underlying47 rfl Tryd.sizeOf45 | exact ev_fieldx rfl (gn rfl) rfl Tryd.underlying47 rfl Tryd.sizeOf45
    simp only [nm, seval]
    apply VE.cons
    · exact ev_slicea rfl (gn rfl) rfl Tryd.underlying45 Tryd.sizeOf5
    simp only [nm, seval]
    apply VE.cons
    · exact ev_move rfl (gn rfl)
    simp only [nm, seval]
    apply VE.cons
    · exact ev_copy rfl (gn rfl) rfl rfl rfl (rdg_row rfl) Tryd.underlying28 (by kernel_rfl) tb_len rfl (by decide) tb_one (by decide)
    simp only [nm, seval]
    exact VE.nil _
  · kernel_rfl
  change VOk _ _ _ _ _
  refine vseq ?_
  apply vrp
  · apply VE.cons
    · exact ev_move rfl (gn rfl)
    simp only [nm, seval]
    apply VE.cons
    · exact ev_assign rfl (gn rfl)
    simp only [nm, seval]
    exact VE.nil _
  · kernel_rfl
  change VOk _ _ _ _ _
  refine vret ?_
  refine post_ret (res1 Tryd.results6 (rv_tmp rfl)) ?_
  intro ρ w' hr
  exact ⟨_, rfl, ret_H hr rfl rfl (hSV_put _ _), hr.1⟩
end Go.Proofs.YtiidceljhmpgcaaDoor
end
section
namespace Go.Proofs.YtiidceljhmpgcaaDoor
open Go.RowKit Go.Vx
open Go.Toll (Gw)
open TollSha
set_option maxHeartbeats 4000000
set_option maxRecDepth 100000
theorem weaker_mem {w0 : World} {fr : List SV} {m m' : List (Nat × Blk)} (h : ∀ k, memOf m k = memOf m' k) : Weaker w0 ⟨fr, memOf m⟩ (fun _ => ⟨fr, memOf m'⟩) := fun ρ w hr => by
  have e : memOf m = memOf m' := funext h
  rw [e] at hr
  exact ⟨fun _ => undef, ρ, hr, rfl⟩
def cA (i : Nat) : Nat := (i + 1) / 2
def cB (i : Nat) : Nat := i / 2
theorem cA_e {i : Nat} (h : i % 2 = 0) : cA i + 1 = cA (i + 1) := by unfold cA; omega
theorem cB_e {i : Nat} (h : i % 2 = 0) : cB i = cB (i + 1) := by unfold cB; omega
theorem cA_o {i : Nat} (h : i % 2 = 1) : cA i = cA (i + 1) := by unfold cA; omega
theorem cB_o {i : Nat} (h : i % 2 = 1) : cB i + 1 = cB (i + 1) := by unfold cB; omega
theorem cA_l {i : Nat} (h : i ≤ 8) : cA i < 1000 := by unfold cA; omega
theorem cB_l {i : Nat} (h : i ≤ 8) : cB i < 1000 := by unfold cB; omega
def BoxIn (w W : World) (LL : OwnL) (p : Value) (kf h : Nat → Nat) (F : Nat → Prop) : Prop := BoxAt W p kf h F ∧ ∀ k, F k → w.heap.size ≤ k ∧ k < W.heap.size ∧ ∀ x ∈ LL, x.2.1 ≠ k
theorem box_now {w W w' : World} {LL : OwnL} {p : Value} {kf h : Nat → Nat} {F : Nat → Prop} {ρ : Nat → Nm} {S : Nat → Nat → Prop} {m : Mem} {rd : List Nat} {id : Nat} {l : List Value} {ty : TypeId} (hR : RelOn w.heap.size ρ S w' (restr rd m)) (h3 : rd.contains 803 = true) (hi : rd.contains id = true)
    (hm : m 803 = some (.dat (frameD W (ownX w LL)))) (hid : m id = some (.arr l ty)) (hB : BoxIn w W LL p kf h F) : BoxAt w' p kf h F ∧ Off w' (ρ id).g F := by
  have h3' : 803 ∈ rd := by simpa using h3
  have hi' : id ∈ rd := by simpa using hi
  have e3 : restr rd m 803 = some (.dat (frameD W (ownX w LL))) := by unfold restr; rw [if_pos h3', hm]
  have ei : restr rd m id = some (.arr l ty) := by unfold restr; rw [if_pos hi', hid]
  have a3 : (frameD W (ownX w LL)).holds [(ρ 803).val] w' (S 803) := hR.good 803 _ e3
  have key : ∀ k, F k → w'.heap[k]? = W.heap[k]? ∧ S 803 k := fun k hk => by
    obtain ⟨h1, h2, h4⟩ := hB.2 k hk
    exact a3 k h2 (fun h5 => h5.elim (fun h6 => by omega) fun ⟨x, hx, h6⟩ => h4 x hx h6)
  refine ⟨hB.1.keep fun k hk => (key k hk).1, fun k hk => ⟨hR.lt 803 k (by rw [e3]; rfl) (key k hk).2, fun e => ?_⟩⟩
  have := hR.dis id _ 803 ei True.intro (by rw [e3]; rfl)
  rw [← e] at this
  exact this (key k hk).2
theorem off_old {w w' : World} {F : Nat → Prop} {ρ : Nat → Nm} {S : Nat → Nat → Prop} {m : Mem} {rd : List Nat} {id : Nat} {l : List Value} {ty : TypeId} (hR : RelOn w.heap.size ρ S w' (restr rd m)) (hb : Bw w w') (hi : rd.contains id = true) (hid : m id = some (.arr l ty)) (hF : ∀ k, F k → k < w.heap.size) : Off w' (ρ id).g F := fun k hk => by
  have hi' : id ∈ rd := by simpa using hi
  have g1 := (relon_get hR hid hi').1
  have := hF k hk
  exact ⟨Nat.lt_of_lt_of_le this hb.size, by omega⟩
theorem off_dat {w w' : World} {ρ : Nat → Nm} {S : Nat → Nat → Prop} {m : Mem} {rd : List Nat} {id j : Nat} {l : List Value} {ty : TypeId} {D : Dat} (hR : RelOn w.heap.size ρ S w' (restr rd m)) (hi : rd.contains id = true) (hj : rd.contains j = true) (hid : m id = some (.arr l ty)) (hjd : m j = some (.dat D)) : Off w' (ρ id).g (S j) := fun k hk => by
  have hi' : id ∈ rd := by simpa using hi
  have hj' : j ∈ rd := by simpa using hj
  have ei : restr rd m id = some (.arr l ty) := by unfold restr; rw [if_pos hi', hid]
  have ej : restr rd m j = some (.dat D) := by unfold restr; rw [if_pos hj', hjd]
  refine ⟨hR.lt j k (by rw [ej]; rfl) hk, fun e => ?_⟩
  have := hR.dis id _ j ei True.intro (by rw [ej]; rfl)
  rw [← e] at this
  exact this hk
theorem take_tb {l : List Nat} {m : Nat} (h : m ≤ l.length) : (l.take m).map b8 = tb m (gf l) := by
  rw [List.map_take, map_tb rfl]
  exact tb_take _ _ _ h
theorem c_send {w W w' : World} {LL : OwnL} {ρ : Nat → Nm} {S : Nat → Nat → Prop} {mm : Mem} {id n m k p : Nat} {bp v : Value} {kf h iv f : Nat → Nat} {F G : Nat → Prop} (hR : RelOn w.heap.size ρ S w' (restr [id, 803] mm)) (hb : Bw w w') (hh : w'.heap[(ρ id).g]? = some (.cells (halfL bp iv n).toArray 47 (0, 0))) (hm : mm 803 = some (.dat (frameD W (ownX w LL)))) (hid : mm id = some (.arr (halfL bp iv n) 47))
    (hB : BoxIn w W LL bp kf h F) (hkf : By kf) (hhb : By h) (hiv : By iv) (hf : By f) (hv : SlAt w v m 1 (tb m f) G) (hG : ∀ k, G k → k < w.heap.size) (hk1 : 21 ≤ k) (hk2 : k ≤ 23) (hm1 : m ≤ 1000) (hp : p ≤ 1000) (hn : n < 1000) :
    Calls Tryd.prog 7 (SV.cs ρ [.p id 0, .v (.int .i64 (k : Nat)), .v v, .v (.int .i64 (p : Nat))]).toArray w' fun e w'' => ∃ v', e = .returned (.tuple #[v', .int .i64 0]) ∧ TurnD w' w'' (ρ id).g (halfL bp iv (n + 1)) 47 v' (.sl (5 + (m + 1 + p + 16)) 1 (recL kf h iv n m f k p)) := by
  obtain ⟨b1, b2⟩ := box_now hR (by simp) (by simp) hm hid hB
  exact hSeal_ok w' hh b1 b2 hkf hhb hiv hf (sl_bw hv hb) (off_old hR hb (by simp) hid hG) hk1 hk2 hm1 hp hn
theorem c_recv {w W w' : World} {LL : OwnL} {ρ : Nat → Nm} {S : Nat → Nat → Prop} {mm : Mem} {id j n m k p : Nat} {bp : Value} {kf h iv f : Nat → Nat} {F : Nat → Prop} (hR : RelOn w.heap.size ρ S w' (restr [id, 803, j] mm)) (hh : w'.heap[(ρ id).g]? = some (.cells (halfL bp iv n).toArray 47 (0, 0))) (hm : mm 803 = some (.dat (frameD W (ownX w LL)))) (hid : mm id = some (.arr (halfL bp iv n) 47))
    (hj : mm j = some (.dat (.sl (5 + (m + 1 + p + 16)) 1 (recL kf h iv n m f k p)))) (hB : BoxIn w W LL bp kf h F) (hkf : By kf) (hhb : By h) (hiv : By iv) (hf : By f) (hk1 : 21 ≤ k) (hk2 : k ≤ 23) (hm1 : m ≤ 1000) (hp : p ≤ 1000) (hn : n < 1000) :
    Calls Tryd.prog 8 (SV.cs ρ [.p id 0, .d j]).toArray w' fun e w'' => ∃ v', e = .returned (.tuple #[.int .i64 (k : Nat), v', .int .i64 0]) ∧ TurnD w' w'' (ρ id).g (halfL bp iv (n + 1)) 47 v' (.sl m 1 (tb m f)) := by
  obtain ⟨b1, b2⟩ := box_now hR (by simp) (by simp) hm hid hB
  obtain ⟨v, e1, hv⟩ : (Dat.sl (5 + (m + 1 + p + 16)) 1 (recL kf h iv n m f k p)).holds [(ρ j).val] w' (S j) := relon_get hR hj (by simp)
  simp only [List.cons.injEq, and_true] at e1
  have e2 : SV.cs ρ [.p id 0, .d j] = [.pointer (some ⟨(ρ id).g, 0, none⟩), v] := by simp only [SV.cs, SV.c, e1]
  rw [e2]
  exact hOpen_ok w' hh b1 b2 hkf hhb hiv hf hv (off_dat hR (by simp) (by simp) hid hj) hk1 hk2 hm1 hp hn
end Go.Proofs.YtiidceljhmpgcaaDoor
end
section
namespace Go.Proofs.YtiidceljhmpgcaaDoor
open Go.RowKit Go.Vx
open Go.Toll (Gw)
open TollSha
set_option maxHeartbeats 4000000
set_option maxRecDepth 100000
theorem law_tail {w W : World} {v p1 p2 p3 p4 : Value} {g1 g2 g3 g4 : Nat} {k1 k2 : List Nat} {ls : List (List Nat)} {F F1 F2 F3 F4 : Nat → Prop} {LL : OwnL} (f : Nat → Value) (hLk : LaidK w) (hLh : LaidH w) (hb1 : 1 < w.heap.size) (hp : PartsAt w v ls F) (hB1 : BoxIn w W LL p1 (kfn k1) (hfn k1) F1) (hB2 : BoxIn w W LL p2 (kfn k1) (hfn k1) F2) (hB3 : BoxIn w W LL p3 (kfn k2) (hfn k2) F3) (hB4 : BoxIn w W LL p4 (kfn k2) (hfn k2) F4) : VOk Tryd.prog w ⟨.v (f 0) :: .v v :: .v (f 2) :: .v (f 3) :: .v (f 4) :: .v (f 5) :: .v (f 6) :: .p 27 0 :: .p 29 0 :: .p 31 0 :: .p 33 0 :: .v (f 11) :: .v (f 12) :: .v (f 13) :: .v (f 14) :: .v (f 15) :: .v (f 16) :: .v (f 17) :: .v (f 18) :: .v (f 19) :: .v (f 20) :: .v (f 21) :: .v (f 22) :: .v (f 23) :: .v (f 24) :: .v (f 25) :: .v (f 26) :: .v (f 27) :: .v (f 28) :: .v (f 29) :: .v (f 30) :: .v (f 31) :: .v (f 32) :: .v (f 33) :: .v (f 34) :: .v (f 35) :: .v (f 36) :: .v (f 37) :: .v (f 38) :: .v (f 39) :: .v (f 40) :: .v (f 41) :: .v (f 42) :: .v (f 43) :: .v (f 44) :: .v (f 45) :: .v (f 46) :: .v (f 47) :: .v (f 48) :: .v (f 49) :: .v (f 50) :: .v (f 51) :: .v (f 52) :: .v (f 53) :: .v (f 54) :: .v (f 55) :: .v (f 56) :: .v (f 57) :: .v (f 58) :: .v (f 59) :: .v (f 60) :: .v (f 61) :: .v (f 62) :: .v (f 63) :: .v (f 64) :: .v (f 65) :: .v (f 66) :: .v (f 67) :: .v (f 68) :: .v (f 69) :: .v (f 70) :: .v (f 71) :: .v (f 72) :: .v (f 73) :: .v (f 74) :: .v (f 75) :: .v (f 76) :: .v (f 77) :: .v (f 78) :: .v (f 79) :: .v (f 80) :: .v (f 81) :: .v (f 82) :: .v (f 83) :: .v (f 84) :: .v (f 85) :: .v (f 86) :: .v (f 87) :: .v (f 88) :: .v (f 89) :: .v (f 90) :: .v (f 91) :: .v (f 92) :: .v (f 93) :: .v (f 94) :: .v (f 95) :: .v (f 96) :: .v (f 97) :: .v (f 98) :: .v (f 99) :: .v (f 100) :: .v (f 101) :: .v (f 102) :: .v (f 103) :: .v (f 104) :: .v (f 105) :: .v (f 106) :: .v (f 107) :: .v (f 108) :: .v (f 109) :: .v (f 110) :: .v (f 111) :: .v (f 112) :: .v (f 113) :: [], memOf [(27, .arr (halfL p1 (ivn k1) (cA 0)) 47), (29, .arr (halfL p2 (ivn k1) (cA 0)) 47), (31, .arr (halfL p3 (ivn k2) (cB 0)) 47), (33, .arr (halfL p4 (ivn k2) (cB 0)) 47), (1027, .pin 27 (g1)), (1029, .pin 29 (g2)), (1031, .pin 31 (g3)), (1033, .pin 33 (g4)), (803, .dat (frameD W (ownX w LL))), (805, .floor W.heap.size)]⟩ (dropSeq 4 (bodyOf Tryd.f3)) (QB Tryd.prog Tryd.f3 w fun e w' => e = .returned (.bool true) ∧ Bw w w') := by
  obtain ⟨vs, hvs, hel⟩ := hp
  refine vseq ?_
  refine vseq ?_
  apply vrp
  · apply VE.cons
    · exact ev_assign rfl (gn rfl)
    simp only [nm, seval]
    exact VE.nil _
  · kernel_rfl
  change VOk _ _ _ _ _
  refine vblock ?_
  refine vloop_w (α := {x : Nat // x ≤ min ls.length 8}) (fun (x : {x : Nat // x ≤ min ls.length 8}) f => ⟨.v (f 0) :: .v v :: .v (f 2) :: .v (f 3) :: .v (f 4) :: .v (f 5) :: .v (f 6) :: .p 27 0 :: .p 29 0 :: .p 31 0 :: .p 33 0 :: .v (.int .i64 (x.1 : Nat)) :: .v (f 12) :: .v (f 13) :: .v (f 14) :: .v (f 15) :: .v (f 16) :: .v (f 17) :: .v (f 18) :: .v (f 19) :: .v (f 20) :: .v (f 21) :: .v (f 22) :: .v (f 23) :: .v (f 24) :: .v (f 25) :: .v (f 26) :: .v (f 27) :: .v (f 28) :: .v (f 29) :: .v (f 30) :: .v (f 31) :: .v (f 32) :: .v (f 33) :: .v (f 34) :: .v (f 35) :: .v (f 36) :: .v (f 37) :: .v (f 38) :: .v (f 39) :: .v (f 40) :: .v (f 41) :: .v (f 42) :: .v (f 43) :: .v (f 44) :: .v (f 45) :: .v (f 46) :: .v (f 47) :: .v (f 48) :: .v (f 49) :: .v (f 50) :: .v (f 51) :: .v (f 52) :: .v (f 53) :: .v (f 54) :: .v (f 55) :: .v (f 56) :: .v (f 57) :: .v (f 58) :: .v (f 59) :: .v (f 60) :: .v (f 61) :: .v (f 62) :: .v (f 63) :: .v (f 64) :: .v (f 65) :: .v (f 66) :: .v (f 67) :: .v (f 68) :: .v (f 69) :: .v (f 70) :: .v (f 71) :: .v (f 72) :: .v (f 73) :: .v (f 74) :: .v (f 75) :: .v (f 76) :: .v (f 77) :: .v (f 78) :: .v (f 79) :: .v (f 80) :: .v (f 81) :: .v (f 82) :: .v (f 83) :: .v (f 84) :: .v (f 85) :: .v (f 86) :: .v (f 87) :: .v (f 88) :: .v (f 89) :: .v (f 90) :: .v (f 91) :: .v (f 92) :: .v (f 93) :: .v (f 94) :: .v (f 95) :: .v (f 96) :: .v (f 97) :: .v (f 98) :: .v (f 99) :: .v (f 100) :: .v (f 101) :: .v (f 102) :: .v (f 103) :: .v (f 104) :: .v (f 105) :: .v (f 106) :: .v (f 107) :: .v (f 108) :: .v (f 109) :: .v (f 110) :: .v (f 111) :: .v (f 112) :: .v (f 113) :: [], memOf [(27, .arr (halfL p1 (ivn k1) (cA x.1)) 47), (29, .arr (halfL p2 (ivn k1) (cA x.1)) 47), (31, .arr (halfL p3 (ivn k2) (cB x.1)) 47), (33, .arr (halfL p4 (ivn k2) (cB x.1)) 47), (1027, .pin 27 (g1)), (1029, .pin 29 (g2)), (1031, .pin 31 (g3)), (1033, .pin 33 (g4)), (803, .dat (frameD W (ownX w LL))), (805, .floor W.heap.size)]⟩) (fun x => min ls.length 8 - x.1) ?_ (⟨0, Nat.zero_le _⟩) ?_
  · rintro ⟨i, hi⟩ f
    have hi8 : i ≤ 8 := by omega
    change VOk _ _ _ _ _
    refine vseq ?_
    refine vseq ?_
    obtain hc | hc | hc : ¬ i < ls.length ∨ (i < ls.length ∧ ¬ i < 8) ∨ (i < ls.length ∧ i < 8) := by omega
    · skip
      apply vrp
      · apply VE.cons
        · exact ev_move rfl (gn rfl)
        simp only [nm, seval]
        apply VE.cons
        · exact ev_move rfl (gn rfl)
        simp only [nm, seval]
        apply VE.cons
        · exact ev_len rfl (gn rfl) rfl Tryd.underlying23 (rdg_arg hvs)
        simp only [nm, seval]
        apply VE.cons
        · exact ev_lss (p := false) rfl (gn rfl) rfl rfl (by simp; omega)
        simp only [nm, seval]
        apply VE.cons
        · exact ev_move rfl (gn rfl)
        simp only [nm, seval]
        apply VE.cons
        · first | exact Ev.skip (fun _ => rfl) | exact ev_move rfl (fun _ => rfl)
        simp only [nm, seval]
        apply VE.cons
        · first | exact Ev.skip (fun _ => rfl) | exact ev_lss (p := false) rfl (fun _ => rfl) rfl rfl (by simp; omega)
        simp only [nm, seval]
        apply VE.cons
        · first | exact ev_pick_t rfl (gn rfl) rfl rfl | exact ev_pick_f rfl (gn rfl) rfl rfl
        simp only [nm, seval]
        exact VE.nil _
      · kernel_rfl
      change VOk _ _ _ _ _
      refine vcond_f rfl ?_
      refine vexit ?_
      change VOk _ _ _ _ _
      refine vseq ?_
      apply vrp
      · apply VE.cons
        · exact ev_callb (v := .bool true) rfl (gn rfl) rfl (en_of Tryd.func9 (by kernel_rfl) rfl) (fun w' hb => stands_ok w' (hLk.bw hb) (hLh.bw hb) (Nat.lt_of_lt_of_le hb1 hb.size))
        simp only [nm, seval]
        apply VE.cons
        · exact ev_move rfl (gn rfl)
        simp only [nm, seval]
        apply VE.cons
        · first | exact Ev.skip (fun _ => rfl) | exact ev_move rfl (fun _ => rfl)
        simp only [nm, seval]
        apply VE.cons
        · first | exact Ev.skip (fun _ => rfl) | exact ev_callp (v := .int .i64 ((cA i : Nat) : Nat)) [27] rfl (fun _ => rfl) rfl (en_of Tryd.func10 (by kernel_rfl) rfl) (fun ρ S w' hb hR => used_ok w' (relon_get hR (id := 27) rfl (by simp)).2)
        simp only [nm, seval]
        apply VE.cons
        · first | exact Ev.skip (fun _ => rfl) | exact ev_move rfl (fun _ => rfl)
        simp only [nm, seval]
        apply VE.cons
        · first | exact Ev.skip (fun _ => rfl) | exact ev_callp (v := .int .i64 ((cA i : Nat) : Nat)) [29] rfl (fun _ => rfl) rfl (en_of Tryd.func10 (by kernel_rfl) rfl) (fun ρ S w' hb hR => used_ok w' (relon_get hR (id := 29) rfl (by simp)).2)
        simp only [nm, seval]
        apply VE.cons
        · first | exact Ev.skip (fun _ => rfl) | exact ev_eql (p := true) rfl (fun _ => rfl) rfl rfl (by simp)
        simp only [nm, seval]
        apply VE.cons
        · first | exact ev_pick_t rfl (gn rfl) rfl rfl | exact ev_pick_f rfl (gn rfl) rfl rfl
        simp only [nm, seval]
        apply VE.cons
        · exact ev_move rfl (gn rfl)
        simp only [nm, seval]
        apply VE.cons
        · first | exact Ev.skip (fun _ => rfl) | exact ev_move rfl (fun _ => rfl)
        simp only [nm, seval]
        apply VE.cons
        · first | exact Ev.skip (fun _ => rfl) | exact ev_callp (v := .int .i64 ((cB i : Nat) : Nat)) [31] rfl (fun _ => rfl) rfl (en_of Tryd.func10 (by kernel_rfl) rfl) (fun ρ S w' hb hR => used_ok w' (relon_get hR (id := 31) rfl (by simp)).2)
        simp only [nm, seval]
        apply VE.cons
        · first | exact Ev.skip (fun _ => rfl) | exact ev_move rfl (fun _ => rfl)
        simp only [nm, seval]
        apply VE.cons
        · first | exact Ev.skip (fun _ => rfl) | exact ev_callp (v := .int .i64 ((cB i : Nat) : Nat)) [33] rfl (fun _ => rfl) rfl (en_of Tryd.func10 (by kernel_rfl) rfl) (fun ρ S w' hb hR => used_ok w' (relon_get hR (id := 33) rfl (by simp)).2)
        simp only [nm, seval]
        apply VE.cons
        · first | exact Ev.skip (fun _ => rfl) | exact ev_eql (p := true) rfl (fun _ => rfl) rfl rfl (by simp)
        simp only [nm, seval]
        apply VE.cons
        · first | exact ev_pick_t rfl (gn rfl) rfl rfl | exact ev_pick_f rfl (gn rfl) rfl rfl
        simp only [nm, seval]
        apply VE.cons
        · exact ev_assign rfl (gn rfl)
        simp only [nm, seval]
        exact VE.nil _
      · kernel_rfl
      change VOk _ _ _ _ _
      refine vret ?_
      refine post_ret (res1 Tryd.results3 (rv_tmp rfl)) ?_
      intro ρ w' hr
      exact ⟨rfl, hr.1⟩
    · skip
      apply vrp
      · apply VE.cons
        · exact ev_move rfl (gn rfl)
        simp only [nm, seval]
        apply VE.cons
        · exact ev_move rfl (gn rfl)
        simp only [nm, seval]
        apply VE.cons
        · exact ev_len rfl (gn rfl) rfl Tryd.underlying23 (rdg_arg hvs)
        simp only [nm, seval]
        apply VE.cons
        · exact ev_lss (p := true) rfl (gn rfl) rfl rfl (by simp; omega)
        simp only [nm, seval]
        apply VE.cons
        · exact ev_move rfl (gn rfl)
        simp only [nm, seval]
        apply VE.cons
        · first | exact Ev.skip (fun _ => rfl) | exact ev_move rfl (fun _ => rfl)
        simp only [nm, seval]
        apply VE.cons
        · first | exact Ev.skip (fun _ => rfl) | exact ev_lss (p := false) rfl (fun _ => rfl) rfl rfl (by simp; omega)
        simp only [nm, seval]
        apply VE.cons
        · first | exact ev_pick_t rfl (gn rfl) rfl rfl | exact ev_pick_f rfl (gn rfl) rfl rfl
        simp only [nm, seval]
        exact VE.nil _
      · kernel_rfl
      change VOk _ _ _ _ _
      refine vcond_f rfl ?_
      refine vexit ?_
      change VOk _ _ _ _ _
      refine vseq ?_
      apply vrp
      · apply VE.cons
        · exact ev_callb (v := .bool true) rfl (gn rfl) rfl (en_of Tryd.func9 (by kernel_rfl) rfl) (fun w' hb => stands_ok w' (hLk.bw hb) (hLh.bw hb) (Nat.lt_of_lt_of_le hb1 hb.size))
        simp only [nm, seval]
        apply VE.cons
        · exact ev_move rfl (gn rfl)
        simp only [nm, seval]
        apply VE.cons
        · first | exact Ev.skip (fun _ => rfl) | exact ev_move rfl (fun _ => rfl)
        simp only [nm, seval]
        apply VE.cons
        · first | exact Ev.skip (fun _ => rfl) | exact ev_callp (v := .int .i64 ((cA i : Nat) : Nat)) [27] rfl (fun _ => rfl) rfl (en_of Tryd.func10 (by kernel_rfl) rfl) (fun ρ S w' hb hR => used_ok w' (relon_get hR (id := 27) rfl (by simp)).2)
        simp only [nm, seval]
        apply VE.cons
        · first | exact Ev.skip (fun _ => rfl) | exact ev_move rfl (fun _ => rfl)
        simp only [nm, seval]
        apply VE.cons
        · first | exact Ev.skip (fun _ => rfl) | exact ev_callp (v := .int .i64 ((cA i : Nat) : Nat)) [29] rfl (fun _ => rfl) rfl (en_of Tryd.func10 (by kernel_rfl) rfl) (fun ρ S w' hb hR => used_ok w' (relon_get hR (id := 29) rfl (by simp)).2)
        simp only [nm, seval]
        apply VE.cons
        · first | exact Ev.skip (fun _ => rfl) | exact ev_eql (p := true) rfl (fun _ => rfl) rfl rfl (by simp)
        simp only [nm, seval]
        apply VE.cons
        · first | exact ev_pick_t rfl (gn rfl) rfl rfl | exact ev_pick_f rfl (gn rfl) rfl rfl
        simp only [nm, seval]
        apply VE.cons
        · exact ev_move rfl (gn rfl)
        simp only [nm, seval]
        apply VE.cons
        · first | exact Ev.skip (fun _ => rfl) | exact ev_move rfl (fun _ => rfl)
        simp only [nm, seval]
        apply VE.cons
        · first | exact Ev.skip (fun _ => rfl) | exact ev_callp (v := .int .i64 ((cB i : Nat) : Nat)) [31] rfl (fun _ => rfl) rfl (en_of Tryd.func10 (by kernel_rfl) rfl) (fun ρ S w' hb hR => used_ok w' (relon_get hR (id := 31) rfl (by simp)).2)
        simp only [nm, seval]
        apply VE.cons
        · first | exact Ev.skip (fun _ => rfl) | exact ev_move rfl (fun _ => rfl)
        simp only [nm, seval]
        apply VE.cons
        · first | exact Ev.skip (fun _ => rfl) | exact ev_callp (v := .int .i64 ((cB i : Nat) : Nat)) [33] rfl (fun _ => rfl) rfl (en_of Tryd.func10 (by kernel_rfl) rfl) (fun ρ S w' hb hR => used_ok w' (relon_get hR (id := 33) rfl (by simp)).2)
        simp only [nm, seval]
        apply VE.cons
        · first | exact Ev.skip (fun _ => rfl) | exact ev_eql (p := true) rfl (fun _ => rfl) rfl rfl (by simp)
        simp only [nm, seval]
        apply VE.cons
        · first | exact ev_pick_t rfl (gn rfl) rfl rfl | exact ev_pick_f rfl (gn rfl) rfl rfl
        simp only [nm, seval]
        apply VE.cons
        · exact ev_assign rfl (gn rfl)
        simp only [nm, seval]
        exact VE.nil _
      · kernel_rfl
      change VOk _ _ _ _ _
      refine vret ?_
      refine post_ret (res1 Tryd.results3 (rv_tmp rfl)) ?_
      intro ρ w' hr
      exact ⟨rfl, hr.1⟩
    · have hlt : i < ls.length := hc.1
      obtain ⟨l, hl⟩ : ∃ l, ls[i]? = some l := ⟨ls[i], List.getElem?_eq_getElem hlt⟩
      obtain ⟨u, hu1, hu2', hu8⟩ := hel i l hl
      obtain ⟨F', hu2, hF'⟩ := rdgf_argb hu2'
      obtain ⟨m, hm⟩ : ∃ m, min l.length 100 = m := ⟨_, rfl⟩
      have hml : m ≤ l.length := by omega
      have hm100 : m ≤ 100 := by omega
      have hgl : By (gf l) := gf_by hu8
      have hcl : SlAt w (cutV 0 m 1 u) m 1 (tb m (gf l)) F' := by have h := hu2; rw [map_tb rfl] at h; have h2 := sl_tb (a := 0) (b := m) (n := m) h (Nat.zero_le _) hml rfl; rwa [show tb m (fun k => gf l (0 + k)) = tb m (gf l) from tb_ext fun j _ => by rw [Nat.zero_add]] at h2
      obtain ⟨L, hL⟩ : ∃ L, l.take m = L := ⟨_, rfl⟩
      have hL2 : L.map b8 = tb m (gf l) := by rw [← hL]; exact take_tb hml
      have hL8 : ∀ x ∈ L, x < 256 := by rw [← hL]; exact fun x hx => hu8 x (List.mem_of_mem_take hx)
      apply vrp
      · apply VE.cons
        · exact ev_move rfl (gn rfl)
        simp only [nm, seval]
        apply VE.cons
        · exact ev_move rfl (gn rfl)
        simp only [nm, seval]
        apply VE.cons
        · exact ev_len rfl (gn rfl) rfl Tryd.underlying23 (rdg_arg hvs)
        simp only [nm, seval]
        apply VE.cons
        · exact ev_lss (p := true) rfl (gn rfl) rfl rfl (by simp; omega)
        simp only [nm, seval]
        apply VE.cons
        · exact ev_move rfl (gn rfl)
        simp only [nm, seval]
        apply VE.cons
        · first | exact Ev.skip (fun _ => rfl) | exact ev_move rfl (fun _ => rfl)
        simp only [nm, seval]
        apply VE.cons
        · first | exact Ev.skip (fun _ => rfl) | exact ev_lss (p := true) rfl (fun _ => rfl) rfl rfl (by simp; omega)
        simp only [nm, seval]
        apply VE.cons
        · first | exact ev_pick_t rfl (gn rfl) rfl rfl | exact ev_pick_f rfl (gn rfl) rfl rfl
        simp only [nm, seval]
        exact VE.nil _
      · kernel_rfl
      change VOk _ _ _ _ _
      refine vcond_t rfl ?_
      refine vskip ?_
      change VOk _ _ _ _ _
      refine vseq ?_
      refine vblock ?_
      refine vseq ?_
      apply vrd (by kernel_rfl)
      · apply VE.cons
        · exact ev_move rfl (gn rfl)
        simp only [nm, seval]
        apply VE.cons
        · exact ev_move rfl (gn rfl)
        simp only [nm, seval]
        apply VE.cons
        · exact ev_idx (k := i) rfl (gn rfl) rfl rfl Tryd.underlying23 Tryd.sizeOf28 (rdg_arg hvs) hlt (by decide)
        simp only [nm, seval]
        apply VE.cons
        · exact ev_loadi rfl (gn rfl) rfl Tryd.underlying28 rfl (rdg_arg hvs) hu1
        simp only [nm, seval]
        apply VE.cons
        · exact ev_move rfl (gn rfl)
        simp only [nm, seval]
        apply VE.cons
        · exact ev_move rfl (gn rfl)
        simp only [nm, seval]
        apply VE.cons
        · exact ev_idx (k := i) rfl (gn rfl) rfl rfl Tryd.underlying23 Tryd.sizeOf28 (rdg_arg hvs) hlt (by decide)
        simp only [nm, seval]
        apply VE.cons
        · exact ev_loadi rfl (gn rfl) rfl Tryd.underlying28 rfl (rdg_arg hvs) hu1
        simp only [nm, seval]
        apply VE.cons
        · exact ev_len rfl (gn rfl) rfl Tryd.underlying28 (rdg_arg hu2)
        simp only [nm, seval]
        apply VE.cons
        · exact ev_min (c := m) (b := 100) rfl (gn rfl) rfl rfl hm
        simp only [nm, seval]
        apply VE.cons
        · exact ev_cutx (a := 0) (b := m) (v' := cutV 0 m 1 u) rfl (gn rfl) rfl Tryd.underlying28 Tryd.sizeOf5 (rdg_arg hu2) rfl rfl (by omega) (by omega) rfl
        simp only [nm, seval]
        apply VE.cons
        · exact ev_assign rfl (gn rfl)
        simp only [nm, seval]
        exact VE.nil _
      · kernel_rfl
      change VOk _ _ _ _ _
      refine vseq ?_
      apply vrp
      · apply VE.cons
        · exact ev_move rfl (gn rfl)
        simp only [nm, seval]
        apply VE.cons
        · exact ev_move rfl (gn rfl)
        simp only [nm, seval]
        apply VE.cons
        · exact ev_assign rfl (gn rfl)
        simp only [nm, seval]
        apply VE.cons
        · exact ev_assign rfl (gn rfl)
        simp only [nm, seval]
        exact VE.nil _
      · kernel_rfl
      change VOk _ _ _ _ _
      refine vseq ?_
      refine vseq ?_
      obtain hpar | hpar : i % 2 = 0 ∨ i % 2 = 1 := by omega
      · skip
        apply vrp
        · apply VE.cons
          · exact ev_move rfl (gn rfl)
          simp only [nm, seval]
          apply VE.cons
          · first | exact ev_bin rfl (gn rfl) rfl rfl (fun w => remc (c := 0) (by omega) (by decide) (by omega) _ _ w) | exact ev_bin rfl (gn rfl) rfl rfl (fun w => remc (c := 1) (by omega) (by decide) (by omega) _ _ w)
          simp only [nm, seval]
          apply VE.cons
          · first | exact ev_eql (p := true) rfl (gn rfl) rfl rfl (by decide) | exact ev_eql (p := false) rfl (gn rfl) rfl rfl (by decide)
          simp only [nm, seval]
          exact VE.nil _
        · kernel_rfl
        change VOk _ _ _ _ _
        refine vcond_f rfl ?_
        refine vskip ?_
        change VOk _ _ _ _ _
        refine vseq ?_
        apply vrp
        · apply VE.cons
          · exact ev_move rfl (gn rfl)
          simp only [nm, seval]
          apply VE.cons
          · exact ev_move rfl (gn rfl)
          simp only [nm, seval]
          apply VE.cons
          · exact ev_bin rfl (gn rfl) rfl rfl (fun w => remc (a := i) (b := 3) (c := i % 3) rfl (by decide) (by omega) _ _ w)
          simp only [nm, seval]
          apply VE.cons
          · exact ev_add (c := ((21 + i % 3 : Nat) : Int)) rfl (gn rfl) rfl rfl (by rw [i64w (by omega) (by omega)]; omega)
          simp only [nm, seval]
          apply VE.cons
          · exact ev_move rfl (gn rfl)
          simp only [nm, seval]
          apply VE.cons
          · exact ev_move rfl (gn rfl)
          simp only [nm, seval]
          apply VE.cons
          · exact ev_turnd (id := 27) (l' := halfL p1 (ivn k1) (cA i + 1)) 69 (.sl (5 + (m + 1 + i + 16)) 1 (recL (kfn k1) (hfn k1) (ivn k1) (cA i) m (gf l) (21 + i % 3) i)) (.tup [.d 69, .v (.int .i64 0)]) (fun v' => .tuple #[v', .int .i64 0]) [27, 803] (by decide) (fun _ => rfl) rfl (gn rfl) rfl rfl rfl (en_of Tryd.func7 (by kernel_rfl) rfl) (fun ρ S w' hb hR hh => c_send hR hb hh rfl rfl hB1 (kfn_by k1) (hfn_by k1) (ivn_by k1) hgl hcl hF' (by omega) (by omega) (by omega) (by omega) (cA_l (by omega)))
          simp only [nm, seval]
          apply VE.cons
          · exact ev_move rfl (gn rfl)
          simp only [nm, seval]
          apply VE.cons
          · first | exact ev_extract rfl (gn rfl) rfl rfl | exact ev_extractt rfl (gn rfl) rfl rfl
          simp only [nm, seval]
          apply VE.cons
          · first | exact ev_extract rfl (gn rfl) rfl rfl | exact ev_extractt rfl (gn rfl) rfl rfl
          simp only [nm, seval]
          apply VE.cons
          · exact ev_assign rfl (gn rfl)
          simp only [nm, seval]
          apply VE.cons
          · exact ev_assign rfl (gn rfl)
          simp only [nm, seval]
          exact VE.nil _
        · kernel_rfl
        change VOk _ _ _ _ _
        refine vseq ?_
        apply vrp
        · apply VE.cons
          · exact ev_move rfl (gn rfl)
          simp only [nm, seval]
          apply VE.cons
          · exact ev_move rfl (gn rfl)
          simp only [nm, seval]
          apply VE.cons
          · exact ev_turnd (id := 29) (l' := halfL p2 (ivn k1) (cA i + 1)) 75 (.sl m 1 (L.map b8)) (.tup [.v (.int .i64 ((21 + i % 3 : Nat) : Nat)), .d 75, .v (.int .i64 0)]) (fun v' => .tuple #[.int .i64 ((21 + i % 3 : Nat) : Nat), v', .int .i64 0]) [29, 803, 69] (by decide) (fun _ => rfl) rfl (gn rfl) rfl rfl rfl (en_of Tryd.func8 (by kernel_rfl) rfl) (fun ρ S w' hb hR hh => by rw [hL2]; exact c_recv hR hh rfl rfl rfl hB2 (kfn_by k1) (hfn_by k1) (ivn_by k1) hgl (by omega) (by omega) (by omega) (by omega) (cA_l (by omega)))
          simp only [nm, seval]
          apply VE.cons
          · exact ev_move rfl (gn rfl)
          simp only [nm, seval]
          apply VE.cons
          · first | exact ev_extract rfl (gn rfl) rfl rfl | exact ev_extractt rfl (gn rfl) rfl rfl
          simp only [nm, seval]
          apply VE.cons
          · first | exact ev_extract rfl (gn rfl) rfl rfl | exact ev_extractt rfl (gn rfl) rfl rfl
          simp only [nm, seval]
          apply VE.cons
          · first | exact ev_extract rfl (gn rfl) rfl rfl | exact ev_extractt rfl (gn rfl) rfl rfl
          simp only [nm, seval]
          apply VE.cons
          · exact ev_assign rfl (gn rfl)
          simp only [nm, seval]
          apply VE.cons
          · exact ev_assign rfl (gn rfl)
          simp only [nm, seval]
          apply VE.cons
          · exact ev_assign rfl (gn rfl)
          simp only [nm, seval]
          exact VE.nil _
        · kernel_rfl
        change VOk _ _ _ _ _
        refine vseq ?_
        apply vrp
        · apply VE.cons
          · exact ev_move rfl (gn rfl)
          simp only [nm, seval]
          apply VE.cons
          · exact ev_neq (p := false) rfl (gn rfl) rfl rfl (by simp)
          simp only [nm, seval]
          apply VE.cons
          · exact ev_move rfl (gn rfl)
          simp only [nm, seval]
          apply VE.cons
          · first | exact Ev.skip (fun _ => rfl) | exact ev_move rfl (fun _ => rfl)
          simp only [nm, seval]
          apply VE.cons
          · first | exact Ev.skip (fun _ => rfl) | exact ev_neq (p := false) rfl (fun _ => rfl) rfl rfl (by simp)
          simp only [nm, seval]
          apply VE.cons
          · first | exact ev_pick_t rfl (gn rfl) rfl rfl | exact ev_pick_f rfl (gn rfl) rfl rfl
          simp only [nm, seval]
          apply VE.cons
          · exact ev_move rfl (gn rfl)
          simp only [nm, seval]
          apply VE.cons
          · first | exact Ev.skip (fun _ => rfl) | exact ev_move rfl (fun _ => rfl)
          simp only [nm, seval]
          apply VE.cons
          · first | exact Ev.skip (fun _ => rfl) | exact ev_move rfl (fun _ => rfl)
          simp only [nm, seval]
          apply VE.cons
          · first | exact Ev.skip (fun _ => rfl) | exact ev_bin rfl (fun _ => rfl) rfl rfl (fun w => remc (a := i) (b := 3) (c := i % 3) rfl (by decide) (by omega) _ _ w)
          simp only [nm, seval]
          apply VE.cons
          · first | exact Ev.skip (fun _ => rfl) | exact ev_add (c := ((21 + i % 3 : Nat) : Int)) rfl (fun _ => rfl) rfl rfl (by rw [i64w (by omega) (by omega)]; omega)
          simp only [nm, seval]
          apply VE.cons
          · first | exact Ev.skip (fun _ => rfl) | exact ev_neq (p := false) rfl (fun _ => rfl) rfl rfl (by simp)
          simp only [nm, seval]
          apply VE.cons
          · first | exact ev_pick_t rfl (gn rfl) rfl rfl | exact ev_pick_f rfl (gn rfl) rfl rfl
          simp only [nm, seval]
          apply VE.cons
          · exact ev_move rfl (gn rfl)
          simp only [nm, seval]
          apply VE.cons
          · first | exact Ev.skip (fun _ => rfl) | exact ev_move rfl (fun _ => rfl)
          simp only [nm, seval]
          apply VE.cons
          · first | exact Ev.skip (fun _ => rfl) | exact ev_convb (bs := L) rfl (fun _ => rfl) rfl Tryd.underlying28 Tryd.underlying5 Tryd.underlying9 (rdg_dat rfl)
          simp only [nm, seval]
          apply VE.cons
          · first | exact Ev.skip (fun _ => rfl) | exact ev_move rfl (fun _ => rfl)
          simp only [nm, seval]
          apply VE.cons
          · first | exact Ev.skip (fun _ => rfl) | exact ev_convb (bs := L) rfl (fun _ => rfl) rfl Tryd.underlying28 Tryd.underlying5 Tryd.underlying9 (by rw [hL2]; exact rdg_arg hcl)
          simp only [nm, seval]
          apply VE.cons
          · first | exact Ev.skip (fun _ => rfl) | exact ev_bin (c := .bool false) rfl (fun _ => rfl) rfl rfl (fun w => str_ne (decide_eq_false (fun h => h rfl)) hL8 hL8 _ _ w)
          simp only [nm, seval]
          apply VE.cons
          · first | exact ev_pick_t rfl (gn rfl) rfl rfl | exact ev_pick_f rfl (gn rfl) rfl rfl
          simp only [nm, seval]
          exact VE.nil _
        · kernel_rfl
        change VOk _ _ _ _ _
        refine vcond_f rfl ?_
        refine vskip ?_
        change VOk _ _ _ _ _
        apply vrp
        · apply VE.cons
          · exact ev_move rfl (gn rfl)
          simp only [nm, seval]
          apply VE.cons
          · exact ev_add (c := ((i + 1 : Nat) : Int)) rfl (gn rfl) rfl rfl (by rw [i64w (by omega) (by omega)]; omega)
          simp only [nm, seval]
          apply VE.cons
          · exact ev_assign rfl (gn rfl)
          simp only [nm, seval]
          exact VE.nil _
        · kernel_rfl
        refine ⟨⟨i + 1, by omega⟩, by show min ls.length 8 - (i + 1) < min ls.length 8 - i; omega, ?_⟩
        first | rw [cA_e (by omega), cB_e (by omega)] | rw [cA_o (by omega), cB_o (by omega)]
        exact (weaker_forget (fun i => i == 1 || i == 7 || i == 8 || i == 9 || i == 10 || i == 11) [69, 75]).trans2 (fun _ => weaker_mem (fun k => by
          rw [memOf_del]
          by_cases h1 : k = 27
          · subst h1; rfl
          by_cases h2 : k = 29
          · subst h2; rfl
          by_cases h3 : k = 31
          · subst h3; rfl
          by_cases h4 : k = 33
          · subst h4; rfl
          by_cases h5 : k = 69
          · subst h5; rfl
          by_cases h6 : k = 75
          · subst h6; rfl
          rw [if_neg (by simp [h5, h6])]
          simp only [memOf, if_neg h1, if_neg h2, if_neg h3, if_neg h4, if_neg h5, if_neg h6]))
      · skip
        apply vrp
        · apply VE.cons
          · exact ev_move rfl (gn rfl)
          simp only [nm, seval]
          apply VE.cons
          · first | exact ev_bin rfl (gn rfl) rfl rfl (fun w => remc (c := 0) (by omega) (by decide) (by omega) _ _ w) | exact ev_bin rfl (gn rfl) rfl rfl (fun w => remc (c := 1) (by omega) (by decide) (by omega) _ _ w)
          simp only [nm, seval]
          apply VE.cons
          · first | exact ev_eql (p := true) rfl (gn rfl) rfl rfl (by decide) | exact ev_eql (p := false) rfl (gn rfl) rfl rfl (by decide)
          simp only [nm, seval]
          exact VE.nil _
        · kernel_rfl
        change VOk _ _ _ _ _
        refine vcond_t rfl ?_
        apply vrp
        · apply VE.cons
          · exact ev_move rfl (gn rfl)
          simp only [nm, seval]
          apply VE.cons
          · exact ev_move rfl (gn rfl)
          simp only [nm, seval]
          apply VE.cons
          · exact ev_assign rfl (gn rfl)
          simp only [nm, seval]
          apply VE.cons
          · exact ev_assign rfl (gn rfl)
          simp only [nm, seval]
          exact VE.nil _
        · kernel_rfl
        change VOk _ _ _ _ _
        refine vseq ?_
        apply vrp
        · apply VE.cons
          · exact ev_move rfl (gn rfl)
          simp only [nm, seval]
          apply VE.cons
          · exact ev_move rfl (gn rfl)
          simp only [nm, seval]
          apply VE.cons
          · exact ev_bin rfl (gn rfl) rfl rfl (fun w => remc (a := i) (b := 3) (c := i % 3) rfl (by decide) (by omega) _ _ w)
          simp only [nm, seval]
          apply VE.cons
          · exact ev_add (c := ((21 + i % 3 : Nat) : Int)) rfl (gn rfl) rfl rfl (by rw [i64w (by omega) (by omega)]; omega)
          simp only [nm, seval]
          apply VE.cons
          · exact ev_move rfl (gn rfl)
          simp only [nm, seval]
          apply VE.cons
          · exact ev_move rfl (gn rfl)
          simp only [nm, seval]
          apply VE.cons
          · exact ev_turnd (id := 31) (l' := halfL p3 (ivn k2) (cB i + 1)) 69 (.sl (5 + (m + 1 + i + 16)) 1 (recL (kfn k2) (hfn k2) (ivn k2) (cB i) m (gf l) (21 + i % 3) i)) (.tup [.d 69, .v (.int .i64 0)]) (fun v' => .tuple #[v', .int .i64 0]) [31, 803] (by decide) (fun _ => rfl) rfl (gn rfl) rfl rfl rfl (en_of Tryd.func7 (by kernel_rfl) rfl) (fun ρ S w' hb hR hh => c_send hR hb hh rfl rfl hB3 (kfn_by k2) (hfn_by k2) (ivn_by k2) hgl hcl hF' (by omega) (by omega) (by omega) (by omega) (cB_l (by omega)))
          simp only [nm, seval]
          apply VE.cons
          · exact ev_move rfl (gn rfl)
          simp only [nm, seval]
          apply VE.cons
          · first | exact ev_extract rfl (gn rfl) rfl rfl | exact ev_extractt rfl (gn rfl) rfl rfl
          simp only [nm, seval]
          apply VE.cons
          · first | exact ev_extract rfl (gn rfl) rfl rfl | exact ev_extractt rfl (gn rfl) rfl rfl
          simp only [nm, seval]
          apply VE.cons
          · exact ev_assign rfl (gn rfl)
          simp only [nm, seval]
          apply VE.cons
          · exact ev_assign rfl (gn rfl)
          simp only [nm, seval]
          exact VE.nil _
        · kernel_rfl
        change VOk _ _ _ _ _
        refine vseq ?_
        apply vrp
        · apply VE.cons
          · exact ev_move rfl (gn rfl)
          simp only [nm, seval]
          apply VE.cons
          · exact ev_move rfl (gn rfl)
          simp only [nm, seval]
          apply VE.cons
          · exact ev_turnd (id := 33) (l' := halfL p4 (ivn k2) (cB i + 1)) 75 (.sl m 1 (L.map b8)) (.tup [.v (.int .i64 ((21 + i % 3 : Nat) : Nat)), .d 75, .v (.int .i64 0)]) (fun v' => .tuple #[.int .i64 ((21 + i % 3 : Nat) : Nat), v', .int .i64 0]) [33, 803, 69] (by decide) (fun _ => rfl) rfl (gn rfl) rfl rfl rfl (en_of Tryd.func8 (by kernel_rfl) rfl) (fun ρ S w' hb hR hh => by rw [hL2]; exact c_recv hR hh rfl rfl rfl hB4 (kfn_by k2) (hfn_by k2) (ivn_by k2) hgl (by omega) (by omega) (by omega) (by omega) (cB_l (by omega)))
          simp only [nm, seval]
          apply VE.cons
          · exact ev_move rfl (gn rfl)
          simp only [nm, seval]
          apply VE.cons
          · first | exact ev_extract rfl (gn rfl) rfl rfl | exact ev_extractt rfl (gn rfl) rfl rfl
          simp only [nm, seval]
          apply VE.cons
          · first | exact ev_extract rfl (gn rfl) rfl rfl | exact ev_extractt rfl (gn rfl) rfl rfl
          simp only [nm, seval]
          apply VE.cons
          · first | exact ev_extract rfl (gn rfl) rfl rfl | exact ev_extractt rfl (gn rfl) rfl rfl
          simp only [nm, seval]
          apply VE.cons
          · exact ev_assign rfl (gn rfl)
          simp only [nm, seval]
          apply VE.cons
          · exact ev_assign rfl (gn rfl)
          simp only [nm, seval]
          apply VE.cons
          · exact ev_assign rfl (gn rfl)
          simp only [nm, seval]
          exact VE.nil _
        · kernel_rfl
        change VOk _ _ _ _ _
        refine vseq ?_
        apply vrp
        · apply VE.cons
          · exact ev_move rfl (gn rfl)
          simp only [nm, seval]
          apply VE.cons
          · exact ev_neq (p := false) rfl (gn rfl) rfl rfl (by simp)
          simp only [nm, seval]
          apply VE.cons
          · exact ev_move rfl (gn rfl)
          simp only [nm, seval]
          apply VE.cons
          · first | exact Ev.skip (fun _ => rfl) | exact ev_move rfl (fun _ => rfl)
          simp only [nm, seval]
          apply VE.cons
          · first | exact Ev.skip (fun _ => rfl) | exact ev_neq (p := false) rfl (fun _ => rfl) rfl rfl (by simp)
          simp only [nm, seval]
          apply VE.cons
          · first | exact ev_pick_t rfl (gn rfl) rfl rfl | exact ev_pick_f rfl (gn rfl) rfl rfl
          simp only [nm, seval]
          apply VE.cons
          · exact ev_move rfl (gn rfl)
          simp only [nm, seval]
          apply VE.cons
          · first | exact Ev.skip (fun _ => rfl) | exact ev_move rfl (fun _ => rfl)
          simp only [nm, seval]
          apply VE.cons
          · first | exact Ev.skip (fun _ => rfl) | exact ev_move rfl (fun _ => rfl)
          simp only [nm, seval]
          apply VE.cons
          · first | exact Ev.skip (fun _ => rfl) | exact ev_bin rfl (fun _ => rfl) rfl rfl (fun w => remc (a := i) (b := 3) (c := i % 3) rfl (by decide) (by omega) _ _ w)
          simp only [nm, seval]
          apply VE.cons
          · first | exact Ev.skip (fun _ => rfl) | exact ev_add (c := ((21 + i % 3 : Nat) : Int)) rfl (fun _ => rfl) rfl rfl (by rw [i64w (by omega) (by omega)]; omega)
          simp only [nm, seval]
          apply VE.cons
          · first | exact Ev.skip (fun _ => rfl) | exact ev_neq (p := false) rfl (fun _ => rfl) rfl rfl (by simp)
          simp only [nm, seval]
          apply VE.cons
          · first | exact ev_pick_t rfl (gn rfl) rfl rfl | exact ev_pick_f rfl (gn rfl) rfl rfl
          simp only [nm, seval]
          apply VE.cons
          · exact ev_move rfl (gn rfl)
          simp only [nm, seval]
          apply VE.cons
          · first | exact Ev.skip (fun _ => rfl) | exact ev_move rfl (fun _ => rfl)
          simp only [nm, seval]
          apply VE.cons
          · first | exact Ev.skip (fun _ => rfl) | exact ev_convb (bs := L) rfl (fun _ => rfl) rfl Tryd.underlying28 Tryd.underlying5 Tryd.underlying9 (rdg_dat rfl)
          simp only [nm, seval]
          apply VE.cons
          · first | exact Ev.skip (fun _ => rfl) | exact ev_move rfl (fun _ => rfl)
          simp only [nm, seval]
          apply VE.cons
          · first | exact Ev.skip (fun _ => rfl) | exact ev_convb (bs := L) rfl (fun _ => rfl) rfl Tryd.underlying28 Tryd.underlying5 Tryd.underlying9 (by rw [hL2]; exact rdg_arg hcl)
          simp only [nm, seval]
          apply VE.cons
          · first | exact Ev.skip (fun _ => rfl) | exact ev_bin (c := .bool false) rfl (fun _ => rfl) rfl rfl (fun w => str_ne (decide_eq_false (fun h => h rfl)) hL8 hL8 _ _ w)
          simp only [nm, seval]
          apply VE.cons
          · first | exact ev_pick_t rfl (gn rfl) rfl rfl | exact ev_pick_f rfl (gn rfl) rfl rfl
          simp only [nm, seval]
          exact VE.nil _
        · kernel_rfl
        change VOk _ _ _ _ _
        refine vcond_f rfl ?_
        refine vskip ?_
        change VOk _ _ _ _ _
        apply vrp
        · apply VE.cons
          · exact ev_move rfl (gn rfl)
          simp only [nm, seval]
          apply VE.cons
          · exact ev_add (c := ((i + 1 : Nat) : Int)) rfl (gn rfl) rfl rfl (by rw [i64w (by omega) (by omega)]; omega)
          simp only [nm, seval]
          apply VE.cons
          · exact ev_assign rfl (gn rfl)
          simp only [nm, seval]
          exact VE.nil _
        · kernel_rfl
        refine ⟨⟨i + 1, by omega⟩, by show min ls.length 8 - (i + 1) < min ls.length 8 - i; omega, ?_⟩
        first | rw [cA_e (by omega), cB_e (by omega)] | rw [cA_o (by omega), cB_o (by omega)]
        exact (weaker_forget (fun i => i == 1 || i == 7 || i == 8 || i == 9 || i == 10 || i == 11) [69, 75]).trans2 (fun _ => weaker_mem (fun k => by
          rw [memOf_del]
          by_cases h1 : k = 27
          · subst h1; rfl
          by_cases h2 : k = 29
          · subst h2; rfl
          by_cases h3 : k = 31
          · subst h3; rfl
          by_cases h4 : k = 33
          · subst h4; rfl
          by_cases h5 : k = 69
          · subst h5; rfl
          by_cases h6 : k = 75
          · subst h6; rfl
          rw [if_neg (by simp [h5, h6])]
          simp only [memOf, if_neg h1, if_neg h2, if_neg h3, if_neg h4, if_neg h5, if_neg h6]))
  · exact weaker_forget (fun i => i == 1 || i == 7 || i == 8 || i == 9 || i == 10 || i == 11) []
end Go.Proofs.YtiidceljhmpgcaaDoor
end
section
namespace Go.Proofs.YtiidceljhmpgcaaDoor
open Go.RowKit Go.Vx
open Go.Toll (Gw)
open TollSha
set_option maxHeartbeats 4000000
set_option maxRecDepth 100000
def kk1 (seed : List Nat) : List Nat := expand seed (hkinfo [111, 110, 101] (sha []) 32) 32
def kk2 (seed : List Nat) : List Nat := expand seed (hkinfo [116, 119, 111] (sha []) 32) 32
theorem kk1_len (s : List Nat) : (kk1 s).length = 32 := expand_len _ _ _
theorem kk2_len (s : List Nat) : (kk2 s).length = 32 := expand_len _ _ _
theorem kk1_lt (s : List Nat) : ∀ x ∈ kk1 s, x < 256 := expand_lt _ _ _
theorem kk2_lt (s : List Nat) : ∀ x ∈ kk2 s, x < 256 := expand_lt _ _ _
theorem half_at {w w1 : World} {ρ : Nat → Nm} {S : Nat → Nat → Prop} {m : Mem} {id r : Nat} {iv : Nat → Nat} (hR : RelOn w.heap.size ρ S w1 m) (h : m id = some (.cells (hSV r iv) 47)) : w.heap.size ≤ (ρ id).g ∧ w1.heap[(ρ id).g]? = some (.cells (halfL (ρ r).val iv (cA 0)).toArray 47 (0, 0)) := by
  have a := hR.good id _ h
  refine ⟨a.1, a.2.trans ?_⟩
  rw [cellsObj, hSV_cs]
  rfl
theorem box_at {w w1 : World} {LL : OwnL} {ρ : Nat → Nm} {S : Nat → Nat → Prop} {m : Mem} {r : Nat} {kf h : Nat → Nat} (hR : RelOn w.heap.size ρ S w1 m) (hr : m r = some (.dat (datB kf h))) (hL : ∀ x ∈ LL, ∃ l, m x.1 = some (.cells l 47) ∧ (ρ x.1).g = x.2.1) : BoxIn w w1 LL (ρ r).val kf h (S r) := by
  obtain ⟨p, e, hp⟩ : (datB kf h).holds [(ρ r).val] w1 (S r) := hR.good r _ hr
  simp only [List.cons.injEq, and_true] at e
  rw [e]
  refine ⟨hp, fun k hk => ⟨hR.fr r k (by rw [hr]; rfl) hk, hR.lt r k (by rw [hr]; rfl) hk, fun x hx e2 => ?_⟩⟩
  obtain ⟨l, h1, h2⟩ := hL x hx
  have := hR.dis x.1 _ r h1 True.intro (by rw [hr]; rfl)
  rw [h2, e2] at this
  exact this hk
theorem law_ok {v : Value} {seed : List Nat} {ls : List (List Nat)} {F : Nat → Prop} (w : World) (hL : LaidK w) (hH : LaidH w) (hb1 : 1 < w.heap.size) (hsl : seed.length = 32) (hs8 : ∀ y ∈ seed, y < 256) (hp : PartsAt w v ls F) : Calls Tryd.prog 3 #[.agg (seed.map b8).toArray, v] w fun e w' => e = .returned (.bool true) ∧ Bw w w' := by
  go_enter Tryd.func3, Tryd.ntmps3
  refine wgo ?_
  simp only [List.map_cons, List.map_nil]
  refine wseq ?_
  apply vrp
  · apply VE.cons
    · exact ev_boxr (l := seed.map b8) rfl rfl (gn rfl) rfl rfl
    simp only [nm, seval]
    apply VE.cons
    · exact ev_assign rfl (gn rfl)
    simp only [nm, seval]
    exact VE.nil _
  · kernel_rfl
  refine ⟨rfl, ?_⟩
  refine wseq ?_
  apply vrd (by kernel_rfl)
  · apply VE.cons
    · exact ev_loadr (vs := seed.map b8) rfl (gn rfl) rfl rfl Tryd.underlying22 rfl Tryd.sizeOf22 (List.take_of_length_le (by simp [hsl])) (by simp [hsl])
    simp only [nm, seval]
    apply VE.cons
    · exact ev_callb (v := .agg ((sha []).map b8).toArray) rfl (gn rfl) rfl (en_of Tryd.func5 (by kernel_rfl) rfl) (fun w' hb => Of_ok (ls := []) (F := fun _ => False) w' (hL.bw hb) (hH.bw hb) (Nat.lt_of_lt_of_le hb1 hb.size) ⟨[], ⟨none, 0, rfl, Nat.le_refl _, rfl, .inl rfl⟩, fun i l h => by simp at h⟩ (fun _ h => h.elim) (by decide) (by decide))
    simp only [nm, seval]
    apply VE.cons
    · exact ev_callb (v := .agg ((kk1 seed).map b8).toArray) rfl (gn rfl) rfl (en_of Tryd.func4 (by kernel_rfl) rfl) (fun w' hb => Derive_ok (lab := [111, 110, 101]) w' (hL.bw hb) (hH.bw hb) (Nat.lt_of_lt_of_le hb1 hb.size) hsl hs8 (sha_lt []) (sha_len []) (by decide) (by decide))
    simp only [nm, seval]
    apply VE.cons
    · exact ev_loadr (vs := seed.map b8) rfl (gn rfl) rfl rfl Tryd.underlying22 rfl Tryd.sizeOf22 (List.take_of_length_le (by simp [hsl])) (by simp [hsl])
    simp only [nm, seval]
    apply VE.cons
    · exact ev_callb (v := .agg ((sha []).map b8).toArray) rfl (gn rfl) rfl (en_of Tryd.func5 (by kernel_rfl) rfl) (fun w' hb => Of_ok (ls := []) (F := fun _ => False) w' (hL.bw hb) (hH.bw hb) (Nat.lt_of_lt_of_le hb1 hb.size) ⟨[], ⟨none, 0, rfl, Nat.le_refl _, rfl, .inl rfl⟩, fun i l h => by simp at h⟩ (fun _ h => h.elim) (by decide) (by decide))
    simp only [nm, seval]
    apply VE.cons
    · exact ev_callb (v := .agg ((kk2 seed).map b8).toArray) rfl (gn rfl) rfl (en_of Tryd.func4 (by kernel_rfl) rfl) (fun w' hb => Derive_ok (lab := [116, 119, 111]) w' (hL.bw hb) (hH.bw hb) (Nat.lt_of_lt_of_le hb1 hb.size) hsl hs8 (sha_lt []) (sha_len []) (by decide) (by decide))
    simp only [nm, seval]
    apply VE.cons
    · exact ev_allocr (l := OL []) rfl rfl (gn rfl) Tryd.zeroValue22 rfl
    simp only [nm, seval]
    apply VE.cons
    · exact ev_allocr (l := OL []) rfl rfl (gn rfl) Tryd.zeroValue22 rfl
    simp only [nm, seval]
    apply VE.cons
    · first | exact ev_storer (l' := (kk1 seed).map b8) rfl (gn rfl) rfl rfl rfl Tryd.sizeOf22 (by simp [Value.cells, kk1_len]) (by rw [OL_len (by simp)]; decide) (by show ((kk1 seed).map b8).toArray.toList.all _ = true; exact b8_all _) (by rw [List.take_zero, List.nil_append, List.drop_of_length_le (by rw [OL_len (by simp)]; decide), List.append_nil]; simp [Value.cells]) | exact ev_storer (l' := (kk2 seed).map b8) rfl (gn rfl) rfl rfl rfl Tryd.sizeOf22 (by simp [Value.cells, kk2_len]) (by rw [OL_len (by simp)]; decide) (by show ((kk2 seed).map b8).toArray.toList.all _ = true; exact b8_all _) (by rw [List.take_zero, List.nil_append, List.drop_of_length_le (by rw [OL_len (by simp)]; decide), List.append_nil]; simp [Value.cells])
    simp only [nm, seval]
    apply VE.cons
    · first | exact ev_storer (l' := (kk1 seed).map b8) rfl (gn rfl) rfl rfl rfl Tryd.sizeOf22 (by simp [Value.cells]) (by rw [OL_len (by simp)]; decide) (by show ((kk1 seed).map b8).toArray.toList.all _ = true; exact b8_all _) (by rw [List.take_zero, List.nil_append, List.drop_of_length_le (by rw [OL_len (by simp)]; decide), List.append_nil]; simp [Value.cells]) | exact ev_storer (l' := (kk2 seed).map b8) rfl (gn rfl) rfl rfl rfl Tryd.sizeOf22 (by simp [Value.cells, kk2_len]) (by rw [OL_len (by simp)]; decide) (by show ((kk2 seed).map b8).toArray.toList.all _ = true; exact b8_all _) (by rw [List.take_zero, List.nil_append, List.drop_of_length_le (by rw [OL_len (by simp)]; decide), List.append_nil]; simp [Value.cells])
    simp only [nm, seval]
    exact VE.nil _
  · kernel_rfl
  refine ⟨rfl, ?_⟩
  refine wseq ?_
  apply vrd (by kernel_rfl)
  · apply VE.cons
    · exact ev_loadr (vs := (kk1 seed).map b8) rfl (gn rfl) rfl rfl Tryd.underlying22 rfl Tryd.sizeOf22 (List.take_of_length_le (by simp [kk1_len])) (by simp [kk1_len])
    simp only [nm, seval]
    apply VE.cons
    · exact ev_callnewH 127 (by decide) rfl rfl (gn rfl) rfl (en_of Tryd.func6 (by kernel_rfl) rfl) (fun w' hb => rNew_ok w' (hL.bw hb) (hH.bw hb) (Nat.lt_of_lt_of_le hb1 hb.size) (kk1_len _) (kk1_lt _))
    simp only [nm, seval]
    apply VE.cons
    · exact ev_loadr (vs := (kk1 seed).map b8) rfl (gn rfl) rfl rfl Tryd.underlying22 rfl Tryd.sizeOf22 (List.take_of_length_le (by simp [kk1_len])) (by simp [kk1_len])
    simp only [nm, seval]
    apply VE.cons
    · exact ev_callnewH 129 (by decide) rfl rfl (gn rfl) rfl (en_of Tryd.func6 (by kernel_rfl) rfl) (fun w' hb => rNew_ok w' (hL.bw hb) (hH.bw hb) (Nat.lt_of_lt_of_le hb1 hb.size) (kk1_len _) (kk1_lt _))
    simp only [nm, seval]
    apply VE.cons
    · exact ev_assign rfl (gn rfl)
    simp only [nm, seval]
    apply VE.cons
    · exact ev_assign rfl (gn rfl)
    simp only [nm, seval]
    exact VE.nil _
  · kernel_rfl
  refine ⟨rfl, ?_⟩
  refine wseq ?_
  apply vrd (by kernel_rfl)
  · apply VE.cons
    · exact ev_loadr (vs := (kk2 seed).map b8) rfl (gn rfl) rfl rfl Tryd.underlying22 rfl Tryd.sizeOf22 (List.take_of_length_le (by simp [kk2_len])) (by simp [kk2_len])
    simp only [nm, seval]
    apply VE.cons
    · exact ev_callnewH 131 (by decide) rfl rfl (gn rfl) rfl (en_of Tryd.func6 (by kernel_rfl) rfl) (fun w' hb => rNew_ok w' (hL.bw hb) (hH.bw hb) (Nat.lt_of_lt_of_le hb1 hb.size) (kk2_len _) (kk2_lt _))
    simp only [nm, seval]
    apply VE.cons
    · exact ev_loadr (vs := (kk2 seed).map b8) rfl (gn rfl) rfl rfl Tryd.underlying22 rfl Tryd.sizeOf22 (List.take_of_length_le (by simp [kk2_len])) (by simp [kk2_len])
    simp only [nm, seval]
    apply VE.cons
    · exact ev_callnewH 133 (by decide) rfl rfl (gn rfl) rfl (en_of Tryd.func6 (by kernel_rfl) rfl) (fun w' hb => rNew_ok w' (hL.bw hb) (hH.bw hb) (Nat.lt_of_lt_of_le hb1 hb.size) (kk2_len _) (kk2_lt _))
    simp only [nm, seval]
    apply VE.cons
    · exact ev_assign rfl (gn rfl)
    simp only [nm, seval]
    apply VE.cons
    · exact ev_assign rfl (gn rfl)
    simp only [nm, seval]
    exact VE.nil _
  · kernel_rfl
  refine ⟨rfl, ?_⟩
  intro ρ w1 hr
  obtain ⟨hb, S, hR⟩ := hr
  change RelOn w.heap.size ρ S w1 (memOf [(33, .cells (hSV 133 (ivn (kk2 seed))) 47), (133, .dat (datB (kfn (kk2 seed)) (hfn (kk2 seed)))), (31, .cells (hSV 131 (ivn (kk2 seed))) 47), (131, .dat (datB (kfn (kk2 seed)) (hfn (kk2 seed)))), (29, .cells (hSV 129 (ivn (kk1 seed))) 47), (129, .dat (datB (kfn (kk1 seed)) (hfn (kk1 seed)))), (27, .cells (hSV 127 (ivn (kk1 seed))) 47), (127, .dat (datB (kfn (kk1 seed)) (hfn (kk1 seed)))), (6, .arr ((kk2 seed).map b8) 22), (5, .arr ((kk1 seed).map b8) 22), (2, .arr (seed.map b8) 22)]) at hR
  have a1 := half_at hR (id := 27) (r := 127) rfl
  have a2 := half_at hR (id := 29) (r := 129) rfl
  have a3 := half_at hR (id := 31) (r := 131) rfl
  have a4 := half_at hR (id := 33) (r := 133) rfl
  obtain ⟨LL, hLL⟩ : ∃ LL : OwnL, [(27, (ρ 27).g, halfL (ρ 127).val (ivn (kk1 seed)) (cA 0), 47), (29, (ρ 29).g, halfL (ρ 129).val (ivn (kk1 seed)) (cA 0), 47), (31, (ρ 31).g, halfL (ρ 131).val (ivn (kk2 seed)) (cB 0), 47), (33, (ρ 33).g, halfL (ρ 133).val (ivn (kk2 seed)) (cB 0), 47)] = LL := ⟨_, rfl⟩
  have hin : ∀ x ∈ LL, ∃ l, memOf [(33, .cells (hSV 133 (ivn (kk2 seed))) 47), (133, .dat (datB (kfn (kk2 seed)) (hfn (kk2 seed)))), (31, .cells (hSV 131 (ivn (kk2 seed))) 47), (131, .dat (datB (kfn (kk2 seed)) (hfn (kk2 seed)))), (29, .cells (hSV 129 (ivn (kk1 seed))) 47), (129, .dat (datB (kfn (kk1 seed)) (hfn (kk1 seed)))), (27, .cells (hSV 127 (ivn (kk1 seed))) 47), (127, .dat (datB (kfn (kk1 seed)) (hfn (kk1 seed)))), (6, .arr ((kk2 seed).map b8) 22), (5, .arr ((kk1 seed).map b8) 22), (2, .arr (seed.map b8) 22)] x.1 = some (.cells l 47) ∧ (ρ x.1).g = x.2.1 := by
    rw [← hLL]; intro x hx; simp only [List.mem_cons, List.not_mem_nil, or_false] at hx
    rcases hx with rfl | rfl | rfl | rfl <;> exact ⟨_, rfl, rfl⟩
  have hB1 := box_at hR (r := 127) rfl hin
  have hB2 := box_at hR (r := 129) rfl hin
  have hB3 := box_at hR (r := 131) rfl hin
  have hB4 := box_at hR (r := 133) rfl hin
  have hrel := rel_mk (ρ := ρ) (L := LL) hb (by rw [← hLL]; intro x hx; simp only [List.mem_cons, List.not_mem_nil, or_false] at hx; rcases hx with rfl | rfl | rfl | rfl <;> rfl)
    (by
      rw [← hLL]; intro x hx; simp only [List.mem_cons, List.not_mem_nil, or_false] at hx
      rcases hx with rfl | rfl | rfl | rfl
      · exact a1
      · exact a2
      · exact a3
      · exact a4)
    (fun x hx y hy e => by
      obtain ⟨l, h1, h2⟩ := hin x hx
      obtain ⟨l', h1', h2'⟩ := hin y hy
      exact hR.inj x.1 _ y.1 _ h1 True.intro h1' True.intro (by rw [h2, h2', e]))
  have hM : memOf (ownM w w1 LL) = memOf [(27, .arr (halfL (ρ 127).val (ivn (kk1 seed)) (cA 0)) 47), (29, .arr (halfL (ρ 129).val (ivn (kk1 seed)) (cA 0)) 47), (31, .arr (halfL (ρ 131).val (ivn (kk2 seed)) (cB 0)) 47), (33, .arr (halfL (ρ 133).val (ivn (kk2 seed)) (cB 0)) 47), (1027, .pin 27 ((ρ 27).g)), (1029, .pin 29 ((ρ 29).g)), (1031, .pin 31 ((ρ 31).g)), (1033, .pin 33 ((ρ 33).g)), (803, .dat (frameD w1 (ownX w LL))), (805, .floor w1.heap.size)] := by
    rw [← hLL]; rfl
  simp only [hM] at hrel
  exact (wend (R := fun e w' => e = .returned (.bool true) ∧ Bw w w') (fun _ _ h => h) (law_tail (fun i => SV.c ρ (([.v (.agg ((seed).map b8).toArray), .v v, .p 2 0, .v undef, .v (.bool false), .p 5 0, .p 6 0, .p 27 0, .p 29 0, .p 31 0, .p 33 0, .v undef, .v undef, .v undef, .v undef, .v undef, .v undef, .v undef, .v undef, .v undef, .v (.agg ((seed).map b8).toArray), .v (.agg ((sha []).map b8).toArray), .v (.agg ((kk1 seed).map b8).toArray), .v (.agg ((seed).map b8).toArray), .v (.agg ((sha []).map b8).toArray), .v (.agg ((kk2 seed).map b8).toArray), .v (.agg ((kk1 seed).map b8).toArray), .p 27 0, .v (.agg ((kk1 seed).map b8).toArray), .p 29 0, .v (.agg ((kk2 seed).map b8).toArray), .p 31 0, .v (.agg ((kk2 seed).map b8).toArray), .p 33 0] : List SV).getD i (.v undef))) hL hH hb1 hp hB1 hB2 hB3 hB4)) ρ w1 (hrel _)
end Go.Proofs.YtiidceljhmpgcaaDoor
end
section
namespace Go.Toll
open Go.ChangeShapes Go.WideShapes Go.ChangeAt Go.RowKit
theorem list_of {α : Type} {n : Nat} {p : Nat → α → Prop} (h : ∀ i, i < n → ∃ z, p i z) : ∃ zs : List α, zs.length = n ∧ ∀ i z, zs[i]? = some z → p i z := by
  induction n with
  | zero => exact ⟨[], rfl, fun i z hz => by simp at hz⟩
  | succ n ih =>
    obtain ⟨zs, hl, hp⟩ := ih fun i hi => h i (by omega)
    obtain ⟨z, hz⟩ := h n (by omega)
    refine ⟨zs ++ [z], by simp [hl], fun i y hy => ?_⟩
    by_cases hi : i < zs.length
    · rw [List.getElem?_append_left hi] at hy; exact hp i y hy
    · rw [List.getElem?_append_right (by omega)] at hy
      have hi0 : i - zs.length = 0 := by
        apply Classical.byContradiction; intro hne
        rw [List.getElem?_eq_none (by simp; omega)] at hy; cases hy
      rw [hi0] at hy
      simp at hy; subst hy
      obtain rfl : i = n := by omega
      exact hz
section
variable {H : Type} {enc : TypeId × Value → H} {P : Program} {w : World} {base : Nat} {sp : Nat → Bool} {held : Bool} {t e : TypeId} {n : Nat} {k : IntKind}
theorem open_ints {r : Reach} {b0 : Nat} {v : Value} {d : DataW H} {ps : List MemPlace} (ht : P.underlying t = some (.array n e)) (he : P.underlying e = some (.int k)) (hce : P.cellsOf e = 1) (hct : P.cellsOf t = n)
    (hv : Value.okWide P w r b0 t v) (hd : DataW.Trod enc P w base sp held t v d ps) :
    ∃ zs : List Int, zs.length = n ∧ v = .agg (zs.map (Value.int k)).toArray ∧ d = .agg (zs.map fun z => .lit (.int k z)) ∧ ps = [] ∧ ∀ z ∈ zs, (Lit.int k z).wf = true := by
  simp only [Value.okWide, ht] at hv
  obtain ⟨cs, rfl, hcs, _⟩ := hv
  rw [hct] at hcs
  obtain ⟨fuel, hf⟩ := hd
  obtain ⟨xs, m, rfl, hx, _, hxl, hi⟩ := DataW.trod_array ht hf
  simp only [hce, Nat.mul_one, Value.cells] at hi
  have hz : ∀ i, i < n → ∃ z : Int, cs.toList[i]? = some (.int k z) ∧ xs[i]? = some (.lit (.int k z), []) ∧ (Lit.int k z).wf = true := fun i hin => by
    have h1 := hi i hin
    rw [List.getElem?_eq_getElem (by omega)] at h1
    obtain ⟨z, h2, h3, h4⟩ := DataW.trod_int he h1
    have hic : i < cs.toList.length := by simp [hcs]; exact hin
    refine ⟨z, ?_, by rw [List.getElem?_eq_getElem (by omega), h3], h4⟩
    rw [List.drop_eq_getElem_cons hic] at h2
    simp at h2
    rw [List.getElem?_eq_getElem hic]
    simpa using h2
  obtain ⟨zs, hl, hp⟩ := list_of hz
  have e1 : cs.toList = zs.map (Value.int k) := by
    apply List.ext_getElem?
    intro i
    by_cases hin : i < n
    · obtain ⟨h1, _, _⟩ := hp i zs[i] (by simp [hl, hin])
      rw [h1]; simp [hl, hin]
    · rw [List.getElem?_eq_none (by simp [hcs]; omega), List.getElem?_eq_none (by simp [hl]; omega)]
  have e2 : xs = zs.map fun z => ((.lit (.int k z) : DataW H), ([] : List MemPlace)) := by
    apply List.ext_getElem?
    intro i
    by_cases hin : i < n
    · obtain ⟨_, h1, _⟩ := hp i zs[i] (by simp [hl, hin])
      rw [h1]; simp [hl, hin]
    · rw [List.getElem?_eq_none (by omega), List.getElem?_eq_none (by simp [hl]; omega)]
  simp only [Prod.mk.injEq] at hx
  refine ⟨zs, hl, by rw [← e1], by rw [hx.1, e2]; simp [Function.comp_def], by rw [hx.2, e2]; simp [List.flatMap_eq_nil_iff], fun z hz => ?_⟩
  obtain ⟨i, hi', rfl⟩ := List.getElem_of_mem hz
  exact (hp i zs[i] (by simp [hi'])).2.2
end
end Go.Toll
namespace Go.Proofs.YtiidceljhmpgcaaDoor
open Go.ChangeShapes Go.WideShapes Go.ChangeAt Go.RowKit Go.Vx Go.Lib
open TollSha
set_option maxRecDepth 100000
theorem Tryd.own : ownKnob Tryd.prog.godebug = none := by kernel_rfl
theorem plainP : Plain Tryd.prog := ⟨by kernel_rfl, by kernel_rfl, by kernel_rfl⟩
theorem cells5 : Tryd.prog.cellsOf 5 = 1 := by kernel_rfl
theorem cells28 : Tryd.prog.cellsOf 28 = 1 := by kernel_rfl
theorem cells58 : Tryd.prog.cellsOf 58 = 1 := by kernel_rfl
theorem cells59 : Tryd.prog.cellsOf 59 = 8 := by kernel_rfl
theorem cells84 : Tryd.prog.cellsOf 84 = 64 := by kernel_rfl
def laidList : List (String × DataW Unit) := Rows.tollgateLinesRow.laid
theorem bytes_of {zs : List Int} (h : ∀ z ∈ zs, (Lit.int .u8 z).wf = true) : ∃ bs : List Nat, zs.map (Value.int .u8) = bs.map b8 ∧ bs.length = zs.length ∧ ∀ x ∈ bs, x < 256 := by
  refine ⟨zs.map Int.toNat, ?_, by simp, ?_⟩
  · rw [List.map_map]
    apply List.map_congr_left
    intro z hz
    have := h z hz
    simp [Lit.wf, IntKind.min, IntKind.max, IntKind.bits, IntKind.signed] at this
    simp only [Function.comp, b8]
    rw [Int.toNat_of_nonneg (by omega)]
  · intro x hx
    obtain ⟨z, hz, rfl⟩ := List.mem_map.1 hx
    have := h z hz
    simp [Lit.wf, IntKind.min, IntKind.max, IntKind.bits, IntKind.signed] at this
    omega
theorem open_b {H : Type} {enc : TypeId × Value → H} {w : World} {base : Nat} {held : Bool} {fuel : Nat} {u : Value} {x : DataW H × List MemPlace}
    (hf : DataW.trod enc Tryd.prog w base (fun _ => true) held fuel 28 [u] = some x) : ∃ bs : List Nat, SlAt w u bs.length 1 (bs.map b8) (fun _ => True) ∧ ∀ x ∈ bs, x < 256 := by
  obtain ⟨d, ps⟩ := x
  rcases Go.ChangeShapes.open_ints Tryd.underlying28 Tryd.underlying5 cells5 hf with ⟨h, _⟩ | ⟨a, len', cap', zs, h, _, h1, _, h2, _, h3, h4⟩
  · simp only [List.cons.injEq, and_true] at h
    subst h
    exact ⟨[], ⟨none, 0, rfl, Nat.le_refl _, rfl, .inl rfl⟩, fun z hz => by cases hz⟩
  · simp only [List.cons.injEq, and_true] at h
    subst h
    simp only [if_true] at h2
    obtain ⟨bs, e1, e2, e3⟩ := bytes_of (zs := zs.take len') fun z hz => h4 z (List.mem_of_mem_take hz)
    have hbl : bs.length = len' := by rw [e2, List.length_take]; omega
    refine ⟨bs, ⟨_, cap', by rw [hbl], by omega, by simp, .inr ⟨a, rfl, True.intro, fun i x hx => ?_⟩⟩, e3⟩
    rw [← e1, List.getElem?_map] at hx
    cases hz : (zs.take len')[i]? with
    | none => rw [hz] at hx; cases hx
    | some y =>
      rw [hz] at hx; simp only [Option.map_some, Option.some.injEq] at hx
      rw [List.getElem?_take] at hz
      split at hz
      · have hlt := (List.getElem?_eq_some_iff.1 hz).1
        have := h3 i hlt
        rw [show zs.getD i 0 = y by simp [List.getD, hz]] at this
        rw [this, hx]
      · cases hz
theorem parts_of {w : World} {ad : Addr} {len : Nat} (h : ∀ i, i < len → ∃ (l : List Nat) (u : Value), w.cell? (ad.add i) = some u ∧ SlAt w u l.length 1 (l.map b8) (fun _ => True) ∧ ∀ x ∈ l, x < 256) :
    ∀ j, j ≤ len → ∃ (ls : List (List Nat)) (vs : List Value), ls.length = j ∧ vs.length = j ∧ (∀ (i : Nat) (l : List Nat), ls[i]? = some l → ∃ u, vs[i]? = some u ∧ SlAt w u l.length 1 (l.map b8) (fun _ => True) ∧ ∀ x ∈ l, x < 256) ∧ ∀ i x, vs[i]? = some x → w.cell? (ad.add i) = some x
  | 0, _ => ⟨[], [], rfl, rfl, (fun i l hl => by cases hl), (fun i x hx => by cases hx)⟩
  | j + 1, hj => by
    obtain ⟨ls, vs, h1, h2, h3, h4⟩ := parts_of h j (by omega)
    obtain ⟨l, u, g1, g2, g3⟩ := h j (by omega)
    refine ⟨ls ++ [l], vs ++ [u], by simp [h1], by simp [h2], fun i k hk => ?_, fun i x hx => ?_⟩
    · by_cases hi : i < ls.length
      · rw [List.getElem?_append_left hi] at hk
        obtain ⟨u', e1, e2, e3⟩ := h3 i k hk
        exact ⟨u', by rw [List.getElem?_append_left (by omega)]; exact e1, e2, e3⟩
      · have hlt := (List.getElem?_eq_some_iff.1 hk).1
        simp only [List.length_append, List.length_singleton] at hlt
        obtain rfl : i = j := by omega
        rw [List.getElem?_append_right (by omega), h1, Nat.sub_self] at hk
        obtain rfl : l = k := by simpa using hk
        exact ⟨u, by rw [List.getElem?_append_right (by omega), h2, Nat.sub_self]; rfl, g2, g3⟩
    · by_cases hi : i < vs.length
      · rw [List.getElem?_append_left hi] at hx; exact h4 i x hx
      · have hlt := (List.getElem?_eq_some_iff.1 hx).1
        simp only [List.length_append, List.length_singleton] at hlt
        obtain rfl : i = j := by omega
        rw [List.getElem?_append_right (by omega), h2, Nat.sub_self] at hx
        obtain rfl : u = x := by simpa using hx
        exact g1
theorem open_parts {H : Type} {enc : TypeId × Value → H} {w : World} {base : Nat} {held : Bool} {r : Reach} {b0 : Nat} {v : Value} {d : DataW H} {ps : List MemPlace}
    (hv : Value.okWide Tryd.prog w r b0 23 v) (hd : DataW.Trod enc Tryd.prog w base (fun _ => true) held 23 v d ps) : ∃ (ls : List (List Nat)) (F : Nat → Prop), PartsAt w v ls F := by
  obtain ⟨ao, len, cap, rfl⟩ := okWide_slice Tryd.underlying23 hv
  obtain ⟨fuel, hf⟩ := hd
  cases fuel with
  | zero => simp [DataW.trod] at hf
  | succ n =>
  rcases DataW.trod_slice Tryd.underlying23 hf with ⟨e2, _⟩ | ⟨ad, len', cap', elems, rest, m, hm, e2, _, hb, hlc, hcm, hlen, hel, _⟩
  · simp only [Value.cells, List.cons.injEq, Value.slice.injEq, and_true] at e2
    obtain ⟨rfl, rfl, rfl⟩ := e2
    exact ⟨[], fun _ => True, [], ⟨none, 0, rfl, Nat.le_refl _, rfl, .inl rfl⟩, fun i l hl => by cases hl⟩
  · simp only [Value.cells, List.cons.injEq, Value.slice.injEq, and_true] at e2
    obtain ⟨rfl, rfl, rfl⟩ := e2
    have each : ∀ i, i < len → ∃ (l : List Nat) (u : Value), w.cell? (ad.add i) = some u ∧ SlAt w u l.length 1 (l.map b8) (fun _ => True) ∧ ∀ x ∈ l, x < 256 := by
      intro i hi
      have hy : elems[i]? = some (elems[i]'(by omega)) := List.getElem?_eq_getElem (by omega)
      have hh := hel i hi
      rw [hy, cells28, Option.bind_eq_some_iff] at hh
      obtain ⟨c, hc, ht⟩ := hh
      obtain ⟨_, hcl, hcell⟩ := World.cells?_some hc
      obtain ⟨u, rfl⟩ : ∃ u, c = [u] := by
        match c, hcl with
        | [u], _ => exact ⟨u, rfl⟩
      obtain ⟨bs, g1, g2⟩ := open_b ht
      refine ⟨bs, u, ?_, g1, g2⟩
      have := hcell 0 (by omega)
      rw [add_add, Nat.mul_one, Nat.add_zero] at this
      exact this
    obtain ⟨ls, vs, k1, k2, k3, k4⟩ := parts_of each len (Nat.le_refl _)
    subst k1
    exact ⟨ls, fun _ => True, vs, ⟨some ad, cap, rfl, hlc, by omega, .inr ⟨ad, rfl, True.intro, k4⟩⟩, k3⟩
theorem cells22 : Tryd.prog.cellsOf 22 = 32 := by kernel_rfl
theorem open_32 {H : Type} {enc : TypeId × Value → H} {w : World} {base : Nat} {sp : Nat → Bool} {held : Bool} {r : Reach} {b0 : Nat} {v : Value} {d : DataW H} {ps : List MemPlace}
    (hv : Value.okWide Tryd.prog w r b0 22 v) (hd : DataW.Trod enc Tryd.prog w base sp held 22 v d ps) : ∃ bs : List Nat, bs.length = 32 ∧ (∀ x ∈ bs, x < 256) ∧ v = .agg (bs.map b8).toArray := by
  obtain ⟨zs, hl, rfl, _, _, hw⟩ := Go.Toll.open_ints Tryd.underlying22 Tryd.underlying5 cells5 cells22 hv hd
  obtain ⟨bs, h1, h2, h3⟩ := bytes_of hw
  exact ⟨bs, by rw [h2, hl], h3, by rw [h1]⟩
theorem g_start : Tryd.prog.globalNamed "tollgate/hash.start" = some 0 := by kernel_rfl
theorem t_start : (Tryd.prog.globals[0]?).map (·.type) = some 59 := by kernel_rfl
theorem g_rounds : Tryd.prog.globalNamed "tollgate/hash.rounds" = some 1 := by kernel_rfl
theorem t_rounds : (Tryd.prog.globals[1]?).map (·.type) = some 84 := by kernel_rfl
theorem cell_tab {H : Type} {enc : TypeId × Value → H} {name : String} {W : World} {T n g base fuel : Nat} {sp : Nat → Bool} {held : Bool} {p : List MemPlace} {zs : List Int} {cs : Array Value} (hu : Tryd.prog.underlying T = some (.array n 58)) (hc : Tryd.prog.cellsOf T = n) (hg : Tryd.prog.globalNamed name = some g) (hv : W.var? Tryd.prog name = some cs)
    (hd : DataW.trod enc Tryd.prog W base sp held fuel T cs.toList = some (tabData .u32 zs, p)) : ∀ (j : Nat) (z : Int), zs[j]? = some z → W.cell? ⟨g, j, none⟩ = some (.int .u32 z) := fun j z hj => by
  have h1 := cells_of_tab hu Tryd.underlying58 cells58 hc hd
  have h2 := World.var?_cell hg hv j
  rw [h2]
  have : (zs.map (Value.int .u32))[j]? = some (.int .u32 z) := by rw [List.getElem?_map, hj]; rfl
  rw [← h1] at this
  simpa using this
def hTab : List Int := [1779033703, 3144134277, 1013904242, 2773480762, 1359893119, 2600822924, 528734635, 1541459225]
def kTab : List Int := [1116352408, 1899447441, 3049323471, 3921009573, 961987163, 1508970993, 2453635748, 2870763221, 3624381080, 310598401, 607225278, 1426881987, 1925078388, 2162078206, 2614888103, 3248222580, 3835390401, 4022224774, 264347078, 604807628, 770255983, 1249150122, 1555081692, 1996064986, 2554220882, 2821834349, 2952996808, 3210313671, 3336571891, 3584528711, 113926993, 338241895, 666307205, 773529912, 1294757372, 1396182291, 1695183700, 1986661051, 2177026350, 2456956037, 2730485921, 2820302411, 3259730800, 3345764771, 3516065817, 3600352804, 4094571909, 275423344, 430227734, 506948616, 659060556, 883997877, 958139571, 1322822218, 1537002063, 1747873779, 1955562222, 2024104815, 2227730452, 2361852424, 2428436474, 2756734187, 3204031479, 3329325298]
theorem hTab_eq : hTab.map (Value.int .u32) = [uv H0.a, uv H0.b, uv H0.c, uv H0.d, uv H0.e, uv H0.f, uv H0.g, uv H0.h] := by kernel_rfl
theorem kTab_eq : hTab.length = 8 ∧ kTab.length = 64 ∧ kTab.map (Value.int .u32) = TollSha.K.map uv := ⟨by kernel_rfl, by kernel_rfl, by kernel_rfl⟩
theorem of_laid {W : World} (h : laidMetH Tryd.prog laidList W) : LaidK W ∧ LaidH W ∧ 1 < W.heap.size := by
  unfold laidList at h
  rw [MakeChecks.laidMetH_plain _ _ _ (by kernel_rfl)] at h
  obtain ⟨ps, ⟨g0, t0, cs0, f0, p0, q0, hg0, ht0, hv0, hd0, ⟨g1, t1, cs1, f1, p1, q1, hg1, ht1, hv1, hd1, _, _⟩, _⟩, _⟩ := h
  obtain rfl := Option.some.inj (g_start.symm.trans hg0)
  obtain rfl := Option.some.inj (t_start.symm.trans ht0)
  obtain rfl := Option.some.inj (g_rounds.symm.trans hg1)
  obtain rfl := Option.some.inj (t_rounds.symm.trans ht1)
  have k1 : ∀ (j : Nat) (z : Int), kTab[j]? = some z → W.cell? ⟨1, j, none⟩ = some (.int .u32 z) := cell_tab Tryd.underlying84 cells84 g_rounds hv1 hd1
  have k0 : ∀ (j : Nat) (z : Int), hTab[j]? = some z → W.cell? ⟨0, j, none⟩ = some (.int .u32 z) := cell_tab Tryd.underlying59 cells59 g_start hv0 hd0
  have hK : LaidK W := fun i hi => by
    obtain ⟨z, e⟩ : ∃ z, kTab[i]? = some z := ⟨_, List.getElem?_eq_getElem (by rw [kTab_eq.2.1]; exact hi)⟩
    have := k1 i _ e
    rw [this]
    have e2 : (kTab.map (Value.int .u32))[i]? = some (.int .u32 z) := by rw [List.getElem?_map, e]; rfl
    rw [kTab_eq.2.2, List.getElem?_map] at e2
    cases hq : TollSha.K[i]? with
    | none => rw [hq] at e2; cases e2
    | some q =>
      rw [hq] at e2
      rw [List.getD_eq_getElem?_getD, hq]
      exact e2.symm
  refine ⟨hK, fun j v hj => ?_, World.block_lt_of_cell? _ _ (hK 0 (by omega))⟩
  rw [← hTab_eq, List.getElem?_map] at hj
  cases hq : hTab[j]? with
  | none => rw [hq] at hj; cases hj
  | some z =>
    rw [hq] at hj
    obtain rfl : Value.int .u32 z = v := by simpa using hj
    exact k0 j z hq
end Go.Proofs.YtiidceljhmpgcaaDoor
end
