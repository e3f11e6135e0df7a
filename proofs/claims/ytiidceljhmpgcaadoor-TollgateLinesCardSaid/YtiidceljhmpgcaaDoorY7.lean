import Derived.RangeFuncNested
import Derived.RangeFuncBound
import Derived.RangeFuncCalls
import Derived.RangeFuncLeaves
import Derived.Shelf.Abstract
import Derived.Shelf.RegionOpen
import Derived.WalkKit
import Derived.OwnWalkIn
import Derived.TacticsInMore
import Derived.LoopNIn
import Derived.LoopIn
import Derived.RangeFuncFrom
import Derived.Test.YtiidceljhmpgcaaDoorY6
section
namespace Go.Proofs.YtiidceljhmpgcaaDoor
open Go.RowKit Go.Vx
open Go.Toll (Gw)
open TollSha
set_option maxHeartbeats 4000000
set_option maxRecDepth 100000
theorem ev_copyarr2 {w0 : World} {ops : Array Oper} {o : Oper} {s : VS} {P : Program} {dT sT e : TypeId} {x y : Operand} {id off len cap k : Nat} {l l' : List Value} {bt : TypeId} {news : List Value} {sv : SV} {rd : List Nat} (ho : o.op = .call { callee := .builtin .copy, args := #[x, y], argTypes := #[dT, sT] }) (hgd : Want ops o s)
    (hx : svEval s x = .s id off len cap) (hm : s.mem id = some (.arr l bt)) (hy : svEval s y = sv) (hr : Rdg w0 s.mem rd sv k 1 news) (hu : P.underlying dT = some (.slice e)) (hs : (P.info? e).map (·.size) = some 1)
    (hlen : news.length = k) (hk : k ≤ len) (hfit : off + k ≤ l.length) (h1 : news.all (·.oneCell') = true) (hpos : 0 < k) (hl' : l.take off ++ news ++ l.drop (off + k) = l') :
    Ev P ops w0 o s ⟨.v (.int .i64 (k : Nat)), [(id, .arr l' bt)], [id], [], id :: rd⟩ :=
  Ev.wrv id _ _ _ _ hgd hm (by simp) fun ρ S w hb hR => by
    have e1 := svEval_c s ρ x
    rw [hx] at e1
    have e2 := svEval_c s ρ y
    rw [hy] at e2
    obtain ⟨hg0, hg⟩ := relon_get hR hm (by simp)
    have hR2 : RelOn w0.heap.size ρ S w (restr rd s.mem) := by
      have := hR.restr rd
      have e : restr rd (restr (id :: rd) s.mem) = restr rd s.mem := by
        funext j; unfold restr
        by_cases h : j ∈ rd <;> simp [h]
      rwa [e] at this
    obtain ⟨S1, ao, cp, h3, h4, h5, h6⟩ := hr ρ S w hb hR2
    rcases h6 with h6 | ⟨a, rfl, _, h6⟩
    · exfalso; rw [h6] at hlen; simp at hlen; omega
    · rw [h3] at e2
      simp only [SV.c] at e1
      have hrun := run_copy_row (P := P) w dT sT o.type e (ρ id).g off len cap a k cp l.toArray bt news hu hs hg (by rw [hlen]; exact (Nat.min_eq_left hk).symm) h6 (by rw [hlen]; simp; omega) (fun u hu => List.all_eq_true.1 h1 u hu)
      refine ⟨True.intro, w.setRow (ρ id).g (l.toArray.toList.take off ++ news ++ l.toArray.toList.drop (off + news.length)).toArray, ?_, ⟨rfl, rfl, rfl, by simp, fun k hk => setRow_other w _ k _ hk⟩, hg0, (setRow_heap w (ρ id).g _ _ _ _ hg).trans ?_⟩
      · unfold execOp
        simp only [ho, resolve, invoke, builtin, Sem.run_bind, Sem.run_pure, Result.andThen_ok, List.map_toArray, List.map_cons, List.map_nil, e1, e2, hrun, SV.c, goInt, hlen]
      · rw [← hl', hlen]
def padC (nc : Nat → Nat) : Nat → Nat := fun k => if k < 12 then nc k else 0
def padB (nc : Nat → Nat) (x : W) : Nat → Nat := up (up (up (up (padC nc) 12 ((x >>> 24).toNat % 256)) 13 ((x >>> 16).toNat % 256)) 14 ((x >>> 8).toNat % 256)) 15 (x.toNat % 256)
theorem padC_by {nc : Nat → Nat} (h : By nc) : By (padC nc) := fun k => by
  unfold padC; split
  · exact h k
  · decide
theorem padB_by {nc : Nat → Nat} (h : By nc) (x : W) : By (padB nc x) :=
  up_by (up_by (up_by (up_by (padC_by h) (Nat.mod_lt _ (by decide))) (Nat.mod_lt _ (by decide))) (Nat.mod_lt _ (by decide))) (Nat.mod_lt _ (by decide))
theorem padC_eq (nc : Nat → Nat) : (tb 16 fun _ => 0).take 0 ++ tb 12 nc ++ (tb 16 fun _ => 0).drop (0 + 12) = tb 16 (padC nc) := by
  rw [List.take_zero, List.nil_append, tb_drop 16 (0 + 12) _ 4 rfl]
  have h1 : tb 12 nc = tb 12 (padC nc) := tb_ext fun k hk => (if_pos hk).symm
  have h2 : tb 4 (fun k => (fun _ => 0) (0 + 12 + k)) = tb 4 (fun k => padC nc (12 + k)) := tb_ext fun k _ => (if_neg (by omega)).symm
  rw [h1, h2, tb_app]
def padF (kf nc : Nat → Nat) (x : W) : Nat → Nat := sealT kf (padB nc x)
theorem padF_by {kf nc : Nat → Nat} (h : By kf) (hn : By nc) (x : W) : By (padF kf nc x) := sealT_by h (padB_by hn x)
theorem gpad_ok {p : Value} {kf h nc : Nat → Nat} {F : Nat → Prop} (x : W) (w : World) (hB : BoxAt w p kf h F) (hkf : By kf) (hnc : By nc) : Calls Tryd.prog 43 #[p, .agg (tb 12 nc).toArray, uv x] w fun e w' => e = .returned (A16 (padF kf nc x)) ∧ Bw w w' := by
  obtain ⟨gb, kp, rfl, _, hg, hK⟩ := hB
  go_enter Tryd.func43, Tryd.ntmps43
  refine ve_go ?_
  simp only [List.map_cons, List.map_nil]
  refine vseq ?_
  apply vrp
  · apply VE.cons
    · exact ev_boxr rfl rfl (gn rfl) rfl (cells_tb 12 nc)
    simp only [nm, seval]
    apply VE.cons
    · exact ev_allocr (l := tb 16 fun _ => 0) rfl rfl (gn rfl) Tryd.zeroValue67 rfl
    simp only [nm, seval]
    exact VE.nil _
  · kernel_rfl
  change VOk _ _ _ _ _
  refine vseq ?_
  apply vrp
  · apply VE.cons
    · exact ev_allocr (l := tb 16 fun _ => 0) rfl rfl (gn rfl) Tryd.zeroValue67 rfl
    simp only [nm, seval]
    exact VE.nil _
  · kernel_rfl
  change VOk _ _ _ _ _
  refine vseq ?_
  apply vrd (by kernel_rfl)
  · apply VE.cons
    · exact ev_slicea rfl (gn rfl) rfl Tryd.underlying67 Tryd.sizeOf5
    simp only [nm, seval]
    apply VE.cons
    · exact ev_slicea rfl (gn rfl) rfl Tryd.underlying45 Tryd.sizeOf5
    simp only [nm, seval]
    apply VE.cons
    · exact ev_copyarr2 (l' := tb 16 (padC nc)) rfl (gn rfl) rfl rfl rfl (rdg_arr (l := tb 12 nc) rfl (by rw [List.drop_zero]; exact List.take_of_length_le (by rw [tb_len]; decide)) tb_len (Nat.le_refl _)) Tryd.underlying28 (by kernel_rfl) tb_len (by decide) (by rw [tb_len]; decide) tb_one (by decide) (padC_eq nc)
    simp only [nm, seval]
    exact VE.nil _
  · kernel_rfl
  change VOk _ _ _ _ _
  refine vseq ?_
  apply vrp
  · apply VE.cons
    · exact ev_move rfl (gn rfl)
    simp only [nm, seval]
    apply VE.cons
    · exact ev_bin rfl (gn rfl) rfl rfl (fun w => shr32 x 24 (by decide) _ _ w)
    simp only [nm, seval]
    apply VE.cons
    · exact ev_conv rfl (gn rfl) rfl (fun w => cv8w _ w)
    simp only [nm, seval]
    apply VE.cons
    · exact ev_move rfl (gn rfl)
    simp only [nm, seval]
    apply VE.cons
    · exact ev_bin rfl (gn rfl) rfl rfl (fun w => shr32 x 16 (by decide) _ _ w)
    simp only [nm, seval]
    apply VE.cons
    · exact ev_conv rfl (gn rfl) rfl (fun w => cv8w _ w)
    simp only [nm, seval]
    apply VE.cons
    · exact ev_move rfl (gn rfl)
    simp only [nm, seval]
    apply VE.cons
    · exact ev_bin rfl (gn rfl) rfl rfl (fun w => shr32 x 8 (by decide) _ _ w)
    simp only [nm, seval]
    apply VE.cons
    · exact ev_conv rfl (gn rfl) rfl (fun w => cv8w _ w)
    simp only [nm, seval]
    apply VE.cons
    · exact ev_move rfl (gn rfl)
    simp only [nm, seval]
    apply VE.cons
    · exact ev_conv rfl (gn rfl) rfl (fun w => cv8w _ w)
    simp only [nm, seval]
    apply VE.cons
    · exact ev_indexn (k := 12) (j := 12) rfl (gn rfl) rfl rfl Tryd.underlying67 Tryd.sizeOf5 (by decide) (rfl)
    simp only [nm, seval]
    apply VE.cons
    · first | exact ev_stt (up (padC nc) 12 ((x >>> 24).toNat % 256)) rfl (gn rfl) rfl rfl rfl Tryd.sizeOf5 (by decide) (fun _ _ => rfl) | exact ev_stt (up (up (padC nc) 12 ((x >>> 24).toNat % 256)) 13 ((x >>> 16).toNat % 256)) rfl (gn rfl) rfl rfl rfl Tryd.sizeOf5 (by decide) (fun _ _ => rfl) | exact ev_stt (up (up (up (padC nc) 12 ((x >>> 24).toNat % 256)) 13 ((x >>> 16).toNat % 256)) 14 ((x >>> 8).toNat % 256)) rfl (gn rfl) rfl rfl rfl Tryd.sizeOf5 (by decide) (fun _ _ => rfl) | exact ev_stt (up (up (up (up (padC nc) 12 ((x >>> 24).toNat % 256)) 13 ((x >>> 16).toNat % 256)) 14 ((x >>> 8).toNat % 256)) 15 (x.toNat % 256)) rfl (gn rfl) rfl rfl rfl Tryd.sizeOf5 (by decide) (fun _ _ => rfl)
    simp only [nm, seval]
    apply VE.cons
    · exact ev_indexn (k := 13) (j := 13) rfl (gn rfl) rfl rfl Tryd.underlying67 Tryd.sizeOf5 (by decide) (rfl)
    simp only [nm, seval]
    apply VE.cons
    · first | exact ev_stt (up (padC nc) 12 ((x >>> 24).toNat % 256)) rfl (gn rfl) rfl rfl rfl Tryd.sizeOf5 (by decide) (fun _ _ => rfl) | exact ev_stt (up (up (padC nc) 12 ((x >>> 24).toNat % 256)) 13 ((x >>> 16).toNat % 256)) rfl (gn rfl) rfl rfl rfl Tryd.sizeOf5 (by decide) (fun _ _ => rfl) | exact ev_stt (up (up (up (padC nc) 12 ((x >>> 24).toNat % 256)) 13 ((x >>> 16).toNat % 256)) 14 ((x >>> 8).toNat % 256)) rfl (gn rfl) rfl rfl rfl Tryd.sizeOf5 (by decide) (fun _ _ => rfl) | exact ev_stt (up (up (up (up (padC nc) 12 ((x >>> 24).toNat % 256)) 13 ((x >>> 16).toNat % 256)) 14 ((x >>> 8).toNat % 256)) 15 (x.toNat % 256)) rfl (gn rfl) rfl rfl rfl Tryd.sizeOf5 (by decide) (fun _ _ => rfl)
    simp only [nm, seval]
    apply VE.cons
    · exact ev_indexn (k := 14) (j := 14) rfl (gn rfl) rfl rfl Tryd.underlying67 Tryd.sizeOf5 (by decide) (rfl)
    simp only [nm, seval]
    apply VE.cons
    · first | exact ev_stt (up (padC nc) 12 ((x >>> 24).toNat % 256)) rfl (gn rfl) rfl rfl rfl Tryd.sizeOf5 (by decide) (fun _ _ => rfl) | exact ev_stt (up (up (padC nc) 12 ((x >>> 24).toNat % 256)) 13 ((x >>> 16).toNat % 256)) rfl (gn rfl) rfl rfl rfl Tryd.sizeOf5 (by decide) (fun _ _ => rfl) | exact ev_stt (up (up (up (padC nc) 12 ((x >>> 24).toNat % 256)) 13 ((x >>> 16).toNat % 256)) 14 ((x >>> 8).toNat % 256)) rfl (gn rfl) rfl rfl rfl Tryd.sizeOf5 (by decide) (fun _ _ => rfl) | exact ev_stt (up (up (up (up (padC nc) 12 ((x >>> 24).toNat % 256)) 13 ((x >>> 16).toNat % 256)) 14 ((x >>> 8).toNat % 256)) 15 (x.toNat % 256)) rfl (gn rfl) rfl rfl rfl Tryd.sizeOf5 (by decide) (fun _ _ => rfl)
    simp only [nm, seval]
    apply VE.cons
    · exact ev_indexn (k := 15) (j := 15) rfl (gn rfl) rfl rfl Tryd.underlying67 Tryd.sizeOf5 (by decide) (rfl)
    simp only [nm, seval]
    apply VE.cons
    · first | exact ev_stt (up (padC nc) 12 ((x >>> 24).toNat % 256)) rfl (gn rfl) rfl rfl rfl Tryd.sizeOf5 (by decide) (fun _ _ => rfl) | exact ev_stt (up (up (padC nc) 12 ((x >>> 24).toNat % 256)) 13 ((x >>> 16).toNat % 256)) rfl (gn rfl) rfl rfl rfl Tryd.sizeOf5 (by decide) (fun _ _ => rfl) | exact ev_stt (up (up (up (padC nc) 12 ((x >>> 24).toNat % 256)) 13 ((x >>> 16).toNat % 256)) 14 ((x >>> 8).toNat % 256)) rfl (gn rfl) rfl rfl rfl Tryd.sizeOf5 (by decide) (fun _ _ => rfl) | exact ev_stt (up (up (up (up (padC nc) 12 ((x >>> 24).toNat % 256)) 13 ((x >>> 16).toNat % 256)) 14 ((x >>> 8).toNat % 256)) 15 (x.toNat % 256)) rfl (gn rfl) rfl rfl rfl Tryd.sizeOf5 (by decide) (fun _ _ => rfl)
    simp only [nm, seval]
    exact VE.nil _
  · kernel_rfl
  change VOk _ _ _ _ _
  refine vseq ?_
  apply vrd (by kernel_rfl)
  · apply VE.cons
    · exact ev_move rfl (gn rfl)
    simp only [nm, seval]
    apply VE.cons
    · first | exact ev_nil rfl (gn rfl) rfl | exact ev_nilx rfl (gn rfl) rfl
    simp only [nm, seval]
    apply VE.cons
    · first | exact ev_field rfl (gn rfl) rfl Tryd.underlying70 rfl Tryd.sizeOf64 | exact ev_fieldx rfl (gn rfl) rfl Tryd.underlying70 rfl Tryd.sizeOf64
    simp only [nm, seval]
    apply VE.cons
    · exact ev_loadx1 rfl (gn rfl) rfl Tryd.underlying64 rfl (cell_blk hg rfl)
    simp only [nm, seval]
    apply VE.cons
    · exact ev_ldt (f := padB nc x) rfl (gn rfl) rfl rfl Tryd.underlying67 rfl Tryd.sizeOf67
    simp only [nm, seval]
    apply VE.cons
    · exact ev_callb rfl (gn rfl) rfl (en_of Tryd.func27 (by kernel_rfl) rfl) (fun w' hb => kSeal_ok w' (hK.bw hb) hkf (padB_by hnc x))
    simp only [nm, seval]
    apply VE.cons
    · exact ev_sta rfl (gn rfl) rfl rfl rfl Tryd.sizeOf67
    simp only [nm, seval]
    exact VE.nil _
  · kernel_rfl
  change VOk _ _ _ _ _
  refine vret ?_
  refine post_ret (res1 Tryd.results43 (rv_tb rfl rfl Tryd.underlying67 rfl Tryd.sizeOf67)) ?_
  intro ρ w' hr
  exact ⟨rfl, hr.1⟩
end Go.Proofs.YtiidceljhmpgcaaDoor
end
section
namespace Go.Proofs.YtiidceljhmpgcaaDoor
open Go.RowKit Go.Shelf
set_option maxHeartbeats 4000000
set_option maxRecDepth 100000
def chk (a : Addr) (len k : Nat) : Value := .slice (some (a.add (16 * k))) (min 16 (len - 16 * k)) (min 16 (len - 16 * k))
def KpC (B1 B2 : Nat) (c1 : Value) (W W' : World) : Prop := (W.cell? ⟨B1, 0, none⟩ = some c1 → W'.cell? ⟨B1, 0, none⟩ = some c1) ∧ (W.cell? ⟨B2, 0, none⟩ = some (.int .i64 16) → W'.cell? ⟨B2, 0, none⟩ = some (.int .i64 16))
open Go.Vx
section
variable {P : Program} {w0 : World} {ops : Array Oper} {o : Oper} {s : VS}
theorem ev_cutc {ty e : TypeId} {x : Operand} {lo : Operand} {a : Addr} {b n cap : Nat} (ho : o.op = .slice ty x (some lo) none none) (hgd : Want ops o s) (hx : svEval s x = .v (.slice (some a) n cap))
    (hu : P.underlying ty = some (.slice e)) (hs : ∀ w, (Go.sizeOf e).run P w = .ok 1 w) (hl : svEval s lo = .v (.int .i64 (b : Nat))) (h1 : b < n) (h2 : n ≤ cap) :
    Ev P ops w0 o s ⟨.v (.slice (some (a.add b)) (n - b) (cap - b)), [], [], [], []⟩ :=
  Ev.run _ _ hgd fun ρ S w hb hR => by
    have := cut_run' (w0 := w0) (P := P) (o := o) (s := s) (rd := []) (lo := some lo) (hi := none) (a := b) (b := n) (n := n) (size := 1) ho hx hu hs (fun ρ S w _ _ => ⟨some a, cap, rfl, h2⟩) hl rfl (Nat.le_of_lt h1) (Nat.le_refl _) ρ S w hb hR
    rw [this]
    simp [SV.c, cutV]
    omega
theorem bw_grown {w w' : World} (h : Bw w w') : w.grownBy w' none := ⟨h.os, h.tape, h.output, h.size, fun k hk _ => h.block k hk⟩
theorem rel_none (w : World) (ρ : Nat → Nm) (fr : List SV) : Rel w ρ ⟨fr, memOf []⟩ w :=
  ⟨Bw.refl _, fun _ _ => False, ⟨fun _ _ h => by simp [memOf] at h, fun _ _ h => by simp [memOf] at h, fun _ _ h => by simp [memOf] at h, fun _ _ _ h => by simp [memOf] at h, fun _ _ _ _ h => by simp [memOf] at h⟩⟩
theorem ev_lenc {t : TypeId} {x : Operand} {e : TypeId} {n cap : Nat} {a : Addr} (ho : o.op = .call { callee := .builtin .len, args := #[x], argTypes := #[t] }) (hgd : Want ops o s) (hx : svEval s x = .v (.slice (some a) n cap))
    (hu : P.underlying t = some (.slice e)) : Ev P ops w0 o s ⟨.v (.int .i64 (n : Nat)), [], [], [], []⟩ :=
  Ev.run _ _ hgd fun ρ S w hb hR => by
    have e1 := svEval_c s ρ x
    rw [hx] at e1
    simp only [SV.c] at e1
    simp [execOp, ho, resolve, invoke, builtin, e1, Builtin.len_, run_underlying hu, SV.c, goInt]
end
theorem chunk1_in (n : Nat) (hn : 1 ≤ n) (W : World) (l B1 B2 : Nat) (a : Addr) (ao : Option Addr) (len cap : Nat) (ha : 0 < len → ao = some a) (hcap : len ≤ cap) (hlen : len < 1073741824) (J Jx : List Nat → World → Prop) (hJ : AbidesFrom W.heap.size J)
    (hY : ∀ pre x W, J pre W → pre.length < (len + 15) / 16 → YieldAt Fence.wide (n - 1) Tryd.prog l #[chk a len x] W fun e W' =>
      (e = .returned (.bool true) ∧ J (pre ++ [x]) W' ∧ KpC B1 B2 (.slice ao len cap) W W') ∨ (e = .returned (.bool false) ∧ Jx (pre ++ [x]) W'))
    (h1 : W.cell? ⟨B1, 0, none⟩ = some (.slice ao len cap)) (h2 : W.cell? ⟨B2, 0, none⟩ = some (.int .i64 16)) (h0 : J [] W) :
    CallsIn Fence.wide n Tryd.prog 54 #[.func (.yield l) #[] #[], .pointer (some ⟨B1, 0, none⟩), .pointer (some ⟨B2, 0, none⟩)] W fun e W' => (∃ v, e = .returned v) ∧
      ((∃ ys, ys = List.range ((len + 15) / 16) ∧ J ys W') ∨ (∃ pre, True ∧ Jx pre W')) := by
  refine callsIn_of_wp Tryd.func54 rfl True.intro ?_ rfl
  simp only [Tryd.ntmps54, List.size_toArray, List.length_cons, List.length_nil, Nat.reduceAdd, Nat.reduceSub, Array.replicate_succ, Array.replicate_zero, List.push_toArray, List.append_toArray, List.nil_append, List.cons_append]
  gi_wp2
  gi_loopw [4] (fun i wr => ∃ k : Nat, k ≤ (len + 15) / 16 ∧ i = .int .i64 ((16 * k : Nat) : Int) ∧ J (List.range k) wr ∧ wr.cell? ⟨B1, 0, none⟩ = some (.slice ao len cap) ∧ wr.cell? ⟨B2, 0, none⟩ = some (.int .i64 16))
    (fun i _ => len + 16 - (intOf i).toNat)
  case atStart => exact ⟨0, Nat.zero_le _, rfl, h0, h1, h2⟩
  case round =>
    obtain ⟨k, hk, rfl, hJs, hc1, hc2⟩ := hrel
    clear h1 h2 h0
    by_cases hlt : 16 * k < len
    · have hao := ha (by omega)
      clear ha
      subst hao
      gi_wp2
      refine (?hD : DOk Fence.wide n [] Tryd.prog wr ⟨[.v (.func (.yield l) #[] #[]), .v (.pointer (some ⟨B1, 0, none⟩)), .v (.pointer (some ⟨B2, 0, none⟩)), .v undef, .v (.int .i64 ((16 * k : Nat) : Int)), .v u5, .v (.int .i64 ((16 * k : Nat) : Int)), .v (.slice (some a) len cap), .v (.int .i64 (len : Int)), .v (.bool (decide (16 * (k : Int) < (len : Int)))), .v u10, .v u11, .v u12, .v u13, .v u14, .v u15, .v u16, .v u17, .v u18, .v u19, .v u20, .v u21, .v u22, .v u23, .v u24, .v u25, .v u26, .v u27, .v u28, .v u29, .v u30], memOf []⟩ _ (fun e s => e = .normal ∧ ∃ v13 v14 v15 v16 v17 v18 : Value, s = ⟨[.v (.func (.yield l) #[] #[]), .v (.pointer (some ⟨B1, 0, none⟩)), .v (.pointer (some ⟨B2, 0, none⟩)), .v undef, .v (.int .i64 ((16 * k : Nat) : Int)), .v (.int .i64 ((min 16 (len - 16 * k) : Nat) : Int)), .v (.int .i64 ((16 * k : Nat) : Int)), .v (.slice (some a) len cap), .v (.int .i64 (len : Int)), .v (.bool (decide (16 * (k : Int) < (len : Int)))), .v u10, .v u11, .v u12, .v v13, .v v14, .v v15, .v v16, .v v17, .v v18, .v u19, .v u20, .v u21, .v u22, .v u23, .v u24, .v u25, .v u26, .v u27, .v u28, .v u29, .v u30], memOf []⟩)) (fun _ => default) wr _ (rel_none _ _ _) ?hR
      case hD =>
        apply drd (Or.inl rfl) (by kernel_rfl)
        · apply VE.cons
          · exact ev_loadx1 rfl (gn rfl) rfl Tryd.underlying3 rfl hc2
          simp only [nm, seval]
          apply VE.cons
          · exact ev_loadx1 rfl (gn rfl) rfl Tryd.underlying28 rfl hc1
          simp only [nm, seval]
          apply VE.cons
          · exact ev_move rfl (gn rfl)
          simp only [nm, seval]
          apply VE.cons
          · exact ev_cutc (b := 16 * k) rfl (gn rfl) rfl Tryd.underlying28 Tryd.sizeOf5 rfl (by omega) hcap
          simp only [nm, seval]
          apply VE.cons
          · exact ev_lenc rfl (gn rfl) rfl Tryd.underlying28
          simp only [nm, seval]
          apply VE.cons
          · exact ev_min rfl (gn rfl) (a := 16) (b := len - 16 * k) rfl rfl rfl
          simp only [nm, seval]
          apply VE.cons
          · exact ev_assign rfl (gn rfl)
          simp only [nm, seval]
          exact VE.nil _
        · kernel_rfl
        · exact ⟨rfl, _, _, _, _, _, _, rfl⟩
      case hR =>
        rintro e ρ' s' w' ⟨rfl, v13, v14, v15, v16, v17, v18, rfl⟩ hr'
        have hJ' : J (List.range k) w' := hJ _ _ _ none hJs (bw_grown hr'.1) fun r e => by cases e
        have hc1' : w'.cell? ⟨B1, 0, none⟩ = some (.slice (some a) len cap) := hr'.1.cell hc1
        have hc2' : w'.cell? ⟨B2, 0, none⟩ = some (.int .i64 16) := hr'.1.cell hc2
        obtain ⟨fn, tmps, assign, body, hy, hR⟩ := hY _ k w' hJ' (by rw [List.length_range]; omega)
        clear hr' hJs hc1 hc2
        unfold chk at hy
        simp only [VS.act, List.map_cons, List.map_nil, SV.c, Exit.then]
        gi_wp2
        refine hR.mono ?_
        rintro e W3 (⟨rfl, hJ3, hk3⟩ | ⟨rfl, hJx3⟩)
        · have hd1 := hk3.1 hc1'
          have hd2 := hk3.2 hc2'
          gi_wp2
          go_roundw
          case rel => exact ⟨k + 1, by omega, by congr 1, by rw [List.range_succ]; exact hJ3, hd1, hd2⟩
          case measure => simp [intOf]; omega
        · gi_wp2
          refine bodyPost_ret (results_none rfl _ _ _) rfl ?_
          exact ⟨⟨_, rfl⟩, .inr ⟨_, trivial, hJx3⟩⟩
    · gi_wp2
      go_end0
      have : k = (len + 15) / 16 := by omega
      subst this
      exact ⟨⟨_, rfl⟩, .inl ⟨_, rfl, hJs⟩⟩
end Go.Proofs.YtiidceljhmpgcaaDoor
end
section
namespace Go.Proofs.YtiidceljhmpgcaaDoor
open Go.RowKit Go.Vx Go.Shelf
set_option maxHeartbeats 4000000
set_option maxRecDepth 100000
theorem chunk_ok (n : Nat) (ao : Option Addr) (len cap : Nat) (w : World) : CallsIn Fence.wide n Tryd.prog 42 #[.slice ao len cap, .int .i64 16] w fun e w' => e = .returned (.func (.func 54) #[] #[.pointer (some ⟨w.heap.size, 0, none⟩), .pointer (some ⟨w.heap.size + 1, 0, none⟩)]) ∧ w' = (w.alloc (.cells #[.slice ao len cap] 28)).alloc (.cells #[.int .i64 16] 3) := by
  refine callsIn_of_wp Tryd.func42 rfl True.intro ?_ rfl
  simp only [Tryd.ntmps42, List.size_toArray, List.length_cons, List.length_nil, Nat.reduceAdd, Nat.reduceSub, Array.replicate_succ, Array.replicate_zero, List.push_toArray, List.append_toArray, List.nil_append, List.cons_append]
  gi_wp2
  go_ret
  exact ⟨rfl, rfl⟩
theorem chunk_stops (n : Nat) (hn : 1 ≤ n) (B1 B2 : Nat) (a : Addr) (ao : Option Addr) (len cap : Nat) (ha : 0 < len → ao = some a) (hcap : len ≤ cap) (hlen : len < 1073741824) (w : World) (hB1 : B1 < w.heap.size) (hB2 : B2 < w.heap.size)
    (h1 : w.cell? ⟨B1, 0, none⟩ = some (.slice ao len cap)) (h2 : w.cell? ⟨B2, 0, none⟩ = some (.int .i64 16)) :
    SeqStopsK Fence.wide n Tryd.prog 54 #[.pointer (some ⟨B1, 0, none⟩), .pointer (some ⟨B2, 0, none⟩)] (fun x : Nat => #[chk a len x]) (KpC B1 B2 (.slice ao len cap)) (fun ys => ys = List.range ((len + 15) / 16)) (fun _ => True) ((len + 15) / 16) w := fun l J Jx W hW hJ _ hY h0 =>
  chunk1_in n hn W l B1 B2 a ao len cap ha hcap hlen J Jx hJ hY ((hW.cell (p := ⟨B1, 0, none⟩) hB1).trans h1) ((hW.cell (p := ⟨B2, 0, none⟩) hB2).trans h2) h0
theorem clone2_ok (n : Nat) {a : Addr} {c m : Nat} {l : List Value} (w : World) (_hmc : m ≤ c) (hl : l.length = m) (hc : ∀ i x, l[i]? = some x → w.cell? (a.add i) = some x) (h1 : ∀ u ∈ l, u.oneCell' = true) (hm : m ≤ 1073741824) :
    CallsIn Fence.wide n Tryd.prog 17 #[.slice (some a) m c] w fun e w' => ∃ g cap cur, e = .returned (.slice (some ⟨g, 0, none⟩) m cap) ∧ w.heap.size ≤ g ∧ w'.heap[g]? = some (.cells cur 5 (0, 0)) ∧ m ≤ cap ∧ cap ≤ maxLen ∧ cur.size = cap ∧ cur.toList.take m = l ∧ Bw w w' := by
  refine callsIn_of_wp Tryd.func17 rfl True.intro ?_ rfl
  simp only [Tryd.ntmps17, List.size_toArray, List.length_cons, List.length_nil, Nat.reduceAdd, Nat.reduceSub, Array.replicate_succ, Array.replicate_zero, List.push_toArray, List.append_toArray, List.nil_append, List.cons_append]
  have E := Go.Lib.run_eql_slice_some_nil (P := Tryd.prog) w a m c Tryd.underlying28
  obtain ⟨i0, hi, hz0, hz1, hz2⟩ := info_parts (show (Tryd.prog.info? 5).map (fun i => (i.zero, i.size, i.bytes)) = some (some (.int .u8 0), 1, 1) by kernel_rfl)
  gi_wp2_with (gi_at_builtin; refine wpListIn_append_own _ rfl _ _ 28 rfl w.heap.size 5 i0 (.int .u8 0) 1 1 Tryd.underlying28 hi hz0 hz1 hz2 rfl (by decide) _ 0 [] rfl ?own a m c l rfl (by omega) ?cells h1 (by simp only [maxLen]; omega) (by omega) (by simp) ?_; rotate_left 2; intro v' w' hown hg hnil)
  · go_ret
    have hb : Bw w w' := ((Below.refl _ w).alloc (Nat.le_refl _) _).grown hg (by simp) fun k e => by have e : some w.heap.size = some k := e; injection e with e; omega
    rcases hown.2 with ⟨h0, _⟩ | ⟨g, cap, cur, h2, h3, h4, h5, h6, h7, h8⟩
    · have := (hnil.1 h0).1
      cases this
    · exact ⟨g, cap, cur, by rw [h2]; simp, h3, h4, by simpa using h5, h6, by simpa using h7, by simpa using h8, hb⟩
  case own => exact ⟨rfl, .inr ⟨w.heap.size, 0, #[], rfl, Nat.le_refl _, World.alloc_heap_new w _, Nat.le_refl _, Nat.zero_le _, rfl, rfl⟩⟩
  case cells => exact fun j u hu => (show Bw w (w.alloc (.cells #[] 5)) from (Below.refl _ w).alloc (Nat.le_refl _) _).cell (hc j u hu)
abbrev OwnL := List (Nat × Nat × List Value × TypeId)
def ownX (w : World) (L : OwnL) (k : Nat) : Prop := k < w.heap.size ∨ ∃ x ∈ L, x.2.1 = k
def ownM (w W : World) (L : OwnL) : List (Nat × Blk) :=
  L.map (fun x => (x.1, .arr x.2.2.1 x.2.2.2)) ++ L.map (fun x => (x.1 + 1000, .pin x.1 x.2.1)) ++ [(803, .dat (frameD W (ownX w L))), (805, .floor W.heap.size)]
theorem rel_mk {w W : World} {L : OwnL} {ρ : Nat → Nm} (hb : Bw w W) (hρ : ∀ x ∈ L, (ρ x.1).g = x.2.1) (hL : ∀ x ∈ L, w.heap.size ≤ x.2.1 ∧ W.heap[x.2.1]? = some (.cells x.2.2.1.toArray x.2.2.2 (0, 0)))
    (hi : ∀ x ∈ L, ∀ y ∈ L, x.2.1 = y.2.1 → x.1 = y.1) (fr : List SV) : Rel w ρ ⟨fr, memOf (ownM w W L)⟩ W := by
  refine ⟨hb, fun i k => i = 803 ∧ k < W.heap.size ∧ ¬ ownX w L k, ?_⟩
  have cs : ∀ i b, memOf (ownM w W L) i = some b → (∃ x ∈ L, i = x.1 ∧ b = .arr x.2.2.1 x.2.2.2) ∨ (∃ x ∈ L, b = .pin x.1 x.2.1) ∨ (b = .dat (frameD W (ownX w L)) ∧ i = 803) ∨ b = .floor W.heap.size := by
    intro i b h
    have := memOf_mem h
    simp only [ownM, List.mem_append, List.mem_map, Prod.mk.injEq, List.mem_cons, List.not_mem_nil, or_false] at this
    rcases this with (⟨x, hx, h1, h2⟩ | ⟨x, hx, _, h2⟩) | ⟨h1, h2⟩ | ⟨_, h2⟩
    · exact .inl ⟨x, hx, h1.symm, h2.symm⟩
    · exact .inr (.inl ⟨x, hx, h2.symm⟩)
    · exact .inr (.inr (.inl ⟨h2, h1⟩))
    · exact .inr (.inr (.inr h2))
  refine ⟨?_, ?_, ?_, ?_, ?_⟩
  · intro i b h
    rcases cs i b h with ⟨x, hx, rfl, rfl⟩ | ⟨x, hx, rfl⟩ | ⟨rfl, rfl⟩ | rfl
    · have := hL x hx
      have e := hρ x hx
      exact ⟨by rw [e]; exact this.1, by rw [e]; exact this.2⟩
    · exact hρ x hx
    · exact fun k hk hx => ⟨rfl, rfl, hk, hx⟩
    · exact Nat.le_refl _
  · rintro i k _ ⟨_, h, _⟩; exact h
  · rintro i k _ ⟨_, _, h⟩
    exact Nat.le_of_not_lt fun h1 => h (.inl h1)
  · rintro i b j h ho _ ⟨_, _, h5⟩
    rcases cs i b h with ⟨x, hx, rfl, rfl⟩ | ⟨x, hx, rfl⟩ | ⟨rfl, rfl⟩ | rfl
    · exact h5 (.inr ⟨x, hx, (hρ x hx).symm⟩)
    · exact ho
    · exact ho
    · exact ho
  · intro i b j c h ho h2 ho2 he
    rcases cs i b h with ⟨x, hx, rfl, rfl⟩ | ⟨x, hx, rfl⟩ | ⟨rfl, rfl⟩ | rfl
    · rcases cs j c h2 with ⟨y, hy, rfl, rfl⟩ | ⟨y, hy, rfl⟩ | ⟨rfl, rfl⟩ | rfl
      · exact hi x hx y hy (by rw [← hρ x hx, ← hρ y hy, he])
      · exact ho2.elim
      · exact ho2.elim
      · exact ho2.elim
    · exact ho.elim
    · exact ho.elim
    · exact ho.elim
theorem rel_arr {w W : World} {ρ : Nat → Nm} {s : VS} {id g : Nat} {l : List Value} {ty : TypeId} (hr : Rel w ρ s W) (h1 : s.mem id = some (.arr l ty)) (h2 : s.mem (id + 1000) = some (.pin id g)) : W.heap[g]? = some (.cells l.toArray ty (0, 0)) := by
  obtain ⟨_, S, hR⟩ := hr
  have a1 := (hR.good id _ h1).2
  have a2 : (ρ id).g = g := hR.good (id + 1000) _ h2
  rwa [a2] at a1
theorem rel_end {w W W2 : World} {L : OwnL} {ρ : Nat → Nm} {s : VS} (hb : Bw w W) (hr : Rel w ρ s W2) (h3 : s.mem 803 = some (.dat (frameD W (ownX w L)))) (h5 : s.mem 805 = some (.floor W.heap.size)) :
    Bw w W2 ∧ W.heap.size ≤ W2.heap.size ∧ ∀ k, k < W.heap.size → (∀ x ∈ L, x.2.1 ≠ k) → W2.heap[k]? = W.heap[k]? := by
  obtain ⟨hb2, S, hR⟩ := hr
  have a3 : (frameD W (ownX w L)).holds [(ρ 803).val] W2 (S 803) := hR.good 803 _ h3
  refine ⟨hb2, hR.good 805 _ h5, fun k hk hne => ?_⟩
  by_cases hw : k < w.heap.size
  · exact (hb2.block k hw).trans (hb.block k hw).symm
  · exact (a3 k hk (fun h => h.elim hw fun ⟨x, hx, h⟩ => hne x hx h)).1
end Go.Proofs.YtiidceljhmpgcaaDoor
end
section
namespace Go.Proofs.YtiidceljhmpgcaaDoor
open Go.RowKit Go.Vx
open Go.Toll (Gw)
open TollSha
set_option maxHeartbeats 4000000
set_option maxRecDepth 100000
def chkg (g len k : Nat) : Value := .slice (some ⟨g, 16 * k, none⟩) (min 16 (len - 16 * k)) (min 16 (len - 16 * k))
theorem chk_at (g len k : Nat) : chk ⟨g, 0, none⟩ len k = chkg g len k := by
  unfold chk chkg Addr.add
  by_cases h : 16 * k = 0
  · simp [h]
  · rw [if_neg h]; simp
theorem chunkg_stops (n : Nat) (hn : 1 ≤ n) (B1 B2 g len cap : Nat) (hcap : len ≤ cap) (hlen : len < 1073741824) (w : World) (hB1 : B1 < w.heap.size) (hB2 : B2 < w.heap.size)
    (h1 : w.cell? ⟨B1, 0, none⟩ = some (.slice (some ⟨g, 0, none⟩) len cap)) (h2 : w.cell? ⟨B2, 0, none⟩ = some (.int .i64 16)) :
    SeqStopsK Fence.wide n Tryd.prog 54 #[.pointer (some ⟨B1, 0, none⟩), .pointer (some ⟨B2, 0, none⟩)] (fun x : Nat => #[chkg g len x]) (KpC B1 B2 (.slice (some ⟨g, 0, none⟩) len cap)) (fun ys => ys = List.range ((len + 15) / 16)) (fun _ => True) ((len + 15) / 16) w := by
  have := chunk_stops n hn B1 B2 ⟨g, 0, none⟩ (some ⟨g, 0, none⟩) len cap (fun _ => rfl) hcap hlen w hB1 hB2 h1 h2
  have e : (fun x : Nat => #[chk ⟨g, 0, none⟩ len x]) = fun x : Nat => #[chkg g len x] := by funext x; rw [chk_at]
  rwa [e] at this
theorem kpc_t {B1 B2 : Nat} {v : Value} {A B C : World} (h : KpC B1 B2 v A B) (k : KpC B1 B2 v B C) : KpC B1 B2 v A C := ⟨fun e => k.1 (h.1 e), fun e => k.2 (h.2 e)⟩
theorem kpc_of {B1 B2 : Nat} {v : Value} {W W' : World} (h1 : W'.heap[B1]? = W.heap[B1]?) (h2 : W'.heap[B2]? = W.heap[B2]?) : KpC B1 B2 v W W' :=
  ⟨fun e => (World.cell?_of_block (w := W) (a := ⟨B1, 0, none⟩) h1).trans e, fun e => (World.cell?_of_block (w := W) (a := ⟨B2, 0, none⟩) h2).trans e⟩
theorem kpc_put {B1 B2 B : Nat} {v : Value} (h1 : B1 < B) (h2 : B2 < B) (W : World) (l : Nat) (o o' : Obj) (hl : B ≤ l) (_ : W.heap[l]? = some o) (_ : o.isCells = false) (_ : o.isWalk = false) : KpC B1 B2 v W (W.putObj l o') :=
  kpc_of (World.putObj_heap_other (by omega)) (World.putObj_heap_other (by omega))
def RI (w : World) (B : Nat) (L : OwnL) (W : World) : Prop := Bw w W ∧ B ≤ W.heap.size ∧ ∀ x ∈ L, W.heap[x.2.1]? = some (.cells x.2.2.1.toArray x.2.2.2 (0, 0))
theorem ri_own {β : Type} {w : World} {B : Nat} (L : β → OwnL) (hw : w.heap.size ≤ B) (hL : ∀ s, ∀ x ∈ L s, x.2.1 < B) : OwnFrom B (fun s W => RI w B (L s) W) := by
  intro s W W' row ⟨h1, h2, h3⟩ hg hr
  refine ⟨Below.grown h1 hg h1.size (fun k e => Nat.le_trans hw (hr k e).1), Nat.le_trans h2 hg.size, fun x hx => ?_⟩
  have := hL s x hx
  rw [hg.block _ (by omega) (fun e => by have := (hr _ e.symm).1; omega)]
  exact h3 x hx
theorem ri_keeps {w W W2 : World} {B : Nat} {L : OwnL} (h : RI w B L W) (hsz : W.heap.size ≤ W2.heap.size) (hfr : ∀ k, k < W.heap.size → (∀ x ∈ L, x.2.1 ≠ k) → W2.heap[k]? = W.heap[k]?) : KeepsOthers W W2 :=
  ⟨hsz, fun j o hj ho => by
    rw [hfr j (Array.getElem?_eq_some_iff.1 hj).1 (fun x hx e => by
      have := h.2.2 x hx
      rw [e, hj] at this
      injection this with this
      rw [this] at ho
      cases ho)]
    exact hj⟩
section
variable {P : Program} {w0 : World} {ops : Array Oper} {o : Oper} {s : VS}
theorem ev_idxs {ty e : TypeId} {x ix : Operand} {id off n cap k j : Nat} {ki : IntKind} (ho : o.op = .indexAddr ty x ix) (hgd : Want ops o s) (hx : svEval s x = .s id off n cap) (hi : svEval s ix = .v (.int ki (k : Nat)))
    (hu : P.underlying ty = some (.slice e)) (hs : ∀ w, (Go.sizeOf e).run P w = .ok 1 w) (hk : k < n) (hj : off + k = j) : Ev P ops w0 o s ⟨.p id j, [], [], [], []⟩ :=
  Ev.run _ _ hgd fun ρ S w hb hR => by
    have e1 := svEval_c s ρ x
    rw [hx] at e1
    have e2 := svEval_c s ρ ix
    rw [hi] at e2
    subst hj
    simp only [SV.c] at e1 e2
    simp [execOp, ho, e1, e2, SV.c, Instr.indexAt, asIntOf, run_underlying hu, hs, hk]
    unfold Addr.add
    split
    · simp_all
    · rfl
theorem ev_lens {t : TypeId} {x : Operand} {e : TypeId} {id off n cap : Nat} (ho : o.op = .call { callee := .builtin .len, args := #[x], argTypes := #[t] }) (hgd : Want ops o s) (hx : svEval s x = .s id off n cap)
    (hu : P.underlying t = some (.slice e)) : Ev P ops w0 o s ⟨.v (.int .i64 (n : Nat)), [], [], [], []⟩ :=
  Ev.run _ _ hgd fun ρ S w hb hR => by
    have e1 := svEval_c s ρ x
    rw [hx] at e1
    simp only [SV.c] at e1
    simp [execOp, ho, resolve, invoke, builtin, e1, Builtin.len_, run_underlying hu, SV.c, goInt]
end
def mixC (f P : Nat → Nat) (x q : Nat) : Nat → Nat := fun j => if 16 * x ≤ j ∧ j < 16 * x + q then f j ^^^ P (j - 16 * x) else f j
theorem mixC_by {f P : Nat → Nat} (hf : By f) (hP : By P) (x q : Nat) : By (mixC f P x q) := fun k => by
  unfold mixC; split
  · exact xor_lt (hf _) (hP _)
  · exact hf _
theorem mixC_0 (f P : Nat → Nat) (x : Nat) : mixC f P x 0 = f := by
  funext j; unfold mixC; rw [if_neg (by omega)]
theorem mixC_s (f P : Nat → Nat) (x i k : Nat) : up (mixC f P x i) (16 * x + i) (mixC f P x i (16 * x + i) ^^^ P i) k = mixC f P x (i + 1) k := by
  unfold up mixC
  by_cases h : k = 16 * x + i
  · subst h
    rw [if_pos rfl, if_neg (by omega), if_pos (by omega)]
    rw [show 16 * x + i - 16 * x = i by omega]
  · rw [if_neg h]
    by_cases h2 : 16 * x ≤ k ∧ k < 16 * x + i
    · rw [if_pos h2, if_pos (by omega)]
    · rw [if_neg h2, if_neg (by omega)]
def nn (k : Nat) : W := BitVec.ofNat 32 (2 + k)
theorem nn_s (k : Nat) : nn k + 1#32 = nn (k + 1) := by
  unfold nn
  rw [← BitVec.ofNat_add]
  rfl
def mixL (m : Nat) (f : Nat → Nat) (P : Nat → Nat → Nat) (pre : List Nat) : (Nat → Nat) × Nat := pre.foldl (fun s x => (mixC s.1 (P s.2) x (min 16 (m - 16 * x)), s.2 + 1)) (f, 0)
theorem mixL_2 (m : Nat) (f : Nat → Nat) (P : Nat → Nat → Nat) (pre : List Nat) : (mixL m f P pre).2 = pre.length := by
  have : ∀ (s : (Nat → Nat) × Nat), (pre.foldl (fun s x => (mixC s.1 (P s.2) x (min 16 (m - 16 * x)), s.2 + 1)) s).2 = s.2 + pre.length := by
    induction pre with
    | nil => intro s; rfl
    | cons x l ih => intro s; rw [List.foldl_cons, ih]; simp; omega
  unfold mixL; rw [this]; simp
theorem mixL_s (m : Nat) (f : Nat → Nat) (P : Nat → Nat → Nat) (pre : List Nat) (x : Nat) : (mixL m f P (pre ++ [x])).1 = mixC (mixL m f P pre).1 (P pre.length) x (min 16 (m - 16 * x)) := by
  rw [← mixL_2 m f P pre]
  unfold mixL
  rw [List.foldl_append]; rfl
theorem mixL_by {m : Nat} {f : Nat → Nat} {P : Nat → Nat → Nat} (hf : By f) (hP : ∀ k, By (P k)) (pre : List Nat) : By (mixL m f P pre).1 := by
  have : ∀ (s : (Nat → Nat) × Nat), By s.1 → By (pre.foldl (fun s x => (mixC s.1 (P s.2) x (min 16 (m - 16 * x)), s.2 + 1)) s).1 := by
    induction pre with
    | nil => intro s h; exact h
    | cons x l ih => intro s h; rw [List.foldl_cons]; exact ih _ (mixC_by h (hP _) _ _)
  exact this _ hf
theorem mixL_r (m : Nat) (f : Nat → Nat) (P : Nat → Nat → Nat) (k : Nat) (j : Nat) : (mixL m f P (List.range k)).1 j = if j < 16 * k ∧ j < m then f j ^^^ P (j / 16) (j % 16) else f j := by
  induction k with
  | zero => rw [if_neg (by omega)]; rfl
  | succ k ih =>
    rw [List.range_succ, mixL_s, List.length_range]
    unfold mixC
    rw [ih]
    by_cases h : 16 * k ≤ j ∧ j < 16 * k + min 16 (m - 16 * k)
    · rw [if_pos h, if_neg (by omega), if_pos (by omega)]
      rw [show j / 16 = k by omega, show j % 16 = j - 16 * k by omega]
    · rw [if_neg h]
      by_cases h2 : j < 16 * k ∧ j < m
      · rw [if_pos h2, if_pos (by omega)]
      · rw [if_neg h2, if_neg (by omega)]
def turnF (kf nc f : Nat → Nat) : Nat → Nat := fun j => f j ^^^ padF kf nc (nn (j / 16)) (j % 16)
theorem turnF_by {kf nc f : Nat → Nat} (hk : By kf) (hn : By nc) (hf : By f) : By (turnF kf nc f) := fun _ => xor_lt (hf _) (padF_by hk hn _ _)
theorem mixL_all (kf nc f : Nat → Nat) (m : Nat) : tb m (mixL m f (fun k => padF kf nc (nn k)) (List.range ((m + 15) / 16))).1 = tb m (turnF kf nc f) :=
  tb_ext fun j hj => by rw [mixL_r, if_pos (by omega)]; rfl
end Go.Proofs.YtiidceljhmpgcaaDoor
end
section
namespace Go.Proofs.YtiidceljhmpgcaaDoor
open Go.RowKit Go.Vx Go.Shelf
set_option maxHeartbeats 4000000
set_option maxRecDepth 100000
def LT (w : World) (gb : Nat) (kf nc : Nat → Nat) (m : Nat) (f : Nat → Nat) (gr gm : Nat) (r : List Value) (pre : List Nat) : OwnL :=
  [(3, w.heap.size, [.pointer (some ⟨gb, 0, none⟩)], 42), (4, w.heap.size + 1, tb 12 nc, 45), (7, gr, tb m (mixL m f (fun k => padF kf nc (nn k)) pre).1 ++ r, 5), (8, gm, [uv (nn pre.length)], 58)]
def LR (w : World) (gr gm : Nat) : Nat → Nm := fun k => ⟨if k = 3 then w.heap.size else if k = 4 then w.heap.size + 1 else if k = 7 then gr else gm, undef⟩
theorem heap3 (w : World) (a b c : Obj) : (((w.alloc a).alloc b).alloc c).heap.size = w.heap.size + 3 ∧ (∀ k, k < w.heap.size → (((w.alloc a).alloc b).alloc c).heap[k]? = w.heap[k]?) ∧ (((w.alloc a).alloc b).alloc c).heap[w.heap.size]? = some a ∧ (((w.alloc a).alloc b).alloc c).heap[w.heap.size + 1]? = some b ∧ (((w.alloc a).alloc b).alloc c).heap[w.heap.size + 2]? = some c := by
  refine ⟨by simp, fun k hk => ?_, ?_, ?_, ?_⟩
  · rw [Below.heap_alloc _ _ _ (by simp; omega), Below.heap_alloc _ _ _ (by simp; omega), Below.heap_alloc _ _ _ hk]
  · rw [Below.heap_alloc _ _ _ (by simp; omega), Below.heap_alloc _ _ _ (by simp)]; exact World.alloc_heap_new _ _
  · rw [Below.heap_alloc _ _ _ (by simp)]
    have := World.alloc_heap_new (w.alloc a) b
    rwa [World.size_alloc] at this
  · have := World.alloc_heap_new ((w.alloc a).alloc b) c
    rwa [World.size_alloc, World.size_alloc] at this
theorem turn_in {p : Value} {kf h nc f : Nat → Nat} {F : Nat → Prop} {a : Addr} {c m : Nat} (w : World) (hB : BoxAt w p kf h F) (hkf : By kf) (hnc : By nc) (hf : By f) (hmc : m ≤ c) (hc : ∀ i x, (tb m f)[i]? = some x → w.cell? (a.add i) = some x) (hm : m < 1073741824) :
    CallsIn Fence.wide 3 Tryd.prog 28 #[p, .agg (tb 12 nc).toArray, .slice (some a) m c] w fun e w' => ∃ v', e = .returned v' ∧ RetRow w w' v' m 1 5 (tb m (turnF kf nc f)) ∧ Bw w w' := by
  obtain ⟨gb, kp, hp, _⟩ := id hB
  subst hp
  refine callsIn_of_wp_marks Tryd.func28 rfl True.intro ?_ rfl
  simp only [Tryd.ntmps28, List.size_toArray, List.length_cons, List.length_nil, Nat.reduceAdd, Nat.reduceSub, Array.replicate_succ, Array.replicate_zero, List.push_toArray, List.append_toArray, List.nil_append, List.cons_append]
  have hb1 : Bw w ((w.alloc (.cells #[.pointer (some ⟨gb, 0, none⟩)] 42)).alloc (.cells (tb 12 nc).toArray 45)) := ((Below.refl _ w).alloc (Nat.le_refl _) _).alloc (by simp) _
  have h17 : Fence.wide.fn 17 := True.intro
  have h42 : Fence.wide.fn 42 := True.intro
  gi_wp2_with (first
    | (gi_at_call 17; refine (clone2_ok 2 (l := tb m f) _ hmc tb_len (fun i x hx => hb1.cell (hc i x hx)) (List.all_eq_true.1 tb_one) (Nat.le_of_lt hm)).mono ?_; rintro e w' ⟨gr, cap, cur, rfl, hg0, hg, hmcap, hmax, hcur, htake, hb2⟩)
    | (gi_at_call 42; refine (chunk_ok 2 _ _ _ _).mono ?_; rintro e w5 ⟨rfl, hw5⟩))
  rw [← hw5]
  have hs1 : ((w.alloc (.cells #[.pointer (some ⟨gb, 0, none⟩)] 42)).alloc (.cells (tb 12 nc).toArray 45)).heap.size = w.heap.size + 2 := by simp
  have a3 : w'.heap[w.heap.size]? = some (.cells #[.pointer (some ⟨gb, 0, none⟩)] 42 (0, 0)) := (hb2.block _ (by omega)).trans ((Below.heap_alloc _ _ _ (by simp)).trans (World.alloc_heap_new _ _))
  have a4 : w'.heap[w.heap.size + 1]? = some (.cells (tb 12 nc).toArray 45 (0, 0)) := (hb2.block _ (by omega)).trans (by
    have := World.alloc_heap_new (w.alloc (.cells #[.pointer (some ⟨gb, 0, none⟩)] 42)) (.cells (tb 12 nc).toArray 45)
    rwa [World.size_alloc] at this)
  have hb3 : Bw w w' := hb1.trans hb2
  have hs2 := hb2.size
  rw [hs1] at hs2 hg0
  have hglt : gr < w'.heap.size := (Array.getElem?_eq_some_iff.1 hg).1
  obtain ⟨s5, o5, n0, n1, n2⟩ := heap3 w' (.cells #[.int .u32 2] 58) (.cells #[.slice (some ⟨gr, 0, none⟩) m cap] 28) (.cells #[.int .i64 16] 3)
  rw [← hw5] at s5 o5 n0 n1 n2
  have hb5 : Bw w w5 := by
    rw [hw5]; exact ((hb3.alloc (by omega) _).alloc (by simp; omega) _).alloc (by simp; omega) _
  clear hw5
  obtain ⟨gm, hgn⟩ : ∃ gm, w'.heap.size = gm := ⟨_, rfl⟩
  have e2 : w'.heap.size + 1 + 1 = gm + 2 := by rw [hgn]
  have e1 : w'.heap.size + 1 = gm + 1 := by rw [hgn]
  rw [e2, e1, hgn]
  rw [hgn] at s5 o5 n0 n1 n2 hglt hs2
  rw [← o5 _ (by omega)] at a3 a4
  rw [← o5 _ hglt] at hg
  obtain ⟨r, hr0⟩ : ∃ r, cur.toList.drop m = r := ⟨_, rfl⟩
  have hcr : cur = (tb m f ++ r).toArray := by
    rw [← htake, ← hr0, List.take_append_drop]
  clear htake hb1 hb2 hb3 hs1 e1 e2 hc hr0
  refine wpIn_rangeFunc_ownF (w0 := w5) rfl (by decide : 1 ≤ 3) (gf := 54) (lb := #[.pointer (some ⟨gm + 1, 0, none⟩), .pointer (some ⟨gm + 2, 0, none⟩)]) rfl True.intro (enters_of Tryd.func54 (by kernel_rfl) rfl)
    (chunkg_stops 2 (by decide) (gm + 1) (gm + 2) gr m cap hmcap hm w5 (by omega) (by omega) (cell_blk n1 rfl) (cell_blk n2 rfl)) kpc_t (kpc_put (by omega) (by omega)) (Below.refl _ _) (fun _ => rfl)
    (fun pre W => RI w w5.heap.size (LT w gb kf nc m f gr gm r pre) W) (fun _ _ _ => False) (ri_own (fun pre => LT w gb kf nc m f gr gm r pre) hb5.size (by intro s x hx; simp [LT] at hx; rcases hx with rfl | rfl | rfl | rfl <;> (simp only; omega))) (fun _ _ _ _ _ hs _ _ => hs)
    ⟨hb5, Nat.le_refl _, by
      intro x hx; simp [LT] at hx; rcases hx with rfl | rfl | rfl | rfl
      · exact a3
      · exact a4
      · rw [hcr] at hg; exact hg
      · exact n0⟩
    (fun x => { tmps := #[.pointer (some ⟨gb, 0, none⟩), .agg (tb 12 nc).toArray, .slice (some a) m c, .pointer (some ⟨w.heap.size, 0, none⟩), .pointer (some ⟨w.heap.size + 1, 0, none⟩), undef, .slice none 0 0, .slice (some ⟨gr, 0, none⟩) m cap, .pointer (some ⟨gm, 0, none⟩), chkg gr m x, undef, undef, .slice (some a) m c, .slice (some ⟨gr, 0, none⟩) m cap, .slice (some ⟨gr, 0, none⟩) m cap,
      .func (.func 54) #[] #[.pointer (some ⟨gm + 1, 0, none⟩), .pointer (some ⟨gm + 2, 0, none⟩)], chkg gr m x, undef, undef, undef, undef, undef, undef, undef, undef, undef, undef, undef, undef, undef, undef, undef, undef, undef, undef, undef, undef, undef, undef], defers := [] }) ?assign ?body ?done ?stop
  case assign =>
    intro l x W K hK
    have hs : ∀ (ρ : Operand → Value) (o : Oper), (∀ c, o.op ≠ .defer c) → o.semAt (some l) ρ = execOp ρ o := fun ρ o h => Oper.semAt_some l ρ o h
    gi_wp2
    exact hK
  case stop =>
    rintro D c pre W _ _ h _
    exact h.elim
  case body =>
    intro l pre x W hI hpl
    obtain ⟨N, hN⟩ : ∃ N, min 16 (m - 16 * x) = N := ⟨_, rfl⟩
    have hN16 : N ≤ 16 := by omega
    have hNm : ∀ i, i < N → 16 * x + i < m := fun i hi => by omega
    have hW : Wd (Fence.wide.inRound l) := .inr ⟨l, rfl⟩
    obtain ⟨q, hq⟩ : ∃ q, (mixL m f (fun k => padF kf nc (nn k)) pre).1 = q := ⟨_, rfl⟩
    have hq0 : By q := by rw [← hq]; exact mixL_by hf (fun k => padF_by hkf hnc _) pre
    have hP : By (padF kf nc (nn pre.length)) := padF_by hkf hnc _
    obtain ⟨LL, hLL⟩ : ∃ LL, LT w gb kf nc m f gr gm r pre = LL := ⟨_, rfl⟩
    simp only [hLL] at hI
    have hrel : Rel w (LR w gr gm) ⟨[.v (.pointer (some ⟨gb, 0, none⟩)), .v (.agg (tb 12 nc).toArray), .v (.slice (some a) m c), .p 3 0, .p 4 0, .v undef, .v (.slice none 0 0), .v (.slice (some ⟨gr, 0, none⟩) m cap), .p 8 0, .s 7 (16 * x) N N, .v undef, .v undef, .v (.slice (some a) m c), .v (.slice (some ⟨gr, 0, none⟩) m cap), .v (.slice (some ⟨gr, 0, none⟩) m cap),
      .v (.func (.func 54) #[] #[.pointer (some ⟨gm + 1, 0, none⟩), .pointer (some ⟨gm + 2, 0, none⟩)]), .s 7 (16 * x) N N, .v undef, .v undef, .v undef, .v undef, .v undef, .v undef, .v undef, .v undef, .v undef, .v undef, .v undef, .v undef, .v undef, .v undef, .v undef, .v undef, .v undef, .v undef, .v undef, .v undef, .v undef, .v undef], memOf [(3, .arr [.pointer (some ⟨gb, 0, none⟩)] 42), (4, .arr (tb 12 nc) 45), (7, .arr (tb m (mixC q (padF kf nc (nn pre.length)) x 0) ++ r) 5), (8, .arr [uv (nn pre.length)] 58), (1003, .pin 3 (w.heap.size)), (1004, .pin 4 (w.heap.size + 1)), (1007, .pin 7 (gr)), (1008, .pin 8 (gm)), (803, .dat (frameD W (ownX w LL))), (805, .floor W.heap.size)]⟩ W := by
      have := rel_mk (ρ := LR w gr gm) (L := LL) hI.1 ?_ ?_ ?_ (fr := [])
      · have e : ownM w W LL = [(3, .arr [.pointer (some ⟨gb, 0, none⟩)] 42), (4, .arr (tb 12 nc) 45), (7, .arr (tb m (mixC q (padF kf nc (nn pre.length)) x 0) ++ r) 5), (8, .arr [uv (nn pre.length)] 58), (1003, .pin 3 (w.heap.size)), (1004, .pin 4 (w.heap.size + 1)), (1007, .pin 7 (gr)), (1008, .pin 8 (gm)), (803, .dat (frameD W (ownX w LL))), (805, .floor W.heap.size)] := by rw [← hLL]; simp only [LT, ownM, List.map_cons, List.map_nil, List.cons_append, List.nil_append, hq, mixC_0]
        rw [e] at this
        exact this
      · rw [← hLL]; intro x hx; simp [LT] at hx; rcases hx with rfl | rfl | rfl | rfl <;> rfl
      · intro x hx
        refine ⟨?_, hI.2.2 x hx⟩
        rw [← hLL] at hx; simp [LT] at hx; rcases hx with rfl | rfl | rfl | rfl <;> (simp only; omega)
      · rw [← hLL]; intro x hx y hy; simp [LT] at hx hy; rcases hx with rfl | rfl | rfl | rfl <;> rcases hy with rfl | rfl | rfl | rfl <;> first | (intro _; rfl) | (intro e; exfalso; simp only at e; omega)
    have hact : chkg gr m x = .slice (some ⟨gr, 16 * x, none⟩) N N := by unfold chkg; rw [hN]
    simp only [hact]
    refine (?hD : DOk (Fence.wide.inRound l) (3 - 1 - 1) [] Tryd.prog w ⟨_, memOf [(3, .arr [.pointer (some ⟨gb, 0, none⟩)] 42), (4, .arr (tb 12 nc) 45), (7, .arr (tb m (mixC q (padF kf nc (nn pre.length)) x 0) ++ r) 5), (8, .arr [uv (nn pre.length)] 58), (1003, .pin 3 (w.heap.size)), (1004, .pin 4 (w.heap.size + 1)), (1007, .pin 7 (gr)), (1008, .pin 8 (gm)), (803, .dat (frameD W (ownX w LL))), (805, .floor W.heap.size)]⟩ _ (fun e s => e = .normal ∧ s.mem 3 = some (.arr [.pointer (some ⟨gb, 0, none⟩)] 42) ∧ s.mem 4 = some (.arr (tb 12 nc) 45) ∧ s.mem 7 = some (.arr (tb m (mixC q (padF kf nc (nn pre.length)) x N) ++ r) 5) ∧ s.mem 8 = some (.arr [uv (nn pre.length + 1#32)] 58) ∧
      s.mem 1003 = some (.pin 3 w.heap.size) ∧ s.mem 1004 = some (.pin 4 (w.heap.size + 1)) ∧ s.mem 1007 = some (.pin 7 gr) ∧ s.mem 1008 = some (.pin 8 gm) ∧ s.mem 803 = some (.dat (frameD W (ownX w LL))) ∧ s.mem 805 = some (.floor W.heap.size))) (LR w gr gm) W _ hrel ?hR
    case hR =>
      rintro e ρ' s' W2 ⟨rfl, q3, q4, q7, q8, p3, p4, p7, p8, p803, p805⟩ hr'
      have b3 := rel_arr hr' q3 p3
      have b4 := rel_arr hr' q4 p4
      have b7 := rel_arr hr' q7 p7
      have b8' := rel_arr hr' q8 p8
      obtain ⟨hb, hsz, hfr⟩ := rel_end hI.1 hr' p803 p805
      have hB2 := hI.2.1
      have hne : ∀ k, gm < k → k < w5.heap.size → ∀ y ∈ LL, y.2.1 ≠ k := by
        rw [← hLL]; intro k h1 h2 y hy; simp [LT] at hy; rcases hy with rfl | rfl | rfl | rfl <;> (simp only; omega)
      refine ⟨(ri_keeps hI hsz hfr), kpc_of (hfr _ (by omega) (hne _ (by omega) (by omega))) (hfr _ (by omega) (hne _ (by omega) (by omega))), hb, Nat.le_trans hB2 hsz, ?_⟩
      intro y hy
      simp [LT] at hy; rcases hy with rfl | rfl | rfl | rfl
      · exact b3
      · exact b4
      · rw [mixL_s, hq, hN]; exact b7
      · rw [← nn_s]; exact b8'
    case hD =>
      refine dblock ?_
      refine dseq ?_
      apply drp hW
      · apply VE.cons
        · exact ev_load1r rfl (gn rfl) rfl rfl Tryd.underlying42 rfl rfl
        simp only [nm, seval]
        apply VE.cons
        · exact ev_ldt rfl (gn rfl) rfl rfl Tryd.underlying45 rfl Tryd.sizeOf45
        simp only [nm, seval]
        apply VE.cons
        · exact ev_load1r rfl (gn rfl) rfl rfl Tryd.underlying58 rfl rfl
        simp only [nm, seval]
        apply VE.cons
        · exact ev_callb rfl (gn rfl) rfl (en_of Tryd.func43 (by kernel_rfl) rfl) (fun w' hb => gpad_ok (nn pre.length) w' (hB.bw hb) hkf hnc)
        simp only [nm, seval]
        apply VE.cons
        · exact ev_allocr (l := tb 16 fun _ => 0) rfl rfl (gn rfl) Tryd.zeroValue67 rfl
        simp only [nm, seval]
        apply VE.cons
        · exact ev_sta rfl (gn rfl) rfl rfl rfl Tryd.sizeOf67
        simp only [nm, seval]
        exact VE.nil _
      · kernel_rfl
      change DOk _ _ _ _ _ _ _ _
      refine dseq ?_
      refine dseq ?_
      apply drp hW
      · apply VE.cons
        · exact ev_move rfl (gn rfl)
        simp only [nm, seval]
        apply VE.cons
        · exact ev_lens rfl (gn rfl) rfl Tryd.underlying28
        simp only [nm, seval]
        apply VE.cons
        · exact ev_move rfl (gn rfl)
        simp only [nm, seval]
        exact VE.nil _
      · kernel_rfl
      change DOk _ _ _ _ _ _ _ _
      refine dblock ?_
      refine dloop_w (α := {i : Nat // i ≤ N}) (fun (y : {i : Nat // i ≤ N}) g => ⟨.v (g 0) :: .v (g 1) :: .v (g 2) :: .p 3 0 :: .p 4 0 :: .v (g 5) :: .v (g 6) :: .v (g 7) :: .p 8 0 :: .s 7 (16 * x) N N :: .p 10 0 :: .v (g 11) :: .v (g 12) :: .v (g 13) :: .v (g 14) :: .v (g 15) :: .v (g 16) :: .v (g 17) :: .v (g 18) :: .v (g 19) :: .v (g 20) :: .v (g 21) :: .v (.int .i64 (N : Nat)) :: .v (.int .i64 (y.1 : Nat)) :: .v (g 24) :: .v (g 25) :: .v (g 26) :: .v (g 27) :: .v (g 28) :: .v (g 29) :: .v (g 30) :: .v (g 31) :: .v (g 32) :: .v (g 33) :: .v (g 34) :: .v (g 35) :: .v (g 36) :: .v (g 37) :: .v (g 38) :: [], memOf [(10, .arr (tb 16 (padF kf nc (nn pre.length))) 67), (3, .arr [.pointer (some ⟨gb, 0, none⟩)] 42), (4, .arr (tb 12 nc) 45), (7, .arr (tb m (mixC q (padF kf nc (nn pre.length)) x y.1) ++ r) 5), (8, .arr [uv (nn pre.length)] 58), (1003, .pin 3 (w.heap.size)), (1004, .pin 4 (w.heap.size + 1)), (1007, .pin 7 (gr)), (1008, .pin 8 (gm)), (803, .dat (frameD W (ownX w LL))), (805, .floor W.heap.size)]⟩) (fun x => N - x.1) ?_ (⟨0, Nat.zero_le _⟩) ?_
      · rintro ⟨i, hi⟩ g
        obtain ⟨q, hq⟩ : ∃ q, decide (((i : Nat) : Int) < ((N : Nat) : Int)) = q := ⟨_, rfl⟩
        change DOk _ _ _ _ _ _ _ _
        refine dseq ?_
        apply drp hW
        · apply VE.cons
          · exact ev_lss rfl (gn rfl) rfl rfl hq
          simp only [nm, seval]
          exact VE.nil _
        · kernel_rfl
        change DOk _ _ _ _ _ _ _ _
        refine dseq ?_
        cases q
        · refine dcond_f rfl ?_
          have hN : i = N := by have := of_decide_eq_false hq; omega
          subst hN
          refine dexit ?_
          change DOk _ _ _ _ _ _ _ _
          apply drp hW
          · apply VE.cons
            · exact ev_load1r rfl (gn rfl) rfl rfl Tryd.underlying58 rfl rfl
            simp only [nm, seval]
            apply VE.cons
            · exact ev_bin rfl (gn rfl) rfl rfl (fun w => add32 (nn pre.length) 1#32 _ _ w)
            simp only [nm, seval]
            apply VE.cons
            · exact ev_store1r rfl (gn rfl) rfl rfl rfl Tryd.sizeOf58 rfl Nat.zero_lt_one rfl
            simp only [nm, seval]
            exact VE.nil _
          · kernel_rfl
          exact ⟨rfl, rfl, rfl, rfl, rfl, rfl, rfl, rfl, rfl, rfl, rfl⟩
        · refine dcond_t rfl ?_
          have hlt : i < N := by have := of_decide_eq_true hq; omega
          refine dskip ?_
          change DOk _ _ _ _ _ _ _ _
          refine dseq ?_
          refine dblock ?_
          refine dseq ?_
          apply drp hW
          · apply VE.cons
            · exact ev_move rfl (gn rfl)
            simp only [nm, seval]
            apply VE.cons
            · exact ev_assign rfl (gn rfl)
            simp only [nm, seval]
            exact VE.nil _
          · kernel_rfl
          change DOk _ _ _ _ _ _ _ _
          apply drd hW (by kernel_rfl)
          · apply VE.cons
            · exact ev_move rfl (gn rfl)
            simp only [nm, seval]
            apply VE.cons
            · exact ev_move rfl (gn rfl)
            simp only [nm, seval]
            apply VE.cons
            · exact ev_idxs (k := i) (j := 16 * x + i) rfl (gn rfl) rfl rfl Tryd.underlying28 Tryd.sizeOf5 hlt rfl
            simp only [nm, seval]
            apply VE.cons
            · exact ev_load1r rfl (gn rfl) rfl rfl Tryd.underlying5 rfl (tbr_get (hNm i hlt))
            simp only [nm, seval]
            apply VE.cons
            · exact ev_move rfl (gn rfl)
            simp only [nm, seval]
            apply VE.cons
            · exact ev_indexn (k := i) (j := i) rfl (gn rfl) rfl rfl Tryd.underlying67 Tryd.sizeOf5 (by omega) (by omega)
            simp only [nm, seval]
            apply VE.cons
            · exact ev_load1r rfl (gn rfl) rfl rfl Tryd.underlying5 rfl (tb_get (by omega))
            simp only [nm, seval]
            apply VE.cons
            · exact ev_bin rfl (gn rfl) rfl rfl (fun w => xor8 (mixC_by hq0 hP x i _) (hP i) _ _ w)
            simp only [nm, seval]
            apply VE.cons
            · exact ev_idxs (k := i) (j := 16 * x + i) rfl (gn rfl) rfl rfl Tryd.underlying28 Tryd.sizeOf5 hlt rfl
            simp only [nm, seval]
            apply VE.cons
            · exact ev_sttr (mixC q (padF kf nc (nn pre.length)) x (i + 1)) rfl (gn rfl) rfl rfl rfl Tryd.sizeOf5 (hNm i hlt) (fun k _ => mixC_s q (padF kf nc (nn pre.length)) x i k)
            simp only [nm, seval]
            exact VE.nil _
          · kernel_rfl
          change DOk _ _ _ _ _ _ _ _
          apply drp hW
          · apply VE.cons
            · exact ev_add (c := ((i + 1 : Nat) : Int)) rfl (gn rfl) rfl rfl (by rw [i64w (by omega) (by omega)]; omega)
            simp only [nm, seval]
            apply VE.cons
            · exact ev_move rfl (gn rfl)
            simp only [nm, seval]
            exact VE.nil _
          · kernel_rfl
          refine ⟨⟨i + 1, by omega⟩, by show N - (i + 1) < N - i; omega, weaker_forget (fun i => i == 3 || i == 4 || i == 8 || i == 9 || i == 10 || i == 22 || i == 23) []⟩
      · exact weaker_forget (fun i => i == 3 || i == 4 || i == 8 || i == 9 || i == 10 || i == 22 || i == 23) []
  case done =>
    rintro D xs W hD rfl hI hK
    gi_wp2
    refine ⟨by simp, .inl ⟨_, _, rfl, run_takeDeferred hK, ?_⟩⟩
    have hg7 := hI.2.2 (7, gr, tb m (mixL m f (fun k => padF kf nc (nn k)) (List.range ((m + 15) / 16))).1 ++ r, 5) (by simp [LT])
    rw [mixL_all] at hg7
    have hlen : cap = (tb m (turnF kf nc f) ++ r).length := by
      rw [← hcur, hcr, List.size_toArray, List.length_append, List.length_append, tb_len, tb_len]
    refine ⟨_, results_tmp rfl _ _ _, _, rfl, ⟨gr, .inr ⟨0, cap, (tb m (turnF kf nc f) ++ r).toArray, (0, 0), rfl, (by show w.heap.size ≤ gr; omega), (World.putObj_heap_other (show gr ≠ D by omega)).trans hg7, .inl rfl, hmcap, hmax, by simp [hlen], ?_⟩⟩, ?_⟩
    · simp only [List.drop_zero, Nat.mul_one]
      rw [List.take_append_of_le_length (by rw [tb_len]; exact Nat.le_refl _), List.take_of_length_le (by rw [tb_len]; exact Nat.le_refl _)]
    · exact Below.trans hI.1 (belowK_b (w := w) (Nat.le_refl _) W D _ _ (by omega) hK rfl rfl)
end Go.Proofs.YtiidceljhmpgcaaDoor
end
section
namespace Go.Proofs.YtiidceljhmpgcaaDoor
open Go.RowKit Go.Vx
open Go.Toll (Gw)
open TollSha
set_option maxHeartbeats 4000000
set_option maxRecDepth 100000
section
variable {P : Program} {w0 : World} {ops : Array Oper} {o : Oper} {s : VS}
theorem ev_copyarr3 {dT sT e : TypeId} {x y : Operand} {id off len cap k kc : Nat} {l l' : List Value} {bt : TypeId} {news : List Value} {a : Addr} (ho : o.op = .call { callee := .builtin .copy, args := #[x, y], argTypes := #[dT, sT] }) (hgd : Want ops o s)
    (hx : svEval s x = .s id off len cap) (hm : s.mem id = some (.arr l bt)) (hy : svEval s y = .v (.slice (some a) k kc)) (hr : ∀ j v, news[j]? = some v → w0.cell? (a.add j) = some v) (hu : P.underlying dT = some (.slice e)) (hs : (P.info? e).map (·.size) = some 1)
    (hlen : news.length = k) (hk : k ≤ len) (hfit : off + k ≤ l.length) (h1 : news.all (·.oneCell') = true) (hl' : l.take off ++ news ++ l.drop (off + k) = l') :
    Ev P ops w0 o s ⟨.v (.int .i64 (k : Nat)), [(id, .arr l' bt)], [id], [], [id]⟩ :=
  Ev.wrv id _ _ _ _ hgd hm (by simp) fun ρ S w hb hR => by
    have e1 := svEval_c s ρ x
    rw [hx] at e1
    have e2 := svEval_c s ρ y
    rw [hy] at e2
    obtain ⟨hg0, hg⟩ := relon_get hR hm (by simp)
    simp only [SV.c] at e1 e2
    have hrun := run_copy_row (P := P) w dT sT o.type e (ρ id).g off len cap a k kc l.toArray bt news hu hs hg (by rw [hlen]; exact (Nat.min_eq_left hk).symm) (fun j v h => hb.cell (hr j v h)) (by rw [hlen]; simp; omega) (fun u hu => List.all_eq_true.1 h1 u hu)
    refine ⟨True.intro, w.setRow (ρ id).g (l.toArray.toList.take off ++ news ++ l.toArray.toList.drop (off + news.length)).toArray, ?_, ⟨rfl, rfl, rfl, by simp, fun k hk => setRow_other w _ k _ hk⟩, hg0, (setRow_heap w (ρ id).g _ _ _ _ hg).trans ?_⟩
    · unfold execOp
      simp only [ho, resolve, invoke, builtin, Sem.run_bind, Sem.run_pure, Result.andThen_ok, List.map_toArray, List.map_cons, List.map_nil, e1, e2, hrun, SV.c, goInt, hlen]
    · rw [← hl', hlen]
end
def blkF (f : Nat → Nat) (x n : Nat) : Nat → Nat := fun i => if i < n then f (16 * x + i) else 0
theorem blkF_by {f : Nat → Nat} (hf : By f) (x n : Nat) : By (blkF f x n) := fun i => by
  unfold blkF; split
  · exact hf _
  · decide
theorem blk_eq (f : Nat → Nat) (x n : Nat) (hn : n ≤ 16) : (tb 16 fun _ => 0).take 0 ++ tb n (fun i => f (16 * x + i)) ++ (tb 16 fun _ => 0).drop (0 + n) = tb 16 (blkF f x n) := by
  rw [List.take_zero, List.nil_append, tb_drop 16 (0 + n) _ (16 - n) (by omega)]
  have h1 : tb n (fun i => f (16 * x + i)) = tb n (blkF f x n) := tb_ext fun k hk => (if_pos hk).symm
  have h2 : tb (16 - n) (fun k => (fun _ => 0) (0 + n + k)) = tb (16 - n) (fun k => blkF f x n (n + k)) := tb_ext fun k _ => (if_neg (by omega)).symm
  rw [h1, h2]
  have := tb_app n (16 - n) (blkF f x n)
  rwa [show n + (16 - n) = 16 by omega] at this
def foldS (hE : El) (f : Nat → Nat) (m : Nat) (y : El) (x : Nat) : El := tmE (addE y (ofE (blkF f x (min 16 (m - 16 * x))))) hE
def foldC (hE : El) (f : Nat → Nat) (m : Nat) (y : El) (pre : List Nat) : El := pre.foldl (foldS hE f m) y
theorem foldC_s (hE : El) (f : Nat → Nat) (m : Nat) (y : El) (pre : List Nat) (x : Nat) : foldC hE f m y (pre ++ [x]) = foldS hE f m (foldC hE f m y pre) x := by
  unfold foldC
  rw [List.foldl_append]; rfl
def rfOf : Code → Option Code
  | .seq a b => (rfOf a).orElse fun _ => rfOf b
  | .block _ c => rfOf c
  | .loop c => rfOf c
  | .rangeFunc g p a b => some (.rangeFunc g p a b)
  | _ => none
def rfA : Option Code → Code
  | some (.rangeFunc _ _ a _) => a
  | _ => .skip
def rfB : Option Code → Code
  | some (.rangeFunc _ _ _ b) => b
  | _ => .skip
noncomputable def foldA : Code := rfA (Tryd.f45.body.bind rfOf)
noncomputable def foldB : Code := rfB (Tryd.f45.body.bind rfOf)
def FT (g4 g5 g6 : Nat) (hE y : El) : OwnL := [(4, g4, tb 16 fun _ => 0, 67), (5, g5, [dv hE.1, dv hE.2], 101), (6, g6, [dv y.1, dv y.2], 101)]
def FR (g4 g5 g6 : Nat) : Nat → Nm := fun k => ⟨if k = 4 then g4 else if k = 5 then g5 else g6, undef⟩
def RF (w W0 : World) (L : OwnL) (W : World) : Prop := RI w W0.heap.size L W ∧ ∀ k, k < W0.heap.size → (∀ x ∈ L, x.2.1 ≠ k) → W.heap[k]? = W0.heap[k]?
theorem rf_own {β : Type} {w W0 : World} (L : β → OwnL) (hw : w.heap.size ≤ W0.heap.size) (hL : ∀ s, ∀ x ∈ L s, x.2.1 < W0.heap.size) : OwnFrom W0.heap.size (fun s W => RF w W0 (L s) W) := by
  intro s W W' row ⟨h1, h2⟩ hg hr
  refine ⟨ri_own L hw hL s W W' row h1 hg hr, fun k hk hx => ?_⟩
  rw [hg.block _ (Nat.lt_of_lt_of_le hk h1.2.1) (fun e => by have := (hr _ e.symm).1; omega)]
  exact h2 k hk hx
theorem fold_body {w W : World} {F : Fence} {n : Nat} (hW : Wd F) {f : Nat → Nat} {a : Addr} {N g4 g5 g6 B1 B2 : Nat} {hE y : El} {LL : OwnL} (x : Nat) (hN16 : N ≤ 16) (hf : By f) (hsrc : ∀ j v, (tb N fun i => f (16 * x + i))[j]? = some v → w.cell? ((a.add (16 * x)).add j) = some v) (u0 u1 u2 u3 u4 u7 u8 u10 u11 u12 u13 u14 u15 u16 u17 u18 u19 u22 u23 u24 u25 u26 u27 u28 u29 u30 u31 u32 u33 : Value) :
    DOk F n [] Tryd.prog w ⟨[.v (u0), .v (u1), .v (u2), .v (u3), .v (u4), .p 5 0, .p 6 0, .v (u7), .v (u8), .v (.slice (some (a.add (16 * x))) N N), .v (u10), .v (u11), .v (u12), .v (u13), .v (u14), .v (u15), .v (u16), .v (u17), .v (u18), .v (u19), .v (.func (.func 54) #[] #[.pointer (some ⟨B1, 0, none⟩), .pointer (some ⟨B2, 0, none⟩)]), .v (.slice (some (a.add (16 * x))) N N), .v (u22), .v (u23), .v (u24), .v (u25), .v (u26), .v (u27), .v (u28), .v (u29), .v (u30), .v (u31), .v (u32), .v (u33)], memOf [(4, .arr (tb 16 fun _ => 0) 67), (5, .arr [dv hE.1, dv hE.2] 101), (6, .arr [dv y.1, dv y.2] 101), (1004, .pin 4 g4), (1005, .pin 5 g5), (1006, .pin 6 g6), (803, .dat (frameD W (ownX w LL))), (805, .floor W.heap.size)]⟩ foldB (fun e s => e = .normal ∧ s.mem 4 = some (.arr (tb 16 fun _ => 0) 67) ∧ s.mem 5 = some (.arr [dv hE.1, dv hE.2] 101) ∧ s.mem 6 = some (.arr [dv (tmE (addE y (ofE (blkF f x N))) hE).1, dv (tmE (addE y (ofE (blkF f x N))) hE).2] 101) ∧ s.mem 1004 = some (.pin 4 g4) ∧ s.mem 1005 = some (.pin 5 g5) ∧ s.mem 1006 = some (.pin 6 g6) ∧ s.mem 803 = some (.dat (frameD W (ownX w LL))) ∧ s.mem 805 = some (.floor W.heap.size)) := by
  refine dblock ?_
  refine dseq ?_
  apply drp hW
  · apply VE.cons
    · exact ev_allocr (l := tb 16 fun _ => 0) rfl rfl (gn rfl) Tryd.zeroValue67 rfl
    simp only [nm, seval]
    exact VE.nil _
  · kernel_rfl
  change DOk _ _ _ _ _ _ _ _
  refine dseq ?_
  apply drp hW
  · apply VE.cons
    · exact ev_slicea rfl (gn rfl) rfl Tryd.underlying67 Tryd.sizeOf5
    simp only [nm, seval]
    apply VE.cons
    · exact ev_move rfl (gn rfl)
    simp only [nm, seval]
    apply VE.cons
    · exact ev_copyarr3 (l' := tb 16 (blkF f x N)) rfl (gn rfl) rfl rfl rfl hsrc Tryd.underlying28 (by kernel_rfl) tb_len hN16 (by rw [tb_len]; omega) tb_one (blk_eq f x N hN16)
    simp only [nm, seval]
    exact VE.nil _
  · kernel_rfl
  change DOk _ _ _ _ _ _ _ _
  apply drd hW (by kernel_rfl)
  · apply VE.cons
    · exact ev_loadr rfl (gn rfl) rfl rfl Tryd.underlying101 rfl Tryd.sizeOf101 rfl rfl
    simp only [nm, seval]
    apply VE.cons
    · exact ev_slicea rfl (gn rfl) rfl Tryd.underlying67 Tryd.sizeOf5
    simp only [nm, seval]
    apply VE.cons
    · exact ev_callp (v := EV (ofE (blkF f x N))) [10] rfl (gn rfl) rfl (en_of Tryd.func46 (by kernel_rfl) rfl) (fun ρ S w' hb hR => by obtain ⟨S1, h⟩ := rdg_arr (w0 := w) (off := 0) (len := 16) (cap := 16) (size := 1) (l := tb 16 (blkF f x N)) (by exact rfl) (by rw [List.drop_zero]; exact List.take_of_length_le (by rw [tb_len]; decide)) tb_len (Nat.le_refl _) ρ S w' hb hR; exact of_ok w' h (blkF_by hf x N))
    simp only [nm, seval]
    apply VE.cons
    · exact ev_callb rfl (gn rfl) rfl (en_of Tryd.func47 (by kernel_rfl) rfl) (fun w' hb => addE_ok w')
    simp only [nm, seval]
    apply VE.cons
    · exact ev_loadr rfl (gn rfl) rfl rfl Tryd.underlying101 rfl Tryd.sizeOf101 rfl rfl
    simp only [nm, seval]
    apply VE.cons
    · exact ev_callb rfl (gn rfl) rfl (en_of Tryd.func55 (by kernel_rfl) rfl) (fun w' hb => times_ok w')
    simp only [nm, seval]
    apply VE.cons
    · exact ev_storer rfl (gn rfl) rfl rfl rfl Tryd.sizeOf101 rfl (Nat.le_refl _) rfl rfl
    simp only [nm, seval]
    exact VE.nil _
  · kernel_rfl
  exact ⟨rfl, rfl, rfl, rfl, rfl, rfl, rfl, rfl, rfl⟩
end Go.Proofs.YtiidceljhmpgcaaDoor
end
section
namespace Go.Proofs.YtiidceljhmpgcaaDoor
open Go.RowKit Go.Vx Go.Shelf
set_option maxHeartbeats 4000000
set_option maxRecDepth 100000
theorem fold_part {w W0 : World} {f : Nat → Nat} {a : Addr} {m c g4 g5 g6 : Nat} {hE y : El} {Q : Exit → Act → World → Prop} {ds : List Deferred} (hwW : Bw w W0) (hf : By f) (hmc : m ≤ c) (hm : m < 1073741824) (hsrc : ∀ j v, (tb m f)[j]? = some v → w.cell? (a.add j) = some v)
    (h0 : RI w W0.heap.size (FT g4 g5 g6 hE y) W0) (h4 : w.heap.size ≤ g4 ∧ w.heap.size ≤ g5 ∧ w.heap.size ≤ g6) (h5 : g4 ≠ g5 ∧ g4 ≠ g6 ∧ g5 ≠ g6) (h7 : g4 < W0.heap.size ∧ g5 < W0.heap.size ∧ g6 < W0.heap.size) (u0 u1 u2 u3 u4 u7 u8 u10 u11 u12 u13 u14 u15 u16 u17 u18 u19 u22 u23 u24 u25 u26 u27 u28 u29 u30 u31 u32 u33 u9 u21 : Value)
    (hQ : ∀ D W', W0.heap.size ≤ D → RF w W0 (FT g4 g5 g6 hE (foldC hE f m y (List.range ((m + 15) / 16)))) W' → W'.heap[D]? = some (.deferred (some [])) → Q .normal { tmps := #[u0, u1, u2, u3, u4, .pointer (some ⟨g5, 0, none⟩), .pointer (some ⟨g6, 0, none⟩), u7, u8, u9, u10, u11, u12, u13, u14, u15, u16, u17, u18, u19, .func (.func 54) #[] #[.pointer (some ⟨W0.heap.size, 0, none⟩), .pointer (some ⟨W0.heap.size + 1, 0, none⟩)], u21, u22, u23, u24, u25, u26, u27, u28, u29, u30, u31, u32, u33], defers := { target := .collected D, args := #[] } :: ds } W') :
    (Code.rangeFunc (.tmp 20) #[21] foldA foldB).wpIn Fence.wide 3 Tryd.prog Q { tmps := #[u0, u1, u2, u3, u4, .pointer (some ⟨g5, 0, none⟩), .pointer (some ⟨g6, 0, none⟩), u7, u8, u9, u10, u11, u12, u13, u14, u15, u16, u17, u18, u19, .func (.func 54) #[] #[.pointer (some ⟨W0.heap.size, 0, none⟩), .pointer (some ⟨W0.heap.size + 1, 0, none⟩)], u21, u22, u23, u24, u25, u26, u27, u28, u29, u30, u31, u32, u33], defers := ds } ((W0.alloc (.cells #[.slice (some a) m c] 28)).alloc (.cells #[.int .i64 16] 3)) := by
  obtain ⟨W1, hW1⟩ : ∃ W1, (W0.alloc (.cells #[.slice (some a) m c] 28)).alloc (.cells #[.int .i64 16] 3) = W1 := ⟨_, rfl⟩
  have s1 : W1.heap.size = W0.heap.size + 2 := by rw [← hW1]; simp
  have o1 : ∀ k, k < W0.heap.size → W1.heap[k]? = W0.heap[k]? := fun k hk => by rw [← hW1, Below.heap_alloc _ _ _ (by simp; omega), Below.heap_alloc _ _ _ hk]
  have n1 : W1.heap[W0.heap.size]? = some (.cells #[.slice (some a) m c] 28 (0, 0)) := by rw [← hW1, Below.heap_alloc _ _ _ (by simp)]; exact World.alloc_heap_new _ _
  have n2 : W1.heap[W0.heap.size + 1]? = some (.cells #[.int .i64 16] 3 (0, 0)) := by
    rw [← hW1]
    have := World.alloc_heap_new (W0.alloc (.cells #[.slice (some a) m c] 28)) (.cells #[.int .i64 16] 3)
    rwa [World.size_alloc] at this
  have hb1 : Bw w W1 := by rw [← hW1]; exact (hwW.alloc hwW.size _).alloc (by simp; exact Nat.le_trans hwW.size (Nat.le_succ _)) _
  rw [hW1]
  clear hW1
  have hlt : ∀ z, ∀ x ∈ FT g4 g5 g6 hE z, x.2.1 < W1.heap.size := by intro z x hx; simp [FT] at hx; rcases hx with rfl | rfl | rfl <;> (simp only; omega)
  have hlt0 : ∀ z, ∀ x ∈ FT g4 g5 g6 hE z, x.2.1 < W0.heap.size := by intro z x hx; simp [FT] at hx; rcases hx with rfl | rfl | rfl <;> (simp only; omega)
  refine wpIn_rangeFunc_ownF (w0 := W1) rfl (by decide : 1 ≤ 3) (gf := 54) (lb := #[.pointer (some ⟨W0.heap.size, 0, none⟩), .pointer (some ⟨W0.heap.size + 1, 0, none⟩)]) rfl True.intro (enters_of Tryd.func54 (by kernel_rfl) rfl)
    (chunk_stops 2 (by decide) W0.heap.size (W0.heap.size + 1) a (some a) m c (fun _ => rfl) hmc hm W1 (by omega) (by omega) (cell_blk n1 rfl) (cell_blk n2 rfl)) kpc_t (kpc_put (by omega) (by omega)) (Below.refl _ _) (fun _ => rfl)
    (fun pre W => RF w W1 (FT g4 g5 g6 hE (foldC hE f m y pre)) W) (fun _ _ _ => False) (rf_own (fun pre => FT g4 g5 g6 hE (foldC hE f m y pre)) hb1.size (fun s => hlt _)) (fun _ _ _ _ _ hs _ _ => hs)
    ⟨⟨hb1, Nat.le_refl _, fun x hx => (o1 _ (hlt0 _ x hx)).trans (h0.2.2 x hx)⟩, fun _ _ _ => rfl⟩
    (fun x => { tmps := #[u0, u1, u2, u3, u4, .pointer (some ⟨g5, 0, none⟩), .pointer (some ⟨g6, 0, none⟩), u7, u8, chk a m x, u10, u11, u12, u13, u14, u15, u16, u17, u18, u19, .func (.func 54) #[] #[.pointer (some ⟨W0.heap.size, 0, none⟩), .pointer (some ⟨W0.heap.size + 1, 0, none⟩)], chk a m x, u22, u23, u24, u25, u26, u27, u28, u29, u30, u31, u32, u33], defers := [] }) ?assign ?body ?done ?stop
  case assign =>
    intro l x W K hK
    unfold foldA
    simp only [Tryd.f45, Option.bind, rfOf, rfA, Option.orElse]
    have hs : ∀ (ρ : Operand → Value) (o : Oper), (∀ c, o.op ≠ .defer c) → o.semAt (some l) ρ = execOp ρ o := fun ρ o h => Oper.semAt_some l ρ o h
    gi_wp2
    exact hK
  case stop =>
    rintro D c pre W _ _ h _
    exact h.elim
  case body =>
    intro l pre x W hI hpl
    obtain ⟨z, hz⟩ : ∃ z, foldC hE f m y pre = z := ⟨_, rfl⟩
    rw [hz] at hI
    have hrel := rel_mk (ρ := FR g4 g5 g6) (L := FT g4 g5 g6 hE z) hI.1.1 (by intro x hx; simp [FT] at hx; rcases hx with rfl | rfl | rfl <;> rfl)
      (fun x hx => ⟨by simp [FT] at hx; rcases hx with rfl | rfl | rfl <;> (simp only; omega), hI.1.2.2 x hx⟩)
      (by intro x hx y hy; simp [FT] at hx hy; rcases hx with rfl | rfl | rfl <;> rcases hy with rfl | rfl | rfl <;> first | (intro _; rfl) | (intro e; exfalso; simp only at e; omega))
      [.v (u0), .v (u1), .v (u2), .v (u3), .v (u4), .p 5 0, .p 6 0, .v (u7), .v (u8), .v (chk a m x), .v (u10), .v (u11), .v (u12), .v (u13), .v (u14), .v (u15), .v (u16), .v (u17), .v (u18), .v (u19), .v (.func (.func 54) #[] #[.pointer (some ⟨W0.heap.size, 0, none⟩), .pointer (some ⟨W0.heap.size + 1, 0, none⟩)]), .v (chk a m x), .v (u22), .v (u23), .v (u24), .v (u25), .v (u26), .v (u27), .v (u28), .v (u29), .v (u30), .v (u31), .v (u32), .v (u33)]
    refine fold_body (LL := FT g4 g5 g6 hE z) (.inr ⟨l, rfl⟩) x (N := min 16 (m - 16 * x)) (by omega) hf (fun j v hj => ?_) u0 u1 u2 u3 u4 u7 u8 u10 u11 u12 u13 u14 u15 u16 u17 u18 u19 u22 u23 u24 u25 u26 u27 u28 u29 u30 u31 u32 u33 (FR g4 g5 g6) W _ hrel ?_
    · rw [add_add]
      obtain ⟨hj1, hj2⟩ := List.getElem?_eq_some_iff.1 hj
      rw [tb_len] at hj1
      refine hsrc _ _ ?_
      rw [tb_get (by omega)] at hj ⊢
      exact hj
    · rintro e ρ' s' W2 ⟨rfl, q4, q5, q6, p4, p5, p6, p803, p805⟩ hr'
      have b4 := rel_arr hr' q4 p4
      have b5 := rel_arr hr' q5 p5
      have b6 := rel_arr hr' q6 p6
      obtain ⟨hb, hsz, hfr⟩ := rel_end hI.1.1 hr' p803 p805
      have hB2 := hI.1.2.1
      have hne : ∀ k, W0.heap.size ≤ k → ∀ x ∈ FT g4 g5 g6 hE z, x.2.1 ≠ k := by intro k hk x hx; simp [FT] at hx; rcases hx with rfl | rfl | rfl <;> (simp only; omega)
      refine ⟨(ri_keeps hI.1 hsz hfr), kpc_of (hfr _ (by omega) (hne _ (by omega))) (hfr _ (by omega) (hne _ (by omega))), ⟨hb, Nat.le_trans hB2 hsz, ?_⟩, fun k hk hx => ?_⟩
      · rw [foldC_s, hz]
        intro x hx; simp [FT] at hx; rcases hx with rfl | rfl | rfl
        · exact b4
        · exact b5
        · exact b6
      · have hx' : ∀ x ∈ FT g4 g5 g6 hE z, x.2.1 ≠ k := by
          intro x' hx'; simp [FT] at hx'; rcases hx' with rfl | rfl | rfl
          · exact hx (4, g4, tb 16 fun _ => 0, 67) (by simp [FT])
          · exact hx (5, g5, [dv hE.1, dv hE.2], 101) (by simp [FT])
          · have h := hx _ (List.Mem.tail _ (List.Mem.tail _ (List.Mem.head _)))
            exact h
        exact (hfr k (by omega) hx').trans (hI.2 k hk hx')
  case done =>
    rintro D xs W hD rfl hI hK
    refine hQ D W (by omega) ⟨⟨hI.1.1, by have := hI.1.2.1; omega, hI.1.2.2⟩, fun k hk hx => (hI.2 k (by omega) hx).trans (o1 k hk)⟩ hK
end Go.Proofs.YtiidceljhmpgcaaDoor
end
section
namespace Go.Proofs.YtiidceljhmpgcaaDoor
open Go.RowKit Go.Vx Go.Shelf
set_option maxHeartbeats 4000000
set_option maxRecDepth 100000
theorem dnext {F : Fence} {n : Nat} {df : List Deferred} {P : Program} {w0 w : World} {s S' : VS} {ρ : Nat → Nm} {c d : Code} {Q : Exit → Act → World → Prop} (hr : Rel w0 ρ s w) (h : DOk F n df P w0 s c (fun e s' => e = .normal ∧ s' = S'))
    (k : ∀ ρ' w', Rel w0 ρ' S' w' → d.wpIn F n P Q ⟨(S'.act ρ').tmps, df⟩ w') : (Code.seq c d).wpIn F n P Q ⟨(s.act ρ).tmps, df⟩ w :=
  wpIn_seq (h ρ w _ hr (by rintro e ρ' s' w' ⟨rfl, rfl⟩ hr'; exact k ρ' w' hr'))
theorem leaves3 {F : Fence} {n : Nat} {P : Program} {fn : Func} {R : Ending → World → Prop} {tmps : Array Value} {W : World} {D1 D2 D3 : Nat} (h1 : W.heap[D1]? = some (.deferred (some []))) (h2 : W.heap[D2]? = some (.deferred (some []))) (h3 : W.heap[D3]? = some (.deferred (some [])))
    (n1 : D1 < D2) (n2 : D2 < D3) (k : ∃ v, (results fn tmps).run P (((W.putObj D3 (.deferred none)).putObj D2 (.deferred none)).putObj D1 (.deferred none)) = .ok v (((W.putObj D3 (.deferred none)).putObj D2 (.deferred none)).putObj D1 (.deferred none)) ∧ R (.returned v) (((W.putObj D3 (.deferred none)).putObj D2 (.deferred none)).putObj D1 (.deferred none))) :
    bodyPostM F n P fn R .ret { tmps := tmps, defers := [{ target := .collected D3, args := #[] }, { target := .collected D2, args := #[] }, { target := .collected D1, args := #[] }] } W := by
  refine ⟨by simp, .inl ⟨_, _, rfl, run_takeDeferred h3, by simp, .inl ⟨_, _, rfl, run_takeDeferred ((World.putObj_heap_other (by omega)).trans h2), by simp, .inl ⟨_, _, rfl, run_takeDeferred ((World.putObj_heap_other (by omega)).trans ((World.putObj_heap_other (by omega)).trans h1)), ?_⟩⟩⟩⟩
  exact k
theorem rel_block {w W : World} {s : VS} {ρ : Nat → Nm} {id : Nat} {l : List Value} {ty : TypeId} (hr : Rel w ρ s W) (h : s.mem id = some (.arr l ty)) : w.heap.size ≤ (ρ id).g ∧ W.heap[(ρ id).g]? = some (.cells l.toArray ty (0, 0)) := by
  obtain ⟨_, S, hR⟩ := hr
  exact hR.good id _ h
theorem rel_ne {w W : World} {s : VS} {ρ : Nat → Nm} {i j : Nat} {l l' : List Value} {ty ty' : TypeId} (hr : Rel w ρ s W) (h : s.mem i = some (.arr l ty)) (h' : s.mem j = some (.arr l' ty')) (hne : i ≠ j) : (ρ i).g ≠ (ρ j).g := by
  obtain ⟨_, S, hR⟩ := hr
  exact fun e => hne (hR.inj i _ j _ h True.intro h' True.intro e)
theorem rel_only {w W W' : World} {s : VS} {ρ : Nat → Nm} {id : Nat} {l : List Value} {ty : TypeId} (hr : Rel w ρ s W) (h : s.mem id = some (.arr l ty)) (hb : Bw w W') (hh : W'.heap[(ρ id).g]? = W.heap[(ρ id).g]?) : Rel w ρ ⟨s.fr, memOf [(id, .arr l ty)]⟩ W' := by
  have hb0 := rel_block hr h
  have cs : ∀ i b, memOf [(id, .arr l ty)] i = some b → i = id ∧ b = .arr l ty := fun i b hi => by
    have := memOf_mem hi
    simpa using this
  refine ⟨hb, fun _ _ => False, ⟨fun i b hi => ?_, fun _ _ _ h => h.elim, fun _ _ _ h => h.elim, fun _ _ _ _ _ _ h => h.elim, fun i b j c hi _ hj _ _ => (cs i b hi).1.trans (cs j c hj).1.symm⟩⟩
  obtain ⟨rfl, rfl⟩ := cs i b hi
  exact ⟨hb0.1, hh.trans hb0.2⟩
def fold3 (hE : El) (m1 m2 m3 : Nat) (f1 f2 f3 : Nat → Nat) : El :=
  foldC hE f3 m3 (foldC hE f2 m2 (foldC hE f1 m1 (0, 0) (List.range ((m1 + 15) / 16))) (List.range ((m2 + 15) / 16))) (List.range ((m3 + 15) / 16))
theorem fold_in {w : World} {hf : Nat → Nat} {gp : Nat} {a1 a2 a3 : Addr} {pc m1 m2 m3 c1 c2 c3 : Nat} {f1 f2 f3 : Nat → Nat} (hhf : By hf) (hf1 : By f1) (hf2 : By f2) (hf3 : By f3) (hp1 : w.cell? ⟨gp, 0, none⟩ = some (.slice (some a1) m1 c1)) (hp2 : w.cell? ⟨gp, 1, none⟩ = some (.slice (some a2) m2 c2)) (hp3 : w.cell? ⟨gp, 2, none⟩ = some (.slice (some a3) m3 c3))
    (hm1 : m1 ≤ c1) (hm2 : m2 ≤ c2) (hm3 : m3 ≤ c3) (hn1 : m1 < 1073741824) (hn2 : m2 < 1073741824) (hn3 : m3 < 1073741824) (hs1 : ∀ j v, (tb m1 f1)[j]? = some v → w.cell? (a1.add j) = some v) (hs2 : ∀ j v, (tb m2 f2)[j]? = some v → w.cell? (a2.add j) = some v) (hs3 : ∀ j v, (tb m3 f3)[j]? = some v → w.cell? (a3.add j) = some v) :
    CallsIn Fence.wide 3 Tryd.prog 45 #[A16 hf, .slice (some ⟨gp, 0, none⟩) 3 pc] w fun e w' => e = .returned (A16 (byF (fold3 (ofE hf) m1 m2 m3 f1 f2 f3))) ∧ Bw w w' := by
  refine callsIn_of_wp_marks Tryd.func45 rfl True.intro ?_ rfl
  simp only [Tryd.ntmps45, List.size_toArray, List.length_cons, List.length_nil, Nat.reduceAdd, Nat.reduceSub, Array.replicate_succ, Array.replicate_zero, List.push_toArray, List.append_toArray, List.nil_append, List.cons_append]
  have hr0 : Rel w (fun _ => default) ⟨[.v (A16 hf), .v (.slice (some ⟨gp, 0, none⟩) 3 pc), .v undef, .v undef, .v undef, .v undef, .v undef, .v undef, .v undef, .v undef, .v undef, .v undef, .v undef, .v undef, .v undef, .v undef, .v undef, .v undef, .v undef, .v undef, .v undef, .v undef, .v undef, .v undef, .v undef, .v undef, .v undef, .v undef, .v undef, .v undef, .v undef, .v undef, .v undef, .v undef], memOf []⟩ w := rel_none w _ _
  apply dnext hr0
  · apply drp (Or.inl rfl)
    · apply VE.cons
      · exact ev_boxr rfl rfl (gn rfl) rfl (cells_tb 16 hf)
      simp only [nm, seval]
      apply VE.cons
      · exact ev_allocr (l := tb 16 fun _ => 0) rfl rfl (gn rfl) Tryd.zeroValue67 rfl
      simp only [nm, seval]
      exact VE.nil _
    · kernel_rfl
    exact ⟨rfl, rfl⟩
  intro ρ1 w1 hr1
  apply dnext hr1
  · apply drp (Or.inl rfl)
    · apply VE.cons
      · exact ev_slicea rfl (gn rfl) rfl Tryd.underlying67 Tryd.sizeOf5
      simp only [nm, seval]
      apply VE.cons
      · exact ev_callp (v := EV (ofE hf)) [2] rfl (gn rfl) rfl (en_of Tryd.func46 (by kernel_rfl) rfl) (fun ρ S w' hb hR => by obtain ⟨S1, h⟩ := rdg_arr (w0 := w) (off := 0) (len := 16) (cap := 16) (size := 1) (l := tb 16 hf) (by exact rfl) (by rw [List.drop_zero]; exact List.take_of_length_le (by rw [tb_len]; decide)) tb_len (Nat.le_refl _) ρ S w' hb hR; exact of_ok w' h hhf)
      simp only [nm, seval]
      apply VE.cons
      · exact ev_allocr (l := [dv 0, dv 0]) rfl rfl (gn rfl) Tryd.zeroValue101 rfl
      simp only [nm, seval]
      apply VE.cons
      · exact ev_storer rfl (gn rfl) rfl rfl rfl Tryd.sizeOf101 rfl (Nat.le_refl _) rfl rfl
      simp only [nm, seval]
      exact VE.nil _
    · kernel_rfl
    exact ⟨rfl, rfl⟩
  intro ρ2 w2 hr2
  apply dnext hr2
  · apply drp (Or.inl rfl)
    · apply VE.cons
      · exact ev_allocr (l := [dv 0, dv 0]) rfl rfl (gn rfl) Tryd.zeroValue101 rfl
      simp only [nm, seval]
      exact VE.nil _
    · kernel_rfl
    exact ⟨rfl, rfl⟩
  intro ρ3 w3 hr3
  refine wpIn_seq ?_
  apply dnext hr3
  · apply drp (Or.inl rfl)
    · apply VE.cons
      · exact ev_move rfl (gn rfl)
      simp only [nm, seval]
      apply VE.cons
      · exact ev_lenc rfl (gn rfl) rfl Tryd.underlying23
      simp only [nm, seval]
      apply VE.cons
      · exact ev_move rfl (gn rfl)
      simp only [nm, seval]
      exact VE.nil _
    · kernel_rfl
    exact ⟨rfl, rfl⟩
  intro ρ4 w4 hr4
  have b4 := rel_block hr4 (id := 4) rfl
  have b5 := rel_block hr4 (id := 5) rfl
  have b6 := rel_block hr4 (id := 6) rfl
  have e1 := rel_ne hr4 (i := 4) (j := 5) rfl rfl (by decide)
  have e2 := rel_ne hr4 (i := 4) (j := 6) rfl rfl (by decide)
  have e3 := rel_ne hr4 (i := 5) (j := 6) rfl rfl (by decide)
  have hb4 : Bw w w4 := hr4.1
  have hb : ∀ {W : World}, Bw w W → W.cell? ⟨gp, 0, none⟩ = some (.slice (some a1) m1 c1) ∧ W.cell? ⟨gp, 1, none⟩ = some (.slice (some a2) m2 c2) ∧ W.cell? ⟨gp, 2, none⟩ = some (.slice (some a3) m3 c3) := fun hb => by
    exact ⟨hb.cell hp1, hb.cell hp2, hb.cell hp3⟩
  have c4 := (hb hb4).1
  have h0 : RI w w4.heap.size (FT (ρ4 4).g (ρ4 5).g (ρ4 6).g (ofE hf) (0, 0)) w4 := ⟨hb4, Nat.le_refl _, by
    intro x hx; simp [FT] at hx; rcases hx with rfl | rfl | rfl
    · exact b4.2
    · exact b5.2
    · exact b6.2⟩
  have hl : (ρ4 4).g < w4.heap.size ∧ (ρ4 5).g < w4.heap.size ∧ (ρ4 6).g < w4.heap.size := ⟨(Array.getElem?_eq_some_iff.1 b4.2).1, (Array.getElem?_eq_some_iff.1 b5.2).1, (Array.getElem?_eq_some_iff.1 b6.2).1⟩
  have hg : w.heap.size ≤ (ρ4 4).g ∧ w.heap.size ≤ (ρ4 5).g ∧ w.heap.size ≤ (ρ4 6).g := ⟨b4.1, b5.1, b6.1⟩
  simp only [VS.act, List.map_cons, List.map_nil, SV.c]
  clear hr1 hr2 hr3 hr4 hr0
  clear b4 b5 b6
  refine wpIn_block ?_
  refine wpIn_loop_rounds 4 ?_
  rw [roundsIn_succ]
  have h42 : Fence.wide.fn 42 := True.intro
  gi_wp2_with (gi_at_call 42; refine (chunk_ok 2 _ _ _ _).mono ?_; rintro e w5 ⟨rfl, rfl⟩)
  refine fold_part hb4 hf1 hm1 hn1 hs1 h0 hg ⟨e1, e2, e3⟩ hl _ _ _ _ _ _ _ _ _ _ _ _ _ _ _ _ _ _ _ _ _ _ _ _ _ _ _ _ _ _ _ ?_
  intro D1 W1 hD1 hF1 hK1
  have c5 := (hb hF1.1.1).2.1
  have hz1 := hF1.1.2.1
  dsimp only
  gi_wp2
  rw [roundsIn_succ]
  gi_wp2_with (gi_at_call 42; refine (chunk_ok 2 _ _ _ _).mono ?_; rintro e w5 ⟨rfl, rfl⟩)
  refine fold_part hF1.1.1 hf2 hm2 hn2 hs2 ⟨hF1.1.1, Nat.le_refl _, hF1.1.2.2⟩ hg ⟨e1, e2, e3⟩ ⟨by omega, by omega, by omega⟩ _ _ _ _ _ _ _ _ _ _ _ _ _ _ _ _ _ _ _ _ _ _ _ _ _ _ _ _ _ _ _ ?_
  intro D2 W2 hD2 hF2 hK2
  have c6 := (hb hF2.1.1).2.2
  have hz2 := hF2.1.2.1
  dsimp only
  gi_wp2
  rw [roundsIn_succ]
  gi_wp2_with (gi_at_call 42; refine (chunk_ok 2 _ _ _ _).mono ?_; rintro e w5 ⟨rfl, rfl⟩)
  refine fold_part hF2.1.1 hf3 hm3 hn3 hs3 ⟨hF2.1.1, Nat.le_refl _, hF2.1.2.2⟩ hg ⟨e1, e2, e3⟩ ⟨by omega, by omega, by omega⟩ _ _ _ _ _ _ _ _ _ _ _ _ _ _ _ _ _ _ _ _ _ _ _ _ _ _ _ _ _ _ _ ?_
  intro D3 W3 hD3 hF3 hK3
  have hz3 := hF3.1.2.1
  dsimp only
  gi_wp2
  rw [roundsIn_succ]
  have hd1 : D1 < W1.heap.size := (Array.getElem?_eq_some_iff.1 hK1).1
  have hd2 : D2 < W2.heap.size := (Array.getElem?_eq_some_iff.1 hK2).1
  have hd3 : D3 < W3.heap.size := (Array.getElem?_eq_some_iff.1 hK3).1
  have hne : ∀ z, ∀ k, w4.heap.size ≤ k → ∀ x ∈ FT (ρ4 4).g (ρ4 5).g (ρ4 6).g (ofE hf) z, x.2.1 ≠ k := by
    intro z k hk x hx; simp [FT] at hx; rcases hx with rfl | rfl | rfl <;> (simp only; omega)
  have k2 : W2.heap[D1]? = some (.deferred (some [])) := (hF2.2 D1 hd1 (hne _ _ hD1)).trans hK1
  have k3 : W3.heap[D1]? = some (.deferred (some [])) := (hF3.2 D1 (by omega) (hne _ _ hD1)).trans k2
  have k4 : W3.heap[D2]? = some (.deferred (some [])) := (hF3.2 D2 hd2 (hne _ _ (by omega))).trans hK2
  obtain ⟨z, hz⟩ : ∃ z, fold3 (ofE hf) m1 m2 m3 f1 f2 f3 = z := ⟨_, rfl⟩
  rw [hz]
  have hF3' : RI w W2.heap.size (FT (ρ4 4).g (ρ4 5).g (ρ4 6).g (ofE hf) z) W3 := by rw [← hz]; exact hF3.1
  have hrel := rel_mk (ρ := FR (ρ4 4).g (ρ4 5).g (ρ4 6).g) (L := FT (ρ4 4).g (ρ4 5).g (ρ4 6).g (ofE hf) z) hF3'.1 (by intro x hx; simp [FT] at hx; rcases hx with rfl | rfl | rfl <;> rfl)
    (fun x hx => ⟨by simp [FT] at hx; rcases hx with rfl | rfl | rfl <;> (simp only; omega), hF3'.2.2 x hx⟩)
    (by intro x hx y hy; simp [FT] at hx hy; rcases hx with rfl | rfl | rfl <;> rcases hy with rfl | rfl | rfl <;> first | (intro _; rfl) | (intro e; exfalso; simp only at e; omega))
  obtain ⟨DF, hDF⟩ : ∃ DF, ([{ target := .collected D3, args := #[] }, { target := .collected D2, args := #[] }, { target := .collected D1, args := #[] }] : List Deferred) = DF := ⟨_, rfl⟩
  rw [hDF]
  have hrel' : ∀ fr, Rel w (FR (ρ4 4).g (ρ4 5).g (ρ4 6).g) ⟨fr, memOf [(4, .arr (tb 16 fun _ => 0) 67), (5, .arr [dv (ofE hf).1, dv (ofE hf).2] 101), (6, .arr [dv z.1, dv z.2] 101), (1004, .pin 4 (ρ4 4).g), (1005, .pin 5 (ρ4 5).g), (1006, .pin 6 (ρ4 6).g), (803, .dat (frameD W3 (ownX w (FT (ρ4 4).g (ρ4 5).g (ρ4 6).g (ofE hf) z)))), (805, .floor W3.heap.size)]⟩ W3 := hrel
  apply dnext (hrel' (.v _ :: .v _ :: .v _ :: .v _ :: .p 4 0 :: .v _ :: .p 6 0 :: .v _ :: .v _ :: .v _ :: .v _ :: .v _ :: .v _ :: .v _ :: .v (.int .i64 3) :: .v (.int .i64 3) :: .v _ :: .v _ :: .v _ :: .v _ :: .v _ :: .v _ :: .v _ :: .v _ :: .v _ :: .v _ :: .v _ :: .v _ :: .v _ :: .v _ :: .v _ :: .v _ :: .v _ :: .v _ :: []))
  · apply drp (Or.inl rfl)
    · apply VE.cons
      · exact ev_lss (p := false) rfl (gn rfl) rfl rfl (by decide)
      simp only [nm, seval]
      exact VE.nil _
    · kernel_rfl
    exact ⟨rfl, rfl⟩
  intro ρ5 w5 hr5
  refine wpIn_seq ?_
  refine wpIn_cond (t := false) rfl ?_
  refine wpIn_exit ?_
  change Code.wpIn _ _ _ _ _ _ _
  apply dnext hr5
  · apply drp (Or.inl rfl)
    · apply VE.cons
      · exact ev_loadr rfl (gn rfl) rfl rfl Tryd.underlying101 rfl Tryd.sizeOf101 rfl rfl
      simp only [nm, seval]
      apply VE.cons
      · exact ev_callb rfl (gn rfl) rfl (en_of Tryd.func44 (by kernel_rfl) rfl) (fun w' hb => bytes_ok w')
      simp only [nm, seval]
      apply VE.cons
      · exact ev_sta rfl (gn rfl) rfl rfl rfl Tryd.sizeOf67
      simp only [nm, seval]
      exact VE.nil _
    · kernel_rfl
    exact ⟨rfl, rfl⟩
  intro ρ6 w6 hr6
  refine wpIn_ret ?_
  have hrel6 := rel_end hF3'.1 hr6 rfl rfl
  have hg6 := rel_arr hr6 (id := 4) rfl rfl
  have q1 : w6.heap[D1]? = some (.deferred (some [])) := (hrel6.2.2 D1 (by omega) (hne _ _ hD1)).trans k3
  have q2 : w6.heap[D2]? = some (.deferred (some [])) := (hrel6.2.2 D2 (by omega) (hne _ _ (by omega))).trans k4
  have q3 : w6.heap[D3]? = some (.deferred (some [])) := (hrel6.2.2 D3 hd3 (hne _ _ (by omega))).trans hK3
  have hsz := hb4.size
  rw [← hDF]
  refine leaves3 q1 q2 q3 (by omega) (by omega) ?_
  have hB8 : Bw w (((w6.putObj D3 (.deferred none)).putObj D2 (.deferred none)).putObj D1 (.deferred none)) :=
    ((Below.trans hrel6.1 (belowK_b (w := w) (Nat.le_refl _) w6 D3 _ _ (by omega) q3 rfl rfl)).trans (belowK_b (w := w) (Nat.le_refl _) _ D2 _ _ (by omega) ((World.putObj_heap_other (by omega)).trans q2) rfl rfl)).trans (belowK_b (w := w) (Nat.le_refl _) _ D1 _ _ (by omega) ((World.putObj_heap_other (by omega)).trans ((World.putObj_heap_other (by omega)).trans q1)) rfl rfl)
  have hpin : (ρ6 4).g = (ρ4 4).g := by
    obtain ⟨_, S, hR⟩ := hr6
    exact hR.good 1004 _ rfl
  have hr8 := rel_only hr6 (id := 4) rfl hB8 (by rw [hpin]; exact (World.putObj_heap_other (by omega)).trans ((World.putObj_heap_other (by omega)).trans (World.putObj_heap_other (by omega))))
  have key : ∀ {s : VS} {ρ : Nat → Nm} {W : World}, Rel w ρ s W → svEval s (.tmp 4) = .p 4 0 → s.mem 4 = some (.arr (tb 16 (byF z)) 67) → (results Tryd.f45 (s.act ρ).tmps).run Tryd.prog W = .ok (A16 (byF z)) W :=
    fun hr h1 h2 => (res1 Tryd.results45 (rv_tb h1 h2 Tryd.underlying67 rfl Tryd.sizeOf67)) _ _ hr
  have hv := key hr8 rfl rfl
  exact ⟨_, hv, rfl, hB8⟩
end Go.Proofs.YtiidceljhmpgcaaDoor
end
section
namespace Go.Proofs.YtiidceljhmpgcaaDoor
open Go.RowKit Go.Vx
open Go.Toll (Gw)
open TollSha
set_option maxHeartbeats 4000000
set_option maxRecDepth 100000
theorem turn_ok {p v : Value} {kf h nc f : Nat → Nat} {F S : Nat → Prop} {m : Nat} (w : World) (hB : BoxAt w p kf h F) (hkf : By kf) (hnc : By nc) (hf : By f) (hv : SlAt w v m 1 (tb m f) S) (hm0 : 0 < m) (hm : m < 1073741824) :
    Calls Tryd.prog 28 #[p, .agg (tb 12 nc).toArray, v] w fun e w' => ∃ v', e = .returned v' ∧ RetRow w w' v' m 1 5 (tb m (turnF kf nc f)) ∧ Bw w w' := by
  obtain ⟨ao, c, rfl, hc, _, h⟩ := hv
  rcases h with h | ⟨a, rfl, _, h⟩
  · have := congrArg List.length h
    rw [tb_len] at this
    simp at this; omega
  · exact callsIn_wide.1 (turn_in w hB hkf hnc hf hc h hm)
theorem box_h {w : World} {g : Nat} {kp : Value} {h : Nat → Nat} (hg : w.heap[g]? = some (.cells (boxL kp h).toArray 70 (0, 0))) : ∀ (j : Nat) (v : Value), (tb 16 h)[j]? = some v → w.cell? ⟨g, 1 + j, none⟩ = some v := fun j v hj => by
  have hj2 : j < 16 := by
    have := (List.getElem?_eq_some_iff.1 hj).1
    rwa [tb_len] at this
  rw [tb_get hj2] at hj
  injection hj with hj
  subst hj
  exact cell_blk hg (boxL_i kp h hj2)
def lenE (ma m : Nat) : El := (BitVec.ofNat 64 ma <<< 3, BitVec.ofNat 64 m <<< 3)
def tagF (kf h nc f : Nat → Nat) (m : Nat) (fa : Nat → Nat) (ma : Nat) : Nat → Nat :=
  byF (addE (ofE (byF (fold3 (ofE h) ma m 16 fa f (byF (lenE ma m))))) (ofE (padF kf nc 1#32)))
theorem c_fold {w0 : World} {ρ : Nat → Nm} {S : Nat → Nat → Prop} {w : World} {m : Mem} {ma mm i j : Nat} {h fa f l : Nat → Nat} {va v : Value} {F G : Nat → Prop} (hR : RelOn w0.heap.size ρ S w (restr [i, j] m)) (hb : Bw w0 w) (h29 : m i = some (.cells [.v va, .v v, .s j 0 16 16] 28)) (h9 : m j = some (.arr (tb 16 l) 67))
    (hva : SlAt w0 va ma 1 (tb ma fa) G) (hv : SlAt w0 v mm 1 (tb mm f) F) (hm0 : 0 < mm) (hma0 : 0 < ma) (hm : mm < 1073741824) (hma : ma < 1073741824) (hh : By h) (hfa : By fa) (hf : By f) (hl : By l) :
    Calls Tryd.prog 45 (SV.cs ρ [.v (A16 h), .s i 0 3 3]).toArray w fun e w' => e = .returned (A16 (byF (fold3 (ofE h) ma mm 16 fa f l))) ∧ Bw w w' := by
  have g29 := (relon_get hR h29 (by simp)).2
  have g9 := (relon_get hR h9 (by simp)).2
  obtain ⟨ao, c, rfl, hc, _, hx⟩ := hv
  obtain ⟨ao', c', rfl, hc', _, hx'⟩ := hva
  rcases hx with hx | ⟨a, rfl, _, hx⟩
  · have := congrArg List.length hx
    rw [tb_len] at this
    simp at this; omega
  rcases hx' with hx' | ⟨a', rfl, _, hx'⟩
  · have := congrArg List.length hx'
    rw [tb_len] at this
    simp at this; omega
  have e29 : w.heap[(ρ i).g]? = some (.cells ([.slice (some a') ma c', .slice (some a) mm c, .slice (some ⟨(ρ j).g, 0, none⟩) 16 16] : List Value).toArray 28 (0, 0)) := by
    rw [g29]; simp only [cellsObj, SV.cs, SV.c]
  simp only [SV.cs, SV.c]
  refine callsIn_wide.1 (fold_in (gp := (ρ i).g) hh hfa hf hl (cell_blk e29 rfl) (cell_blk e29 rfl) (cell_blk e29 rfl) hc' hc (Nat.le_refl 16) hma hm (by decide) (fun k x hk => hb.cell (hx' k x hk)) (fun k x hk => hb.cell (hx k x hk)) (fun k x hk => ?_))
  rw [add_at, Nat.zero_add]
  exact cell_blk g9 hk
theorem tag_ok {p v va : Value} {kf h nc f fa : Nat → Nat} {F S G : Nat → Prop} {m ma : Nat} (w : World) (hB : BoxAt w p kf h F) (hkf : By kf) (hh : By h) (hnc : By nc) (hf : By f) (hfa : By fa) (hv : SlAt w v m 1 (tb m f) S) (hva : SlAt w va ma 1 (tb ma fa) G) (hm0 : 0 < m) (hma0 : 0 < ma) (hm : m < 1073741000) (hma : ma < 1073741000) : Calls Tryd.prog 29 #[p, .agg (tb 12 nc).toArray, v, va] w fun e w' => e = .returned (A16 (tagF kf h nc f m fa ma)) ∧ Bw w w' := by
  obtain ⟨gb, kp, hp, _, hg, _⟩ := id hB
  subst hp
  go_enter Tryd.func29, Tryd.ntmps29
  refine ve_go ?_
  simp only [List.map_cons, List.map_nil]
  refine vseq ?_
  apply vrp
  · apply VE.cons
    · exact ev_boxr rfl rfl (gn rfl) rfl (cells_tb 12 nc)
    simp only [nm, seval]
    apply VE.cons
    · exact ev_allocr (l := tb 16 fun _ => 0) rfl rfl (gn rfl) Tryd.zeroValue67 rfl
    simp only [nm, seval]
    exact VE.nil _
  · kernel_rfl
  change VOk _ _ _ _ _
  refine vseq ?_
  apply vrp
  · apply VE.cons
    · exact ev_move rfl (gn rfl)
    simp only [nm, seval]
    apply VE.cons
    · exact ev_len rfl (gn rfl) rfl Tryd.underlying28 (rdg_arg hva)
    simp only [nm, seval]
    apply VE.cons
    · exact ev_conv rfl (gn rfl) rfl (fun w => cvl64 (by omega) w)
    simp only [nm, seval]
    apply VE.cons
    · exact ev_bin rfl (gn rfl) rfl rfl (fun w => shld _ 3 (by decide) _ _ w)
    simp only [nm, seval]
    apply VE.cons
    · exact ev_move rfl (gn rfl)
    simp only [nm, seval]
    apply VE.cons
    · exact ev_len rfl (gn rfl) rfl Tryd.underlying28 (rdg_arg hv)
    simp only [nm, seval]
    apply VE.cons
    · exact ev_conv rfl (gn rfl) rfl (fun w => cvl64 (by omega) w)
    simp only [nm, seval]
    apply VE.cons
    · exact ev_bin rfl (gn rfl) rfl rfl (fun w => shld _ 3 (by decide) _ _ w)
    simp only [nm, seval]
    apply VE.cons
    · exact ev_build rfl (gn rfl) rfl (built101 _ _)
    simp only [nm, seval]
    apply VE.cons
    · exact ev_callb rfl (gn rfl) rfl (en_of Tryd.func44 (by kernel_rfl) rfl) (fun w' hb => bytes_ok (a0 := lenE ma m) w')
    simp only [nm, seval]
    apply VE.cons
    · exact ev_allocr (l := tb 16 fun _ => 0) rfl rfl (gn rfl) Tryd.zeroValue67 rfl
    simp only [nm, seval]
    apply VE.cons
    · exact ev_sta rfl (gn rfl) rfl rfl rfl Tryd.sizeOf67
    simp only [nm, seval]
    exact VE.nil _
  · kernel_rfl
  change VOk _ _ _ _ _
  refine vseq ?_
  apply vrd (by kernel_rfl)
  · apply VE.cons
    · exact ev_move rfl (gn rfl)
    simp only [nm, seval]
    apply VE.cons
    · first | exact ev_nil rfl (gn rfl) rfl | exact ev_nilx rfl (gn rfl) rfl
    simp only [nm, seval]
    apply VE.cons
    · first | exact ev_field rfl (gn rfl) rfl Tryd.underlying70 rfl Tryd.sizeOf67 | exact ev_fieldx rfl (gn rfl) rfl Tryd.underlying70 rfl Tryd.sizeOf67
    simp only [nm, seval]
    apply VE.cons
    · exact ev_loadx (vs := tb 16 h) rfl (gn rfl) rfl Tryd.underlying67 rfl Tryd.sizeOf67 (box_h hg) tb_len
    simp only [nm, seval]
    apply VE.cons
    · exact ev_move rfl (gn rfl)
    simp only [nm, seval]
    apply VE.cons
    · exact ev_move rfl (gn rfl)
    simp only [nm, seval]
    apply VE.cons
    · exact ev_slicea rfl (gn rfl) rfl Tryd.underlying67 Tryd.sizeOf5
    simp only [nm, seval]
    apply VE.cons
    · exact ev_buildsl3 (e := 28) [9] rfl rfl (gn rfl) rfl rfl rfl (rdg_mono (rdg_arg hva) rfl) (rdg_mono (rdg_arg hv) rfl) ((rdg_arr (w0 := w) (off := 0) (len := 16) (cap := 16) (size := 1) (l := tb 16 (byF (lenE ma m))) (by exact rfl) (by rw [List.drop_zero]; exact List.take_of_length_le (by rw [tb_len]; decide)) tb_len (Nat.le_refl _))) rfl bsl3
    simp only [nm, seval]
    apply VE.cons
    · exact ev_callp (v := A16 (byF (fold3 (ofE h) ma m 16 fa f (byF (lenE ma m))))) [29, 9] rfl (gn rfl) rfl (en_of Tryd.func45 (by kernel_rfl) rfl) (fun ρ S w' hb hR => c_fold hR hb rfl rfl hva hv hm0 hma0 (by omega) (by omega) hh hfa hf (byF_by _))
    simp only [nm, seval]
    apply VE.cons
    · exact ev_allocr (l := tb 16 fun _ => 0) rfl rfl (gn rfl) Tryd.zeroValue67 rfl
    simp only [nm, seval]
    apply VE.cons
    · exact ev_sta rfl (gn rfl) rfl rfl rfl Tryd.sizeOf67
    simp only [nm, seval]
    exact VE.nil _
  · kernel_rfl
  change VOk _ _ _ _ _
  refine vseq ?_
  apply vrp
  · apply VE.cons
    · exact ev_move rfl (gn rfl)
    simp only [nm, seval]
    apply VE.cons
    · exact ev_ldt rfl (gn rfl) rfl rfl Tryd.underlying45 rfl Tryd.sizeOf45
    simp only [nm, seval]
    apply VE.cons
    · exact ev_callb rfl (gn rfl) rfl (en_of Tryd.func43 (by kernel_rfl) rfl) (fun w' hb => gpad_ok 1#32 w' (hB.bw hb) hkf hnc)
    simp only [nm, seval]
    apply VE.cons
    · exact ev_allocr (l := tb 16 fun _ => 0) rfl rfl (gn rfl) Tryd.zeroValue67 rfl
    simp only [nm, seval]
    apply VE.cons
    · exact ev_sta rfl (gn rfl) rfl rfl rfl Tryd.sizeOf67
    simp only [nm, seval]
    exact VE.nil _
  · kernel_rfl
  change VOk _ _ _ _ _
  refine vseq ?_
  apply vrd (by kernel_rfl)
  · apply VE.cons
    · exact ev_slicea rfl (gn rfl) rfl Tryd.underlying67 Tryd.sizeOf5
    simp only [nm, seval]
    apply VE.cons
    · exact ev_callp (v := EV (ofE (byF (fold3 (ofE h) ma m 16 fa f (byF (lenE ma m)))))) [10] rfl (gn rfl) rfl (en_of Tryd.func46 (by kernel_rfl) rfl) (fun ρ S w' hb hR => by obtain ⟨S1, h⟩ := (rdg_arr (w0 := w) (off := 0) (len := 16) (cap := 16) (size := 1) (l := tb 16 (byF (fold3 (ofE h) ma m 16 fa f (byF (lenE ma m))))) (by exact rfl) (by rw [List.drop_zero]; exact List.take_of_length_le (by rw [tb_len]; decide)) tb_len (Nat.le_refl _)) ρ S w' hb hR; exact of_ok w' h (byF_by _))
    simp only [nm, seval]
    apply VE.cons
    · exact ev_slicea rfl (gn rfl) rfl Tryd.underlying67 Tryd.sizeOf5
    simp only [nm, seval]
    apply VE.cons
    · exact ev_callp (v := EV (ofE (padF kf nc 1#32))) [11] rfl (gn rfl) rfl (en_of Tryd.func46 (by kernel_rfl) rfl) (fun ρ S w' hb hR => by obtain ⟨S1, h⟩ := (rdg_arr (w0 := w) (off := 0) (len := 16) (cap := 16) (size := 1) (l := tb 16 (padF kf nc 1#32)) (by exact rfl) (by rw [List.drop_zero]; exact List.take_of_length_le (by rw [tb_len]; decide)) tb_len (Nat.le_refl _)) ρ S w' hb hR; exact of_ok w' h (padF_by hkf hnc _))
    simp only [nm, seval]
    apply VE.cons
    · exact ev_callb rfl (gn rfl) rfl (en_of Tryd.func47 (by kernel_rfl) rfl) (fun w' hb => addE_ok w')
    simp only [nm, seval]
    apply VE.cons
    · exact ev_callb rfl (gn rfl) rfl (en_of Tryd.func44 (by kernel_rfl) rfl) (fun w' hb => bytes_ok w')
    simp only [nm, seval]
    apply VE.cons
    · exact ev_sta rfl (gn rfl) rfl rfl rfl Tryd.sizeOf67
    simp only [nm, seval]
    exact VE.nil _
  · kernel_rfl
  change VOk _ _ _ _ _
  refine vret ?_
  refine post_ret (res1 Tryd.results29 (rv_tb rfl rfl Tryd.underlying67 rfl Tryd.sizeOf67)) ?_
  intro ρ w' hr
  exact ⟨rfl, hr.1⟩
end Go.Proofs.YtiidceljhmpgcaaDoor
end
section
namespace Go.Proofs.YtiidceljhmpgcaaDoor
open Go.RowKit Go.Vx
open Go.Toll (Gw)
open TollSha
set_option maxHeartbeats 4000000
set_option maxRecDepth 100000
theorem turn_turn (kf nc f : Nat → Nat) : turnF kf nc (turnF kf nc f) = f := by
  funext j
  unfold turnF
  rw [Nat.xor_assoc, Nat.xor_self, Nat.xor_zero]
theorem c_tag {w0 : World} {ρ : Nat → Nm} {S1 : Nat → Nat → Prop} {w : World} {mm : Mem} {i : Nat} {p va : Value} {kf h nc f fa : Nat → Nat} {F G : Nat → Prop} {m ma : Nat} (hR : RelOn w0.heap.size ρ S1 w (restr [i] mm)) (hb : Bw w0 w) (hi : mm i = some (.row m 1 5 (.exact (tb m f)))) (hB : BoxAt w0 p kf h F) (hkf : By kf) (hh : By h) (hnc : By nc) (hf : By f) (hfa : By fa)
    (hva : SlAt w0 va ma 1 (tb ma fa) G) (hm0 : 0 < m) (hma0 : 0 < ma) (hm : m < 1073741000) (hma : ma < 1073741000) :
    Calls Tryd.prog 29 (SV.cs ρ [.v p, .v (.agg (tb 12 nc).toArray), .d i, .v va]).toArray w fun e w' => e = .returned (A16 (tagF kf h nc f m fa ma)) ∧ Bw w w' := by
  obtain ⟨S2, hv⟩ := rdg_row (w0 := w0) hi ρ S1 w hb hR
  exact tag_ok w (hB.bw hb) hkf hh hnc hf hfa hv (sl_bw hva hb) hm0 hma0 hm hma
theorem gSeal_ok {p v va : Value} {kf h nc f fa : Nat → Nat} {F S G : Nat → Prop} {m ma : Nat} (w : World) (hB : BoxAt w p kf h F) (hkf : By kf) (hh : By h) (hnc : By nc) (hf : By f) (hfa : By fa) (hv : SlAt w v m 1 (tb m f) S) (hva : SlAt w va ma 1 (tb ma fa) G) (hm0 : 0 < m) (hma0 : 0 < ma) (hm : m < 1073741000) (hma : ma < 1073741000) : Calls Tryd.prog 19 #[p, .agg (tb 12 nc).toArray, v, va] w fun e w' => ∃ v', e = .returned v' ∧ RetRow w w' v' (m + 16) 1 5 (tb m (turnF kf nc f) ++ tb 16 (tagF kf h nc (turnF kf nc f) m fa ma)) ∧ Bw w w' := by
  obtain ⟨gb, kp, hp, _⟩ := id hB
  subst hp
  go_enter Tryd.func19, Tryd.ntmps19
  refine ve_go ?_
  simp only [List.map_cons, List.map_nil]
  refine vseq ?_
  apply vrp
  · apply VE.cons
    · exact ev_boxr rfl rfl (gn rfl) rfl (cells_tb 12 nc)
    simp only [nm, seval]
    apply VE.cons
    · exact ev_assign rfl (gn rfl)
    simp only [nm, seval]
    exact VE.nil _
  · kernel_rfl
  change VOk _ _ _ _ _
  refine vseq ?_
  refine vseq ?_
  apply vrp
  · apply VE.cons
    · exact ev_move rfl (gn rfl)
    simp only [nm, seval]
    apply VE.cons
    · exact ev_bin (c := .bool false) rfl (gn rfl) rfl rfl (fun w => ptr42 _ _ _ w)
    simp only [nm, seval]
    exact VE.nil _
  · kernel_rfl
  change VOk _ _ _ _ _
  refine vcond_f rfl ?_
  refine vskip ?_
  change VOk _ _ _ _ _
  refine vseq ?_
  apply vrp
  · apply VE.cons
    · exact ev_move rfl (gn rfl)
    simp only [nm, seval]
    apply VE.cons
    · exact ev_ldt rfl (gn rfl) rfl rfl Tryd.underlying45 rfl Tryd.sizeOf45
    simp only [nm, seval]
    apply VE.cons
    · exact ev_move rfl (gn rfl)
    simp only [nm, seval]
    apply VE.cons
    · exact ev_callrow (l := tb m (turnF kf nc f)) [] rfl rfl (gn rfl) rfl (en_of Tryd.func28 (by kernel_rfl) rfl) (by rw [tb_len, Nat.mul_one]) (fun ρ S w' hb hR => turn_ok w' (hB.bw hb) hkf hnc hf (sl_bw hv hb) hm0 (by omega))
    simp only [nm, seval]
    apply VE.cons
    · exact ev_assign rfl (gn rfl)
    simp only [nm, seval]
    exact VE.nil _
  · kernel_rfl
  change VOk _ _ _ _ _
  refine vseq ?_
  apply vrp
  · apply VE.cons
    · exact ev_move rfl (gn rfl)
    simp only [nm, seval]
    apply VE.cons
    · exact ev_ldt rfl (gn rfl) rfl rfl Tryd.underlying45 rfl Tryd.sizeOf45
    simp only [nm, seval]
    apply VE.cons
    · exact ev_move rfl (gn rfl)
    simp only [nm, seval]
    apply VE.cons
    · exact ev_move rfl (gn rfl)
    simp only [nm, seval]
    apply VE.cons
    · exact ev_callp (v := A16 (tagF kf h nc (turnF kf nc f) m fa ma)) [16] rfl (gn rfl) rfl (en_of Tryd.func29 (by kernel_rfl) rfl) (fun ρ S w' hb hR => c_tag hR hb rfl hB hkf hh hnc (turnF_by hkf hnc hf) hfa hva hm0 hma0 hm hma)
    simp only [nm, seval]
    apply VE.cons
    · exact ev_allocr (l := tb 16 fun _ => 0) rfl rfl (gn rfl) Tryd.zeroValue67 rfl
    simp only [nm, seval]
    apply VE.cons
    · exact ev_sta rfl (gn rfl) rfl rfl rfl Tryd.sizeOf67
    simp only [nm, seval]
    exact VE.nil _
  · kernel_rfl
  change VOk _ _ _ _ _
  refine vseq ?_
  apply vrp
  · apply VE.cons
    · exact ev_move rfl (gn rfl)
    simp only [nm, seval]
    apply VE.cons
    · exact ev_slicea rfl (gn rfl) rfl Tryd.underlying67 Tryd.sizeOf5
    simp only [nm, seval]
    apply VE.cons
    · exact ev_append rfl rfl (gn rfl) rfl rfl rfl (rdg_arr (w0 := w) (off := 0) (len := 16) (cap := 16) (size := 1) (l := tb 16 (tagF kf h nc (turnF kf nc f) m fa ma)) (by exact rfl) (by rw [List.drop_zero]; exact List.take_of_length_le (by rw [tb_len]; decide)) tb_len (Nat.le_refl _)) Tryd.underlying28 el5 (by decide) (by rw [tb_len, Nat.mul_one]) tb_one (by simp only [maxLen]; omega) (by omega) (by rw [tb_len])
    simp only [nm, seval]
    apply VE.cons
    · exact ev_assign rfl (gn rfl)
    simp only [nm, seval]
    exact VE.nil _
  · kernel_rfl
  change VOk _ _ _ _ _
  refine vret ?_
  refine post_ret (res1 Tryd.results19 (rv_tmp rfl)) ?_
  intro ρ w' hr
  exact ⟨_, rfl, ret_row (id := 24) hr rfl, hr.1⟩
end Go.Proofs.YtiidceljhmpgcaaDoor
end
section
namespace Go.Proofs.YtiidceljhmpgcaaDoor
open Go.RowKit Go.Vx
open Go.Toll (Gw)
open TollSha
set_option maxHeartbeats 4000000
set_option maxRecDepth 100000
theorem tbr_take {n k : Nat} {f : Nat → Nat} {r : List Value} (h : k ≤ n) : (tb n f ++ r).take k = tb k f := by
  rw [List.take_append_of_le_length (by rw [tb_len]; exact h)]; exact tb_take _ _ _ h
theorem sl_head {w : World} {v : Value} {m k : Nat} {g t : Nat → Nat} {S : Nat → Prop} (h : SlAt w v (m + k) 1 (tb m g ++ tb k t) S) : SlAt w (cutV 0 m 1 v) m 1 (tb m g) S := by
  have := sl_cut (lo := 0) (hi := m) h (Nat.zero_le _) (by omega)
  rw [Nat.zero_mul, List.drop_zero, Nat.mul_one, Nat.sub_zero, tbr_take (Nat.le_refl _)] at this
  exact this
theorem sl_tail {w : World} {v : Value} {m k : Nat} {g t : Nat → Nat} {S : Nat → Prop} (h : SlAt w v (m + k) 1 (tb m g ++ tb k t) S) : SlAt w (cutV m (m + k) 1 v) k 1 (tb k t) S := by
  have := sl_cut (lo := m) (hi := m + k) h (by omega) (Nat.le_refl _)
  rw [Nat.mul_one, Nat.mul_one, Nat.add_sub_cancel_left, List.drop_append_of_le_length (by rw [tb_len]; exact Nat.le_refl _), List.drop_of_length_le (by rw [tb_len]; exact Nat.le_refl _), List.nil_append, List.take_of_length_le (by rw [tb_len]; exact Nat.le_refl _)] at this
  exact this
theorem gOpen_ok {p v va : Value} {kf h nc f fa : Nat → Nat} {F S G : Nat → Prop} {m ma : Nat} (w : World) (hB : BoxAt w p kf h F) (hkf : By kf) (hh : By h) (hnc : By nc) (hf : By f) (hfa : By fa) (hv : SlAt w v (m + 16) 1 (tb m (turnF kf nc f) ++ tb 16 (tagF kf h nc (turnF kf nc f) m fa ma)) S) (hva : SlAt w va ma 1 (tb ma fa) G) (hm0 : 0 < m) (hma0 : 0 < ma) (hm : m < 1073741000) (hma : ma < 1073741000) : Calls Tryd.prog 22 #[p, .agg (tb 12 nc).toArray, v, va] w fun e w' => ∃ v', e = .returned (.tuple #[v', .int .i64 0]) ∧ RetRow w w' v' m 1 5 (tb m f) ∧ Bw w w' := by
  obtain ⟨gb, kp, hp, _⟩ := id hB
  subst hp
  go_enter Tryd.func22, Tryd.ntmps22
  refine ve_go ?_
  simp only [List.map_cons, List.map_nil]
  refine vseq ?_
  apply vrp
  · apply VE.cons
    · exact ev_boxr rfl rfl (gn rfl) rfl (cells_tb 12 nc)
    simp only [nm, seval]
    apply VE.cons
    · exact ev_assign rfl (gn rfl)
    simp only [nm, seval]
    apply VE.cons
    · exact ev_assign rfl (gn rfl)
    simp only [nm, seval]
    exact VE.nil _
  · kernel_rfl
  change VOk _ _ _ _ _
  refine vseq ?_
  refine vseq ?_
  apply vrp
  · apply VE.cons
    · exact ev_move rfl (gn rfl)
    simp only [nm, seval]
    apply VE.cons
    · exact ev_bin (c := .bool false) rfl (gn rfl) rfl rfl (fun w => ptr42 _ _ _ w)
    simp only [nm, seval]
    exact VE.nil _
  · kernel_rfl
  change VOk _ _ _ _ _
  refine vcond_f rfl ?_
  refine vskip ?_
  change VOk _ _ _ _ _
  refine vseq ?_
  apply vrp
  · apply VE.cons
    · exact ev_move rfl (gn rfl)
    simp only [nm, seval]
    apply VE.cons
    · exact ev_len rfl (gn rfl) rfl Tryd.underlying28 (rdg_arg hv)
    simp only [nm, seval]
    apply VE.cons
    · exact ev_sub (c := ((m : Nat) : Int)) rfl (gn rfl) rfl rfl (by rw [i64w (by omega) (by omega)]; omega)
    simp only [nm, seval]
    apply VE.cons
    · exact ev_assign rfl (gn rfl)
    simp only [nm, seval]
    exact VE.nil _
  · kernel_rfl
  change VOk _ _ _ _ _
  refine vseq ?_
  refine vseq ?_
  apply vrp
  · apply VE.cons
    · exact ev_move rfl (gn rfl)
    simp only [nm, seval]
    apply VE.cons
    · exact ev_lss (p := false) rfl (gn rfl) rfl rfl (by simp)
    simp only [nm, seval]
    exact VE.nil _
  · kernel_rfl
  change VOk _ _ _ _ _
  refine vcond_f rfl ?_
  refine vskip ?_
  change VOk _ _ _ _ _
  refine vseq ?_
  refine vseq ?_
  apply vrd (by kernel_rfl)
  · apply VE.cons
    · exact ev_move rfl (gn rfl)
    simp only [nm, seval]
    apply VE.cons
    · exact ev_ldt rfl (gn rfl) rfl rfl Tryd.underlying45 rfl Tryd.sizeOf45
    simp only [nm, seval]
    apply VE.cons
    · exact ev_move rfl (gn rfl)
    simp only [nm, seval]
    apply VE.cons
    · exact ev_move rfl (gn rfl)
    simp only [nm, seval]
    apply VE.cons
    · exact ev_cutx (a := 0) (b := m) (v' := cutV (0) (m) 1 v) rfl (gn rfl) rfl Tryd.underlying28 Tryd.sizeOf5 (rdg_arg hv) rfl rfl (by omega) (by omega) rfl
    simp only [nm, seval]
    apply VE.cons
    · exact ev_move rfl (gn rfl)
    simp only [nm, seval]
    apply VE.cons
    · exact ev_callb rfl (gn rfl) rfl (en_of Tryd.func29 (by kernel_rfl) rfl) (fun w' hb => tag_ok w' (hB.bw hb) hkf hh hnc (turnF_by hkf hnc hf) hfa (sl_bw (sl_head hv) hb) (sl_bw hva hb) hm0 hma0 hm hma)
    simp only [nm, seval]
    apply VE.cons
    · exact ev_allocr (l := tb 16 fun _ => 0) rfl rfl (gn rfl) Tryd.zeroValue67 rfl
    simp only [nm, seval]
    apply VE.cons
    · exact ev_sta rfl (gn rfl) rfl rfl rfl Tryd.sizeOf67
    simp only [nm, seval]
    exact VE.nil _
  · kernel_rfl
  change VOk _ _ _ _ _
  refine vseq ?_
  apply vrd (by kernel_rfl)
  · apply VE.cons
    · exact ev_slicea rfl (gn rfl) rfl Tryd.underlying67 Tryd.sizeOf5
    simp only [nm, seval]
    apply VE.cons
    · exact ev_move rfl (gn rfl)
    simp only [nm, seval]
    apply VE.cons
    · exact ev_move rfl (gn rfl)
    simp only [nm, seval]
    apply VE.cons
    · exact ev_cutx (a := m) (b := m + 16) (v' := cutV (m) (m + 16) 1 v) rfl (gn rfl) rfl Tryd.underlying28 Tryd.sizeOf5 (rdg_arg hv) rfl rfl (by omega) (by omega) rfl
    simp only [nm, seval]
    apply VE.cons
    · exact ev_callp (v := .bool true) [11] rfl (gn rfl) rfl (en_of Tryd.func31 (by kernel_rfl) rfl) (fun ρ S w' hb hR => by obtain ⟨S1, h⟩ := (rdg_arr (w0 := w) (off := 0) (len := 16) (cap := 16) (size := 1) (l := tb 16 (tagF kf h nc (turnF kf nc f) m fa ma)) (by exact rfl) (by rw [List.drop_zero]; exact List.take_of_length_le (by rw [tb_len]; decide)) tb_len (Nat.le_refl _)) ρ S w' hb hR; exact same_ok w' h (sl_bw (sl_tail hv) hb) (byF_by _) (by decide))
    simp only [nm, seval]
    apply VE.cons
    · exact ev_not rfl (gn rfl) rfl
    simp only [nm, seval]
    exact VE.nil _
  · kernel_rfl
  change VOk _ _ _ _ _
  refine vcond_f rfl ?_
  refine vskip ?_
  change VOk _ _ _ _ _
  refine vseq ?_
  apply vrd (by kernel_rfl)
  · apply VE.cons
    · exact ev_move rfl (gn rfl)
    simp only [nm, seval]
    apply VE.cons
    · exact ev_ldt rfl (gn rfl) rfl rfl Tryd.underlying45 rfl Tryd.sizeOf45
    simp only [nm, seval]
    apply VE.cons
    · exact ev_move rfl (gn rfl)
    simp only [nm, seval]
    apply VE.cons
    · exact ev_move rfl (gn rfl)
    simp only [nm, seval]
    apply VE.cons
    · exact ev_cutx (a := 0) (b := m) (v' := cutV (0) (m) 1 v) rfl (gn rfl) rfl Tryd.underlying28 Tryd.sizeOf5 (rdg_arg hv) rfl rfl (by omega) (by omega) rfl
    simp only [nm, seval]
    apply VE.cons
    · exact ev_callrow (l := tb m (turnF kf nc (turnF kf nc f))) [] rfl rfl (gn rfl) rfl (en_of Tryd.func28 (by kernel_rfl) rfl) (by rw [tb_len, Nat.mul_one]) (fun ρ S w' hb hR => turn_ok w' (hB.bw hb) hkf hnc (turnF_by hkf hnc hf) (sl_bw (sl_head hv) hb) hm0 (by omega))
    simp only [nm, seval]
    apply VE.cons
    · exact ev_assign rfl (gn rfl)
    simp only [nm, seval]
    apply VE.cons
    · exact ev_assign rfl (gn rfl)
    simp only [nm, seval]
    exact VE.nil _
  · kernel_rfl
  change VOk _ _ _ _ _
  refine vret ?_
  refine post_ret (res2 Tryd.results22 (rv_tmp rfl) (rv_tmp rfl)) ?_
  intro ρ w' hr
  have h37 := ret_row (id := 37) hr rfl
  rw [turn_turn] at h37
  exact ⟨_, rfl, h37, hr.1⟩
end Go.Proofs.YtiidceljhmpgcaaDoor
end
section
namespace Go.Proofs.YtiidceljhmpgcaaDoor
open Go.RowKit Go.Vx
open Go.Toll (Gw)
open TollSha
set_option maxHeartbeats 4000000
set_option maxRecDepth 100000
theorem run_append_z {P : Program} {w : World} {base : Nat} (hbase : base ≤ w.heap.size) (t ti r e : TypeId) (i : TypeInfo) (z : Value) (ht : P.underlying t = some (.slice e)) (hti : P.underlying ti = some (.int .i64)) (hi : P.info? e = some i) (hz : i.zero = some z)
    (hsize : i.size = 1) (hby : i.bytes = 1) (hzc : z.cells = #[z]) (hz1 : z.oneCell' = true) {m : Nm} {n k : Nat} {xs : List Value} (hrow : RowAt w base m n 1 e xs) (hl : xs.length = n) (hn0 : 0 < n) (h63 : n + k ≤ 1000000000) :
    ∃ v' g' w', (Builtin.append_ #[t, ti] r #[m.val, .int .i64 (k : Nat)]).run P w = .ok v' w' ∧ RowAt w' base ⟨g', v'⟩ (n + k) 1 e (xs ++ List.replicate k z) ∧ w'.os = w.os ∧ w'.tape = w.tape ∧ w'.output = w.output ∧ w.heap.size ≤ w'.heap.size ∧
      (∀ j, j < w.heap.size → (m.val ≠ .slice none 0 0 → m.g ≠ j) → w'.heap[j]? = w.heap[j]?) ∧ (v' ≠ .slice none 0 0 → (m.val ≠ .slice none 0 0 ∧ m.g = g') ∨ w.heap.size ≤ g') := by
  have hzl : ∀ m, Builtin.zeroCells #[z] m = (List.replicate m z).toArray := fun m => by
    apply Array.ext
    · simp [Builtin.zeroCells]
    · intro j h1 h2; simp [Builtin.zeroCells, Nat.mod_one]
  have hmax : n + k ≤ maxLen := by simp only [maxLen]; omega
  have h63' : IntKind.i64.wrap (k : Int) = (k : Int) := i64w (by omega) (by omega)
  have hn : ¬ ((k : Int) < 0) := by omega
  have h48 : ¬ ((281474976710656 : Int) < (k : Int) * (i.bytes : Int)) := by rw [hby]; omega
  have hlen : (xs ++ List.replicate k z).length = n + k := by rw [List.length_append, hl, List.length_replicate]
  rcases hrow with ⟨_, h2'⟩ | ⟨off, cap, cur, fz, h1', h2', h3', h4', h5', h6', h7', h8'⟩
  · omega
  · by_cases hroom : n + k ≤ cap
    · have hfit : off + n + (List.replicate k z).length ≤ cur.size := by rw [List.length_replicate]; omega
      have hst := storeCells_fz (P := P) m.g (off + n) e fz (List.replicate k z) 0 cur w h3' (fz_out h4') (by simpa using hfit) (fun u hu => by rw [List.eq_of_mem_replicate hu]; exact hz1)
      simp only [Nat.add_zero] at hst
      refine ⟨.slice (some ⟨m.g, off, none⟩) (n + k) cap, m.g, w.setRow m.g (cur.toList.take (off + n) ++ List.replicate k z ++ cur.toList.drop (off + n + (List.replicate k z).length)).toArray, ?_, ?_, rfl, rfl, rfl, by simp, fun j _ hj => setRow_other w m.g j _ (fun e => hj (by rw [h1']; simp) e.symm), fun _ => .inl ⟨by rw [h1']; simp, rfl⟩⟩
      · rw [h1']
        by_cases hk0 : k = 0
        · subst hk0
          simp only [List.replicate_zero] at hst
          have hw0 : IntKind.i64.wrap 0 = 0 := by decide
          simp at hst
          simp [Builtin.append_, run_underlying ht, run_underlying hti, sizeOf, typeInfo, hi, hsize, asInt, asIntOf, hw0, h5', add_at]
          rw [hst]
          rfl
        · simp [Builtin.append_, run_underlying ht, run_underlying hti, sizeOf, typeInfo, zeroValue, hi, hz, hsize, asInt, asIntOf, h63', hn, h48, hk0, hroom, hzc, hzl, add_at]
          simp at hst
          rw [hst]
          rfl
      · have hsz2 : (cur.toList.take (off + n) ++ List.replicate k z ++ cur.toList.drop (off + n + (List.replicate k z).length)).toArray.size = cur.size := by
          simp only [List.size_toArray, List.length_append, List.length_take, List.length_drop, Array.length_toList]
          omega
        refine .inr ⟨off, cap, _, fz, rfl, h2', setRow_heap w m.g cur _ e _ h3', by rw [hsz2]; exact h4', hroom, h6', by rw [hsz2]; exact h7', ?_⟩
        rw [Nat.mul_one] at h8'
        rw [Nat.mul_one, ← hlen, ← h8']
        apply List.ext_getElem?
        intro j
        simp only [List.getElem?_take, List.getElem?_drop, List.getElem?_append, List.length_take, List.length_drop, List.length_append, Array.length_toList]
        have hA : min (off + n) cur.size = off + n := by omega
        have hB : min n (cur.size - off) = n := by omega
        simp only [hA, hB]
        by_cases j1 : j < n
        · rw [if_pos (by omega), if_pos (by omega), if_pos (by omega), if_pos j1, if_pos j1]
          rw [if_pos (by omega)]
        · by_cases j2 : j < n + (List.replicate k z).length
          · rw [if_pos j2, if_pos (by omega), if_neg (by omega), if_neg j1]
            congr 1; omega
          · rw [if_neg j2, if_neg j1]
            symm
            apply List.getElem?_eq_none
            omega
    · have holds : ∀ j u, xs[j]? = some u → w.cell? ((⟨m.g, off, none⟩ : Addr).add j) = some u := fun j u hj => by
        obtain ⟨_, _, e1, _, _, e2⟩ := row_sl (.inr ⟨off, cap, cur, fz, h1', h2', h3', h4', h5', h6', h7', h8'⟩) (by rw [hl, Nat.mul_one])
        rw [h1'] at e1
        simp only [Value.slice.injEq] at e1
        rcases e2 with e2 | ⟨g2, e2, _, e3⟩
        · rw [e2] at hj; cases hj
        · have := e1.1.trans e2
          simp only [Option.some.injEq] at this
          rw [this]; exact e3 j u hj
      have hk0 : k ≠ 0 := by omega
      have hge := grownCap_ge w (n + k) cap e
      have hcm : grownCap w (n + k) cap e ≤ maxLen := grownCap_le_maxLen w (n + k) cap e hmax
      have hfit : ¬ (281474976710656 < Builtin.nextslicecap (n + k) cap * i.bytes) := by rw [hby]; have := growslice_fits (bytes := 1) (need := n + k) (old := cap) (by omega) (by omega); omega
      have hf := run_firstCells_some (P := P) w.drew 1 n ⟨m.g, off, none⟩ n cap xs (by rw [hl, Nat.mul_one]) holds
      have h63'' : ¬ ((9223372036854775807 : Int) < (n : Int) + (k : Int)) := by omega
      have hr : (Builtin.append_ #[t, ti] r #[.slice (some ⟨m.g, off, none⟩) n cap, .int .i64 (k : Nat)]).run P w = .ok (.slice (some ⟨w.heap.size, 0, none⟩) (n + k) (grownCap w (n + k) cap e)) (w.drew.alloc (.cells (xs.toArray ++ (List.replicate k z).toArray ++ (List.replicate (grownCap w (n + k) cap e - (n + k)) z).toArray) e)) := by
        simp [Builtin.append_, run_underlying ht, run_underlying hti, sizeOf, typeInfo, zeroValue, hi, hz, hsize, asInt, asIntOf, h63', hn, h48, hfit, hk0, h63'', hroom, Question.forced, hf, newRow, grownCap, hzc, hzl]
      rw [h1']
      refine ⟨_, w.heap.size, _, hr, .inr ⟨0, _, _, (0, 0), rfl, hbase, heap_alloc_new w.drew _, .inl rfl, hge, hcm, ?_, ?_⟩, rfl, rfl, rfl, by rw [World.size_alloc]; exact Nat.le_succ _, fun j hj _ => Below.heap_alloc w.drew _ j hj, fun _ => .inr (Nat.le_refl _)⟩
      · simp only [Array.size_append, List.size_toArray, List.length_replicate, hl]
        omega
      · simp only [Array.toList_append, List.append_assoc, List.drop_zero, Nat.mul_one]
        rw [← List.append_assoc, ← hlen]
        exact List.take_left
end Go.Proofs.YtiidceljhmpgcaaDoor
end
section
namespace Go.Proofs.YtiidceljhmpgcaaDoor
open Go.RowKit Go.Vx
open Go.Toll (Gw)
open TollSha
set_option maxHeartbeats 4000000
set_option maxRecDepth 100000
section
variable {P : Program} {w0 : World} {ops : Array Oper} {o : Oper} {s : VS}
theorem ev_appendz {t ti e : TypeId} {x y : Operand} {id id2 n k : Nat} {xs : List Value} {z : Value} (_hd : o.dst = some id2) (ho : o.op = .call { callee := .builtin .append, args := #[x, y], argTypes := #[t, ti] }) (hgd : Want ops o s)
    (hx : svEval s x = .d id) (hm : s.mem id = some (.row n 1 e (.exact xs))) (hy : svEval s y = .v (.int .i64 (k : Nat))) (ht : P.underlying t = some (.slice e)) (hti : P.underlying ti = some (.int .i64))
    (hI : (P.info? e).map (fun i => (i.zero, i.size, i.bytes)) = some (some z, 1, 1)) (hzc : z.cells = #[z]) (hz1 : z.oneCell' = true) (hl : xs.length = n) (hn0 : 0 < n) (h63 : n + k ≤ 1000000000) :
    Ev P ops w0 o s ⟨.d id2, [(id2, .row (n + k) 1 e (.exact (xs ++ List.replicate k z)))], [id], [id2], [id]⟩ :=
  ⟨by simp [Eff.ok], .inr ⟨hgd, fun ρ S w hb hR => by
    obtain ⟨i, hi, hz, hsize, hby⟩ := info_parts hI
    obtain ⟨xs', g1, g2, g3⟩ := relon_get hR hm (by simp)
    have g2' : xs' = xs := g2
    subst g2'
    obtain ⟨v', g', w', r1, r2, r3, r4, r5, r6, r7, r8⟩ := run_append_z (P := P) hb.size t ti o.type e i z ht hti hi hz hsize hby hzc hz1 g3 hl hn0 h63
    refine .inl ⟨v', w', ?_, fun j => if j = id2 then ⟨g', v'⟩ else ρ j, fun _ _ => False, ?_⟩
    · have e1 := svEval_c s ρ x
      rw [hx] at e1
      have e2 := svEval_c s ρ y
      rw [hy] at e2
      simp only [SV.c] at e1 e2
      unfold execOp
      simp only [ho, resolve, invoke, builtin, Sem.run_bind, Sem.run_pure, Result.andThen_ok, List.map_toArray, List.map_cons, List.map_nil, e1, e2, r1]
    · have := out_new (base := w0.heap.size) (t := s.mem) (ρ := ρ) (S := S) (w := w) (w' := w') (val := .d id2) (rd := [id]) (up := [id]) (id := id2) (b := .row (n + k) 1 e (.exact (xs' ++ List.replicate k z))) (m := ⟨g', v'⟩) (S1 := fun _ => False)
        r3 r4 r5 r6 (fun j hj hk => r7 j hj fun hv => hk id (by simp) _ hm hv) (fun ρ' h1 _ => ⟨_, by rw [List.length_append, hl, List.length_replicate, Nat.mul_one], rfl, by rw [h1]; exact r2⟩) (fun _ h => h.elim)
        (fun hob => (r8 hob).imp (fun ⟨a, b⟩ => ⟨id, by simp, _, hm, a, b⟩) (fun a => ⟨a, fun h => h⟩))
      simpa [SV.c] using this⟩⟩
theorem ev_store1s {ty : TypeId} {x y : Operand} {id off : Nat} {l l' : List Value} {bt : TypeId} {v : Value} (ho : o.op = .store ty x y) (hgd : Want ops o s) (hx : svEval s x = .p id off) (hm : s.mem id = some (.arr l bt)) (hy : svEval s y = .v v)
    (hs : ∀ w, (Go.sizeOf ty).run P w = .ok 1 w) (hn : v.cells = #[v]) (hfit : off < l.length) (h1 : v.oneCell' = true) (hl : l.set off v = l') : Ev P ops w0 o s ⟨.v undef, [(id, .arr l' bt)], [id], [], [id]⟩ := by
  subst hl
  exact ev_store1r ho hgd hx hm hy hs hn hfit h1
def TurnD (w w' : World) (g : Nat) (l' : List Value) (ty : TypeId) (v : Value) (D : Dat) : Prop := Turn1 w w' g l' ty ∧ RetD w w' v D
theorem ev_turnd {f : FuncId} {xs : Array Operand} {ats : Array TypeId} {vs : List SV} {id : Nat} {l l' : List Value} {ty : TypeId} (id2 : Nat) (D : Dat) (val : SV) (G : Value → Value) (rd : List Nat) (hne : id ≠ id2) (hval : ∀ ρ : Nat → Nm, val.c ρ = G (ρ id2).val) (ho : o.op = .call { callee := .value (.func f), args := xs, argTypes := ats }) (hgd : Want ops o s)
    (hx : xs.toList.map (svEval s) = vs) (hm : s.mem id = some (.arr l ty)) (hrd : rd.contains id = true) (he : ∀ args w, (callFunc f args).run P w = .ok (.enter f args) w)
    (hc : ∀ ρ S w, Bw w0 w → RelOn w0.heap.size ρ S w (restr rd s.mem) → w.heap[(ρ id).g]? = some (.cells l.toArray ty (0, 0)) → Calls P f (SV.cs ρ vs).toArray w fun e w' => ∃ v', e = .returned (G v') ∧ TurnD w w' (ρ id).g l' ty v' D) : Ev P ops w0 o s ⟨val, [(id, .arr l' ty), (id2, .dat D)], [id], [id2], rd⟩ := by
  have hid : id ∈ rd := by simpa using hrd
  refine ⟨by simp [Eff.ok, hid], .inr ⟨hgd, fun ρ S w hb hR => .inr (.inr ⟨f, (SV.cs ρ vs).toArray, ?_, (hc ρ S w hb hR (relon_get hR hm hid).2).mono fun e w' ⟨v', h1, ⟨h2, h3, h4, h5⟩, S1, hD, hS⟩ => ⟨_, h1, fun k => if k = id2 then ⟨0, v'⟩ else ρ k, fun k => if k = id2 then S1 else fun _ => False, ?_⟩⟩)⟩⟩
  · obtain ⟨dst, op, type, pos, after, guard⟩ := o
    simp only at ho
    subst ho
    rw [execOp_call_go, args_p, hx, ← cs_map]
    simpa using he (SV.cs ρ vs).toArray w
  · have g1 := relon_get hR hm hid
    have cs : ∀ i b, memOf [(id, Blk.arr l' ty), (id2, Blk.dat D)] i = some b → (i = id ∧ b = .arr l' ty) ∨ (i = id2 ∧ b = .dat D) := by
      intro i b h
      have := memOf_mem h
      simpa using this
    refine ⟨by rw [hval, if_pos rfl], fun i hi => by rw [if_neg (by simpa using hi)], h2.os, h2.tape, h2.output, h5, fun k hk hup => h4 k hk fun e => hup id (by simp) _ hm True.intro e.symm, ?_, ?_, ?_, ?_⟩
    · intro i b h
      rcases cs i b h with ⟨rfl, rfl⟩ | ⟨rfl, rfl⟩
      · have e : (if i = id2 then (⟨0, v'⟩ : Nm) else ρ i) = ρ i := if_neg hne
        refine ⟨?_, ?_⟩
        · show w0.heap.size ≤ (if i = id2 then (⟨0, v'⟩ : Nm) else ρ i).g
          rw [e]; exact g1.1
        · show w'.heap[(if i = id2 then (⟨0, v'⟩ : Nm) else ρ i).g]? = _
          rw [e]; exact h3
      · show D.holds [(if i = i then (⟨0, v'⟩ : Nm) else ρ i).val] w' (if i = i then S1 else fun _ => False)
        rw [if_pos rfl, if_pos rfl]
        exact hD
    · intro i k hi hk
      by_cases h : i = id2
      · rw [if_pos h] at hk
        exact .inr (hS k hk)
      · rw [if_neg h] at hk
        exact hk.elim
    · intro i b h hob
      rcases cs i b h with ⟨rfl, rfl⟩ | ⟨rfl, rfl⟩
      · exact .inl ⟨i, by simp, _, hm, True.intro, by rw [if_neg hne]⟩
      · exact hob.elim
    · intro i b j c hi hob hj hoc _
      rcases cs i b hi with ⟨rfl, rfl⟩ | ⟨rfl, rfl⟩
      · rcases cs j c hj with ⟨rfl, rfl⟩ | ⟨rfl, rfl⟩
        · rfl
        · exact hoc.elim
      · exact hob.elim
end
theorem ev_ptrnil26 {w0 : World} {ops : Array Oper} {o : Oper} {s : VS} {r : TypeId} {x y : Operand} {id off : Nat} (ho : o.op = .binOp .eql 26 x y r) (hgd : Want ops o s) (hx : svEval s x = .p id off) (hy : svEval s y = .v (.pointer none)) : Ev Tryd.prog ops w0 o s ⟨.v (.bool false), [], [], [], []⟩ :=
  Ev.run _ _ hgd fun ρ S w hb hR => by
    have e1 := svEval_c s ρ x
    rw [hx] at e1
    have e2 := svEval_c s ρ y
    rw [hy] at e2
    simp only [SV.c] at e1 e2
    have h := ptr26 ⟨(ρ id).g, off, none⟩ x y w
    simp only [execOp, ho, e1, e2, SV.c]
    rw [Sem.run_bind, h]
    rfl
def Off (w : World) (g : Nat) (F : Nat → Prop) : Prop := ∀ k, F k → k < w.heap.size ∧ k ≠ g
theorem fr_keep {w w' : World} {base g : Nat} {ρ : Nat → Nm} {S : Nat → Nat → Prop} {m : Mem} {rd : List Nat} (hR : RelOn base ρ S w' (restr rd m)) (hrd : rd.contains 803 = true) (hm : m 803 = some (.dat (frameD w (· = g)))) {F : Nat → Prop} (hF : Off w g F) : ∀ k, F k → w'.heap[k]? = w.heap[k]? := fun k hk => by
  have h : (frameD w (· = g)).holds [(ρ 803).val] w' (S 803) := relon_get hR hm (by simpa using hrd)
  obtain ⟨h1, h2⟩ := hF k hk
  exact (h k h1 h2).1
theorem rdg_fr {w : World} {g n : Nat} {v : Value} {l : List Value} {m : Mem} {F : Nat → Prop} (h : SlAt w v n 1 l F) (hm : m 803 = some (.dat (frameD w (· = g)))) (hF : Off w g F) : Rdg (bare w) m [803] (.v v) n 1 l := fun _ρ _S _w' _hb hR =>
  ⟨F, h.keep (fr_keep hR rfl hm hF)⟩
theorem ret_dat1 {w w' : World} {s : VS} {ρ : Nat → Nm} {id n g : Nat} {ty ty' : TypeId} {l l' : List Value} (hr : Rel (bare w) ρ s w') (hm : s.mem id = some (.row n 1 ty (.exact l))) (h1 : s.mem 801 = some (.arr l' ty')) (h3 : s.mem 803 = some (.dat (frameD w (· = g)))) (h4 : s.mem 804 = some (.pin 801 g)) (hid : id ≠ 801) (hn0 : 0 < n) :
    ∃ S, SlAt w' (ρ id).val n 1 l S ∧ ∀ k, S k → w.heap.size ≤ k ∧ k < w'.heap.size := by
  obtain ⟨hb, S, hR⟩ := hr
  have a4 : (ρ 801).g = g := hR.good 804 _ h4
  have a3 : (frameD w (· = g)).holds [(ρ 803).val] w' (S 803) := hR.good 803 _ h3
  obtain ⟨xs, x1, x2, hrow⟩ := hR.good id _ hm
  have x2' : xs = l := x2
  subst x2'
  refine ⟨_, row_sl hrow x1, ?_⟩
  rintro k rfl
  rcases hrow with ⟨_, h⟩ | ⟨off, cap, cur, fz, e1, _, e3, _⟩
  · omega
  · refine ⟨Nat.le_of_not_lt fun hlt => ?_, (Array.getElem?_eq_some_iff.1 e3).1⟩
    have hown : Blk.owns (ρ id) (.row n 1 ty (.exact xs)) := by simp only [Blk.owns]; rw [e1]; simp
    by_cases hg : (ρ id).g = g
    · exact hid (hR.inj id _ 801 _ hm hown h1 True.intro (hg.trans a4.symm))
    · exact hR.dis id _ 803 hm hown (by rw [h3]; rfl) (a3 _ hlt hg).2
def innF (m : Nat) (f : Nat → Nat) (k : Nat) : Nat → Nat := fun j => if j < m then f j else if j = m then k else 0
theorem innF_by {m : Nat} {f : Nat → Nat} {k : Nat} (hf : By f) (hk : k < 256) : By (innF m f k) := fun j => by
  unfold innF; split
  · exact hf _
  · split
    · exact hk
    · decide
theorem rep_tb (p : Nat) : List.replicate p (b8 0) = tb p fun _ => 0 := by
  unfold tb
  apply List.ext_getElem
  · simp
  · intro i h1 h2; simp
theorem inn_eq (m : Nat) (f : Nat → Nat) (k p : Nat) : (tb m f ++ [b8 k]) ++ List.replicate p (b8 0) = tb (m + 1 + p) (innF m f k) := by
  have h1 : tb m f = tb m (innF m f k) := tb_ext fun j hj => (if_pos hj).symm
  have h2 : [b8 k] = tb 1 (fun j => innF m f k (m + j)) := by
    show [b8 k] = [b8 (innF m f k (m + 0))]
    unfold innF
    rw [if_neg (by omega), if_pos (by omega)]
  have h3 : List.replicate p (b8 0) = tb p (fun j => innF m f k (m + 1 + j)) := by
    rw [rep_tb]
    exact tb_ext fun j _ => by unfold innF; rw [if_neg (by omega), if_neg (by omega)]
  rw [h1, h2, tb_app, h3, tb_app]
def hdF (n : Nat) : Nat → Nat := fun j => if j = 0 then 23 else if j = 1 then 3 else if j = 2 then 3 else if j = 3 then n / 256 % 256 else n % 256
theorem hdF_by (n : Nat) : By (hdF n) := fun j => by
  unfold hdF
  repeat' split
  all_goals omega
theorem hd_eq (n : Nat) : ([b8 23, b8 3, b8 3, b8 (n / 256 % 256), b8 (n % 256)] : List Value) = tb 5 (hdF n) := rfl
def recL (kf h iv : Nat → Nat) (n m : Nat) (f : Nat → Nat) (k p : Nat) : List Value :=
  tb 5 (hdF (m + 1 + p + 16)) ++ (tb (m + 1 + p) (turnF kf (ncF iv n) (innF m f k)) ++ tb 16 (tagF kf h (ncF iv n) (turnF kf (ncF iv n) (innF m f k)) (m + 1 + p) (hdF (m + 1 + p + 16)) 5))
theorem half_set (bp : Value) (iv : Nat → Nat) (n n' : Nat) : (halfL bp iv n).set 13 (.int .i64 (n' : Nat)) = halfL bp iv n' := by
  unfold halfL
  rw [List.cons_append, List.set_cons_succ, List.set_append_right _ _ (by rw [tb_len]; exact Nat.le_refl _), tb_len]; rfl
theorem half_len (bp : Value) (iv : Nat → Nat) (n : Nat) : (halfL bp iv n).length = 14 := by
  unfold halfL
  simp [tb_len]
theorem c_hseal {ρ : Nat → Nm} {S1 : Nat → Nat → Prop} {w : World} {mm : Mem} {base i j : Nat} {bp : Value} {kf h nc f : Nat → Nat} {F : Nat → Prop} {m p k : Nat} {rd : List Nat} (hR : RelOn base ρ S1 w (restr (i :: j :: rd) mm)) (hi : mm i = some (.row (m + 1 + p) 1 5 (.exact ((tb m f ++ [b8 (k % 256)]) ++ List.replicate p (b8 0))))) (hj : mm j = some (.row 5 1 5 (.exact [b8 23, b8 3, b8 3, b8 ((m + 1 + p + 16) / 256 % 256), b8 ((m + 1 + p + 16) % 256)])))
    (hB : BoxAt w bp kf h F) (hkf : By kf) (hh : By h) (hnc : By nc) (hf : By f) (hk : k < 256) (hm : m + 1 + p < 1000000) :
    Calls Tryd.prog 19 (SV.cs ρ [.v bp, .v (.agg (tb 12 nc).toArray), .d i, .d j]).toArray w fun e w' => ∃ v', e = .returned v' ∧ RetRow w w' v' (m + 1 + p + 16) 1 5 (tb (m + 1 + p) (turnF kf nc (innF m f k)) ++ tb 16 (tagF kf h nc (turnF kf nc (innF m f k)) (m + 1 + p) (hdF (m + 1 + p + 16)) 5)) ∧ Bw w w' := by
  obtain ⟨xs, x1, x2, x3⟩ := relon_get hR hi (by simp)
  obtain ⟨ys, y1, y2, y3⟩ := relon_get hR hj (by simp)
  have x2' : xs = (tb m f ++ [b8 (k % 256)]) ++ List.replicate p (b8 0) := x2
  have y2' : ys = [b8 23, b8 3, b8 3, b8 ((m + 1 + p + 16) / 256 % 256), b8 ((m + 1 + p + 16) % 256)] := y2
  rw [Nat.mod_eq_of_lt hk, inn_eq] at x2'
  rw [hd_eq] at y2'
  subst x2' y2'
  exact gSeal_ok w hB hkf hh hnc (innF_by hf hk) (hdF_by _) (row_sl x3 x1) (row_sl y3 y1) (by omega) (by decide) (by omega) (by decide)
end Go.Proofs.YtiidceljhmpgcaaDoor
end
section
namespace Go.Proofs.YtiidceljhmpgcaaDoor
open Go.RowKit Go.Vx
open Go.Toll (Gw)
open TollSha
set_option maxHeartbeats 4000000
set_option maxRecDepth 100000
theorem hSeal_ok {bp v : Value} {gh n m k p : Nat} {kf h iv f : Nat → Nat} {F S : Nat → Prop} (w : World) (hh : w.heap[gh]? = some (.cells (halfL bp iv n).toArray 47 (0, 0))) (hB : BoxAt w bp kf h F) (hF : Off w gh F) (hkf : By kf) (hhb : By h) (hiv : By iv) (hf : By f) (hv : SlAt w v m 1 (tb m f) S) (hS : Off w gh S) (hk1 : 21 ≤ k) (hk2 : k ≤ 23) (hm : m ≤ 1000) (hp : p ≤ 1000) (hn : n < 1000) : Calls Tryd.prog 7 #[.pointer (some ⟨gh, 0, none⟩), .int .i64 (k : Nat), v, .int .i64 (p : Nat)] w fun e w' => ∃ v', e = .returned (.tuple #[v', .int .i64 0]) ∧ TurnD w w' gh (halfL bp iv (n + 1)) 47 v' (.sl (5 + ((m + 1 + p) + 16)) 1 (recL kf h iv n m f k p)) := by
  have hk : k < 256 := by omega
  go_enter Tryd.func7, Tryd.ntmps7
  refine ve_gob (own1R gh) (by simp [SV.c, own1R]) (own1_rel hh (.p 801 0 :: .v (.int .i64 (k : Nat)) :: .v v :: .v (.int .i64 (p : Nat)) :: .v undef :: .v undef :: .v undef :: .v undef :: .v undef :: .v undef :: .v undef :: .v undef :: .v undef :: .v undef :: .v undef :: .v undef :: .v undef :: .v undef :: .v undef :: .v undef :: .v undef :: .v undef :: .v undef :: .v undef :: .v undef :: .v undef :: .v undef :: .v undef :: .v undef :: .v undef :: .v undef :: .v undef :: .v undef :: .v undef :: .v undef :: .v undef :: .v undef :: .v undef :: .v undef :: .v undef :: .v undef :: .v undef :: .v undef :: .v undef :: .v undef :: .v undef :: .v undef :: .v undef :: .v undef :: .v undef :: .v undef :: .v undef :: .v undef :: .v undef :: .v undef :: .v undef :: .v undef :: .v undef :: .v undef :: .v undef :: .v undef :: .v undef :: .v undef :: .v undef :: .v undef :: .v undef :: .v undef :: .v undef :: [])) ?_
  simp only [own1M]
  refine vseq ?_
  apply vrp
  · apply VE.cons
    · exact ev_assign rfl (gn rfl)
    simp only [nm, seval]
    apply VE.cons
    · exact ev_assign rfl (gn rfl)
    simp only [nm, seval]
    exact VE.nil _
  · kernel_rfl
  change VOk _ _ _ _ _
  refine vseq ?_
  refine vblock ?_
  refine vseq ?_
  apply vrp
  · apply VE.cons
    · exact ev_move rfl (gn rfl)
    simp only [nm, seval]
    apply VE.cons
    · exact ev_ptrnil26 rfl (gn rfl) rfl rfl
    simp only [nm, seval]
    apply VE.cons
    · exact ev_move rfl (gn rfl)
    simp only [nm, seval]
    apply VE.cons
    · first | exact Ev.skip (fun _ => rfl) | exact ev_move rfl (fun _ => rfl)
    simp only [nm, seval]
    apply VE.cons
    · first | exact Ev.skip (fun _ => rfl) | exact ev_callb (v := .bool true) rfl (fun _ => rfl) rfl (en_of Tryd.func16 (by kernel_rfl) rfl) (fun w' hb => kind_ok hk1 hk2 w')
    simp only [nm, seval]
    apply VE.cons
    · first | exact Ev.skip (fun _ => rfl) | exact ev_not rfl (fun _ => rfl) rfl
    simp only [nm, seval]
    apply VE.cons
    · first | exact ev_pick_t rfl (gn rfl) rfl rfl | exact ev_pick_f rfl (gn rfl) rfl rfl
    simp only [nm, seval]
    apply VE.cons
    · exact ev_move rfl (gn rfl)
    simp only [nm, seval]
    apply VE.cons
    · first | exact Ev.skip (fun _ => rfl) | exact ev_move rfl (fun _ => rfl)
    simp only [nm, seval]
    apply VE.cons
    · first | exact Ev.skip (fun _ => rfl) | exact ev_lss (p := false) rfl (fun _ => rfl) rfl rfl (by simp)
    simp only [nm, seval]
    apply VE.cons
    · first | exact ev_pick_t rfl (gn rfl) rfl rfl | exact ev_pick_f rfl (gn rfl) rfl rfl
    simp only [nm, seval]
    apply VE.cons
    · exact ev_assign rfl (gn rfl)
    simp only [nm, seval]
    exact VE.nil _
  · kernel_rfl
  change VOk _ _ _ _ _
  refine vcond_f rfl ?_
  refine vseq ?_
  apply vrp
  · apply VE.cons
    · exact ev_move rfl (gn rfl)
    simp only [nm, seval]
    apply VE.cons
    · exact ev_move rfl (gn rfl)
    simp only [nm, seval]
    apply VE.cons
    · exact ev_len rfl (gn rfl) rfl Tryd.underlying28 (rdg_fr hv rfl hS)
    simp only [nm, seval]
    apply VE.cons
    · exact ev_sub (c := ((16384 - m : Nat) : Int)) rfl (gn rfl) rfl rfl (by rw [i64w (by omega) (by omega)]; omega)
    simp only [nm, seval]
    apply VE.cons
    · exact ev_gtr (p := false) rfl (gn rfl) rfl rfl (by simp; omega)
    simp only [nm, seval]
    apply VE.cons
    · exact ev_assign rfl (gn rfl)
    simp only [nm, seval]
    exact VE.nil _
  · kernel_rfl
  change VOk _ _ _ _ _
  refine vcond_f rfl ?_
  refine vseq ?_
  apply vrp
  · apply VE.cons
    · exact ev_move rfl (gn rfl)
    simp only [nm, seval]
    apply VE.cons
    · first | exact ev_nil rfl (gn rfl) rfl | exact ev_nilx rfl (gn rfl) rfl
    simp only [nm, seval]
    apply VE.cons
    · first | exact ev_field rfl (gn rfl) rfl Tryd.underlying47 rfl Tryd.sizeOf3 | exact ev_fieldx rfl (gn rfl) rfl Tryd.underlying47 rfl Tryd.sizeOf3
    simp only [nm, seval]
    apply VE.cons
    · exact ev_load1r rfl (gn rfl) rfl rfl Tryd.underlying3 rfl (halfL_n bp iv n)
    simp only [nm, seval]
    apply VE.cons
    · exact ev_geq (p := false) rfl (gn rfl) rfl rfl (by simp; omega)
    simp only [nm, seval]
    apply VE.cons
    · exact ev_assign rfl (gn rfl)
    simp only [nm, seval]
    exact VE.nil _
  · kernel_rfl
  change VOk _ _ _ _ _
  refine vcond_f rfl ?_
  refine vskip ?_
  change VOk _ _ _ _ _
  refine vseq ?_
  apply vrp
  · apply VE.cons
    · exact ev_move rfl (gn rfl)
    simp only [nm, seval]
    apply VE.cons
    · exact ev_callrow (l := tb m f) [803] rfl rfl (gn rfl) rfl (en_of Tryd.func17 (by kernel_rfl) rfl) (by rw [tb_len, Nat.mul_one]) (fun ρ S w' hb hR => clone_ok w' (hv.keep (fr_keep hR rfl rfl hS)) (by omega))
    simp only [nm, seval]
    apply VE.cons
    · exact ev_move rfl (gn rfl)
    simp only [nm, seval]
    apply VE.cons
    · exact ev_conv rfl (gn rfl) rfl (fun w => cvi8 w)
    simp only [nm, seval]
    apply VE.cons
    · exact ev_buildslice rfl rfl (gn rfl) rfl (e := 5) (l := [b8 (k % 256)]) rfl (by decide) (fun _ => by kernel_rfl)
    simp only [nm, seval]
    apply VE.cons
    · exact ev_append rfl rfl (gn rfl) rfl rfl rfl (rdg_row rfl) Tryd.underlying28 el5 (by decide) (by rw [tb_len, Nat.mul_one]) rfl (by simp only [maxLen]; omega) (by omega) rfl
    simp only [nm, seval]
    apply VE.cons
    · exact ev_move rfl (gn rfl)
    simp only [nm, seval]
    apply VE.cons
    · exact ev_appendz (z := b8 0) rfl rfl (gn rfl) rfl rfl rfl Tryd.underlying28 Tryd.underlying3 (by kernel_rfl) rfl rfl (by simp [tb_len]) (by omega) (by omega)
    simp only [nm, seval]
    apply VE.cons
    · exact ev_assign rfl (gn rfl)
    simp only [nm, seval]
    exact VE.nil _
  · kernel_rfl
  change VOk _ _ _ _ _
  refine vseq ?_
  apply vrp
  · apply VE.cons
    · exact ev_move rfl (gn rfl)
    simp only [nm, seval]
    apply VE.cons
    · exact ev_len rfl (gn rfl) rfl Tryd.underlying28 (rdg_row rfl)
    simp only [nm, seval]
    apply VE.cons
    · exact ev_add (c := (((m + 1 + p) + 16 : Nat) : Int)) rfl (gn rfl) rfl rfl (by rw [i64w (by omega) (by omega)]; omega)
    simp only [nm, seval]
    apply VE.cons
    · exact ev_callrow (l := [b8 23, b8 3, b8 3, b8 (((m + 1 + p) + 16) / 256 % 256), b8 (((m + 1 + p) + 16) % 256)]) [] rfl rfl (gn rfl) rfl (en_of Tryd.func18 (by kernel_rfl) rfl) rfl (fun ρ S w' hb hR => head_ok w')
    simp only [nm, seval]
    apply VE.cons
    · exact ev_assign rfl (gn rfl)
    simp only [nm, seval]
    exact VE.nil _
  · kernel_rfl
  change VOk _ _ _ _ _
  refine vseq ?_
  apply vrd (by kernel_rfl)
  · apply VE.cons
    · exact ev_move rfl (gn rfl)
    simp only [nm, seval]
    apply VE.cons
    · first | exact ev_nil rfl (gn rfl) rfl | exact ev_nilx rfl (gn rfl) rfl
    simp only [nm, seval]
    apply VE.cons
    · first | exact ev_field rfl (gn rfl) rfl Tryd.underlying47 rfl Tryd.sizeOf42 | exact ev_fieldx rfl (gn rfl) rfl Tryd.underlying47 rfl Tryd.sizeOf42
    simp only [nm, seval]
    apply VE.cons
    · exact ev_load1r rfl (gn rfl) rfl rfl Tryd.underlying42 rfl (halfL_b bp iv n)
    simp only [nm, seval]
    apply VE.cons
    · exact ev_move rfl (gn rfl)
    simp only [nm, seval]
    apply VE.cons
    · exact ev_callp (v := .agg (tb 12 (ncF iv n)).toArray) [801] rfl (gn rfl) rfl (en_of Tryd.func20 (by kernel_rfl) rfl) (fun ρ S w' hb hR => nonce_ok w' (relon_get hR (id := 801) rfl (by simp)).2 hiv)
    simp only [nm, seval]
    apply VE.cons
    · exact ev_move rfl (gn rfl)
    simp only [nm, seval]
    apply VE.cons
    · exact ev_move rfl (gn rfl)
    simp only [nm, seval]
    apply VE.cons
    · exact ev_callrow (l := tb (m + 1 + p) (turnF kf (ncF iv n) (innF m f k)) ++ tb 16 (tagF kf h (ncF iv n) (turnF kf (ncF iv n) (innF m f k)) (m + 1 + p) (hdF ((m + 1 + p) + 16)) 5)) [44, 48, 803] rfl rfl (gn rfl) rfl (en_of Tryd.func19 (by kernel_rfl) rfl) (by rw [List.length_append, tb_len, tb_len, Nat.mul_one]) (fun ρ S w' hb hR => c_hseal (m := m) (p := p) hR rfl rfl (hB.keep (fr_keep hR rfl rfl hF)) hkf hhb (ncF_by hiv n) hf hk (by omega))
    simp only [nm, seval]
    apply VE.cons
    · exact ev_assign rfl (gn rfl)
    simp only [nm, seval]
    exact VE.nil _
  · kernel_rfl
  change VOk _ _ _ _ _
  refine vseq ?_
  apply vrp
  · apply VE.cons
    · exact ev_move rfl (gn rfl)
    simp only [nm, seval]
    apply VE.cons
    · first | exact ev_nil rfl (gn rfl) rfl | exact ev_nilx rfl (gn rfl) rfl
    simp only [nm, seval]
    apply VE.cons
    · first | exact ev_field rfl (gn rfl) rfl Tryd.underlying47 rfl Tryd.sizeOf3 | exact ev_fieldx rfl (gn rfl) rfl Tryd.underlying47 rfl Tryd.sizeOf3
    simp only [nm, seval]
    apply VE.cons
    · exact ev_load1r rfl (gn rfl) rfl rfl Tryd.underlying3 rfl (halfL_n bp iv n)
    simp only [nm, seval]
    apply VE.cons
    · exact ev_add (c := ((n + 1 : Nat) : Int)) rfl (gn rfl) rfl rfl (by rw [i64w (by omega) (by omega)]; omega)
    simp only [nm, seval]
    apply VE.cons
    · first | exact ev_nil rfl (gn rfl) rfl | exact ev_nilx rfl (gn rfl) rfl
    simp only [nm, seval]
    apply VE.cons
    · first | exact ev_field rfl (gn rfl) rfl Tryd.underlying47 rfl Tryd.sizeOf3 | exact ev_fieldx rfl (gn rfl) rfl Tryd.underlying47 rfl Tryd.sizeOf3
    simp only [nm, seval]
    apply VE.cons
    · exact ev_store1s rfl (gn rfl) rfl rfl rfl Tryd.sizeOf3 rfl (by rw [half_len]; decide) rfl (half_set bp iv n (n + 1))
    simp only [nm, seval]
    exact VE.nil _
  · kernel_rfl
  change VOk _ _ _ _ _
  refine vseq ?_
  apply vrp
  · apply VE.cons
    · exact ev_move rfl (gn rfl)
    simp only [nm, seval]
    apply VE.cons
    · exact ev_move rfl (gn rfl)
    simp only [nm, seval]
    apply VE.cons
    · exact ev_append rfl rfl (gn rfl) rfl rfl rfl (rdg_row rfl) Tryd.underlying28 el5 (by decide) rfl (by rw [List.all_append, tb_one, tb_one]; rfl) (by simp only [maxLen]; omega) (by omega) (by rw [List.length_append, tb_len, tb_len, Nat.mul_one])
    simp only [nm, seval]
    apply VE.cons
    · exact ev_assign rfl (gn rfl)
    simp only [nm, seval]
    apply VE.cons
    · exact ev_assign rfl (gn rfl)
    simp only [nm, seval]
    exact VE.nil _
  · kernel_rfl
  change VOk _ _ _ _ _
  refine vret ?_
  refine post_ret (res2 Tryd.results7 (rv_tmp rfl) (rv_tmp rfl)) ?_
  intro ρ w' hr
  obtain ⟨S1, h1, h2⟩ := ret_dat1 (id := 67) hr rfl rfl rfl rfl (by decide) (by omega)
  exact ⟨_, rfl, own1_end hr rfl rfl rfl rfl, S1, ⟨_, rfl, h1⟩, h2⟩
end Go.Proofs.YtiidceljhmpgcaaDoor
end
