import Derived.ProofKit
import Derived.OpenShut
import Derived.Lib.LaidTab
import Derived.Test.YtafbhakmkbehiaaDoorZ7
section
namespace Go.Proofs.YtafbhakmkbehiaaDoor
open Go.RowKit Go.Vx TollMont
open Go.Toll (Gw)
open TollEc (F pp cb Jp Pt smul add base nn neg)
open TollSha (sha hmac)
set_option maxHeartbeats 4000000
set_option maxRecDepth 100000
theorem eqP_t {p : Pt} (_hp : p.on) (h : p = .inf) (a b : Operand) (w : World) : (do eqGuard .eql 26 a b (PV p) (.agg #[.int .u8 0, .int .u8 0, .int .u8 0, .int .u8 0, .int .u8 0, .int .u8 0, .int .u8 0, .int .u8 0, .int .u8 0, .int .u8 0, .int .u8 0, .int .u8 0, .int .u8 0, .int .u8 0, .int .u8 0, .int .u8 0, .int .u8 0, .int .u8 0, .int .u8 0, .int .u8 0, .int .u8 0, .int .u8 0, .int .u8 0, .int .u8 0, .int .u8 0, .int .u8 0, .int .u8 0, .int .u8 0, .int .u8 0, .int .u8 0, .int .u8 0, .int .u8 0, .int .u8 0, .int .u8 0, .int .u8 0, .int .u8 0, .int .u8 0, .int .u8 0, .int .u8 0, .int .u8 0, .int .u8 0, .int .u8 0, .int .u8 0, .int .u8 0, .int .u8 0, .int .u8 0, .int .u8 0, .int .u8 0, .int .u8 0, .int .u8 0, .int .u8 0, .int .u8 0, .int .u8 0, .int .u8 0, .int .u8 0, .int .u8 0, .int .u8 0, .int .u8 0, .int .u8 0, .int .u8 0, .int .u8 0, .int .u8 0, .int .u8 0, .int .u8 0]); binOp .eql 26 (PV p) (.agg #[.int .u8 0, .int .u8 0, .int .u8 0, .int .u8 0, .int .u8 0, .int .u8 0, .int .u8 0, .int .u8 0, .int .u8 0, .int .u8 0, .int .u8 0, .int .u8 0, .int .u8 0, .int .u8 0, .int .u8 0, .int .u8 0, .int .u8 0, .int .u8 0, .int .u8 0, .int .u8 0, .int .u8 0, .int .u8 0, .int .u8 0, .int .u8 0, .int .u8 0, .int .u8 0, .int .u8 0, .int .u8 0, .int .u8 0, .int .u8 0, .int .u8 0, .int .u8 0, .int .u8 0, .int .u8 0, .int .u8 0, .int .u8 0, .int .u8 0, .int .u8 0, .int .u8 0, .int .u8 0, .int .u8 0, .int .u8 0, .int .u8 0, .int .u8 0, .int .u8 0, .int .u8 0, .int .u8 0, .int .u8 0, .int .u8 0, .int .u8 0, .int .u8 0, .int .u8 0, .int .u8 0, .int .u8 0, .int .u8 0, .int .u8 0, .int .u8 0, .int .u8 0, .int .u8 0, .int .u8 0, .int .u8 0, .int .u8 0, .int .u8 0, .int .u8 0]) : Sem Value).run Tryd.prog w = .ok (.bool true) w := by
  subst h; exact eqP_inf a b w
theorem ev_slicelh {P : Program} {w0 : World} {ops : Array Oper} {o : Oper} {s : VS} {ty : TypeId} {x : Operand} {lo hi : Option Operand} {id off n a b : Nat} {el : TypeId} (ho : o.op = .slice ty x lo hi none) (hgd : Want ops o s) (hx : svEval s x = .p id off)
    (hu : P.underlying ty = some (.array n el)) (hs : ∀ w, (Go.sizeOf el).run P w = .ok 1 w) (hlo : (match lo with | none => SV.v (.int .i64 (0 : Nat)) | some z => svEval s z) = .v (.int .i64 (a : Nat))) (hhi : (match hi with | none => SV.v (.int .i64 (n : Nat)) | some z => svEval s z) = .v (.int .i64 (b : Nat))) (h1 : a ≤ b) (h2 : b ≤ n) (h3 : a < n) :
    Ev P ops w0 o s ⟨.s id (off + a) (b - a) (n - a), [], [], [], []⟩ :=
  Ev.run _ _ hgd fun ρ S w hb hR => by
    have e1 := svEval_c s ρ x
    rw [hx] at e1
    have hbd : ∀ (k m : Nat) (c : BoundsCode), k ≤ m → (Instr.sliceBound (.int .i64 (k : Nat)) m c).run P w = .ok k w := by
      intro k m c hk
      unfold Instr.sliceBound
      rw [Sem.run_bind]
      simp only [asIntOf, Sem.run_pure, Result.andThen_ok]
      rw [if_pos ⟨by omega, by omega⟩]
      rfl
    have e2 : ∀ z, lo = some z → (s.act ρ).eval z = .int .i64 (a : Nat) := fun z hz => by rw [svEval_c]; rw [hz] at hlo; simp only at hlo; rw [hlo]; simp [SV.c]
    have e3 : ∀ z, hi = some z → (s.act ρ).eval z = .int .i64 (b : Nat) := fun z hz => by rw [svEval_c]; rw [hz] at hhi; simp only at hhi; rw [hhi]; simp [SV.c]
    have ea : lo = none → a = 0 := fun hz => by
      rw [hz] at hlo; simp only [SV.v.injEq, Value.int.injEq, true_and] at hlo; omega
    have eb : hi = none → b = n := fun hz => by
      rw [hz] at hhi; simp only [SV.v.injEq, Value.int.injEq, true_and] at hhi; omega
    have key : ∀ t : Bool, (Instr.sliceBounds t n n (lo.map (s.act ρ).eval) (hi.map (s.act ρ).eval) none).run P w = .ok (a, b, n) w := by
      intro t
      unfold Instr.sliceBounds
      cases hi with
      | none =>
        have := eb rfl; subst this
        cases lo with
        | none => have := ea rfl; subst this; simp
        | some z => simp [e2 z rfl, hbd a b _ h1]
      | some y' =>
        cases lo with
        | none => have := ea rfl; subst this; simp [e3 y' rfl, hbd b n _ (by omega)]
        | some z => simp [e2 z rfl, e3 y' rfl, hbd a b _ h1, hbd b n _ (by omega)]
    simp [execOp, ho, e1, SV.c, Instr.sliceAt, run_underlying hu, Instr.sureAddr, key, hs, add_at]
    omega
theorem ptr_d {n : Nat} {ρ : Nat → Nm} {S : Nat → Nat → Prop} {w : World} {base : Nat} {m : Mem} {rd : List Nat} {id : Nat} (hR : RelOn base ρ S w (restr rd m)) (hid : id ∈ rd) (hm : m id = some (.dat (datM n))) : ∃ g, (ρ id).val = ptr g ∧ At w g n := by
  obtain ⟨g, e1, _, e3⟩ := relon_dat hR hid hm
  exact ⟨g, by simpa using e1, datM_at e3⟩
section
variable {ρ : Nat → Nm} {S : Nat → Nat → Prop} {w : World} {base : Nat} {m : Mem} {rd : List Nat} {id : Nat} {x y : Nat}
theorem c_mul (hR : RelOn base ρ S w (restr rd m)) (hid : id ∈ rd) (hm : m id = some (.dat (datM nn))) (hx : x < R) (hy : y < R) : Calls Tryd.prog 21 #[(ρ id).val, N x, N y] w fun e w' => e = .returned (N (x * y % nn)) ∧ Bw w w' := by
  obtain ⟨g, e, h⟩ := ptr_d hR hid hm
  rw [e]; exact (mul_ok mdn hx hy w h).mono fun _ _ q => ⟨q.1, q.2.b⟩
theorem c_add (hR : RelOn base ρ S w (restr rd m)) (hid : id ∈ rd) (hm : m id = some (.dat (datM nn))) (hx : x < R) (hy : y < R) : Calls Tryd.prog 43 #[(ρ id).val, N x, N y] w fun e w' => e = .returned (N ((x + y) % nn)) ∧ Bw w w' := by
  obtain ⟨g, e, h⟩ := ptr_d hR hid hm
  rw [e]; exact (madd_ok mdn hx hy w h).mono fun _ _ q => ⟨q.1, q.2.b⟩
theorem c_rest (hR : RelOn base ρ S w (restr rd m)) (hid : id ∈ rd) (hm : m id = some (.dat (datM nn))) (hx : x < R) : Calls Tryd.prog 23 #[(ρ id).val, N x] w fun e w' => e = .returned (N (x % nn)) ∧ Bw w w' := by
  obtain ⟨g, e, h⟩ := ptr_d hR hid hm
  rw [e]; exact (rest_ok mdn hx w h).mono fun _ _ q => ⟨q.1, q.2.b⟩
theorem c_inv {i : Nat} (hR : RelOn base ρ S w (restr rd m)) (hid : id ∈ rd) (hm : m id = some (.dat (datM nn))) (hx : x < R) (hi : i < nn) (hv : i * x % nn = 1) : Calls Tryd.prog 19 #[(ρ id).val, N x] w fun e w' => e = .returned (.tuple #[N i, .int .i64 0]) ∧ Bw w w' := by
  obtain ⟨g, e, h⟩ := ptr_d hR hid hm
  have a := inv_ok mdn hx w h
  rw [if_pos (by
    have h1 : Nat.gcd x nn ∣ i * x % nn := (Nat.dvd_mod_iff (Nat.gcd_dvd_right _ _)).2 (Nat.dvd_trans (Nat.gcd_dvd_left _ _) ⟨i, Nat.mul_comm _ _⟩)
    rw [hv] at h1; exact Nat.dvd_one.1 h1), minv_eq hi hv] at a
  rw [e]; exact a.mono fun _ _ q => ⟨q.1, q.2.b⟩
end
theorem lt_R {x : Nat} (h : x < nn) : x < R := Nat.lt_trans h (by decide)
theorem mod_R (x : Nat) : x % nn < R := lt_R (Nat.mod_lt _ (by decide))
theorem eqN {x y : Nat} (hx : x < R) (hy : y < R) (p q : Operand) (w : World) : (do eqGuard .eql 50 p q (N x) (N y); binOp .eql 50 (N x) (N y) : Sem Value).run Tryd.prog w = .ok (.bool (decide (x = y))) w := by
  have := eql_num 50 (.inl rfl) (lim x 0) (lim x 1) (lim x 2) (lim x 3) (lim y 0) (lim y 1) (lim y 2) (lim y 3) p q w
  have e : decide (lim x 0 = lim y 0 ∧ lim x 1 = lim y 1 ∧ lim x 2 = lim y 2 ∧ lim x 3 = lim y 3) = decide (x = y) := decide_eq_decide.2 ⟨fun ⟨a, b, c, d⟩ => lim_inj hx hy a b c d, fun h => by rw [h]; exact ⟨rfl, rfl, rfl, rfl⟩⟩
  rw [e] at this
  exact this
theorem neN {x y : Nat} (hx : x < R) (hy : y < R) (p q : Operand) (w : World) : (do eqGuard .neq 50 p q (N x) (N y); binOp .neq 50 (N x) (N y) : Sem Value).run Tryd.prog w = .ok (.bool (!decide (x = y))) w := by
  have := neq_num (lim x 0) (lim x 1) (lim x 2) (lim x 3) (lim y 0) (lim y 1) (lim y 2) (lim y 3) p q w
  have e : decide (lim x 0 = lim y 0 ∧ lim x 1 = lim y 1 ∧ lim x 2 = lim y 2 ∧ lim x 3 = lim y 3) = decide (x = y) := decide_eq_decide.2 ⟨fun ⟨a, b, c, d⟩ => lim_inj hx hy a b c d, fun h => by rw [h]; exact ⟨rfl, rfl, rfl, rfl⟩⟩
  rw [e] at this
  exact this
theorem neN_p {x y : Nat} {b : Bool} (hx : x < R) (hy : y < R) (h : decide (x = y) = !b) (p q : Operand) (w : World) : (do eqGuard .neq 50 p q (N x) (N y); binOp .neq 50 (N x) (N y) : Sem Value).run Tryd.prog w = .ok (.bool b) w := by
  rw [neN hx hy, h, Bool.not_not]
theorem eqN_f {x : Nat} (hx : x < R) (h : x ≠ 0) (p q : Operand) (w : World) : (do eqGuard .eql 50 p q (N x) (.agg #[.int .u64 0, .int .u64 0, .int .u64 0, .int .u64 0]); binOp .eql 50 (N x) (.agg #[.int .u64 0, .int .u64 0, .int .u64 0, .int .u64 0]) : Sem Value).run Tryd.prog w = .ok (.bool false) w := by
  have := eqN hx (by decide : 0 < R) p q w
  rw [decide_eq_false h, N_zero] at this
  exact this
theorem built50_0 : Tryd.prog.built 50 [] = some #[.int .u64 0, .int .u64 0, .int .u64 0, .int .u64 0] := by kernel_rfl
theorem Make_ok {d h k r t i : Nat} {Q : Pt} (hd : d < R) (hh : h < R) (hk : k < R) (w : World) (hL : Laid w) (hK : LaidK w) (hH : LaidH w) (hb1 : 6 < w.heap.size) (sd : sec d = true) (hn : nV3 d (h % nn) = bl k) (hs : sec k = true) (hQ : smul k base = Q) (hr : xv Q % nn = r) (hi : i < nn) (hv : i * k % nn = 1) (ht : i * ((h + r * d % nn) % nn) % nn = t) (hr0 : r ≠ 0) (ht0 : t ≠ 0) : Calls Tryd.prog 24 #[B32 d, B32 h] w fun e w' => e = .returned (.tuple #[PT r t, .int .i64 0]) ∧ Bw w w' := by
  have hrR : r < R := by rw [← hr]; exact mod_R _
  have htR : t < R := by rw [← ht]; exact mod_R _
  go_enter Tryd.func24, Tryd.ntmps24
  refine ve_go ?_
  simp only [List.map_cons, List.map_nil]
  refine vseq ?_
  apply vrp
  · apply VE.cons
    · exact ev_box rfl rfl (gn rfl) rfl
    simp only [nmx, seval]
    apply VE.cons
    · exact ev_box rfl rfl (gn rfl) rfl
    simp only [nmx, seval]
    apply VE.cons
    · exact ev_alloc rfl rfl (gn rfl) Tryd.zeroValue24
    simp only [nmx, seval]
    apply VE.cons
    · exact ev_assign rfl (gn rfl)
    simp only [nmx, seval]
    exact VE.nil _
  · kernel_rfl
  change VOk _ _ _ _ _
  refine vseq ?_
  apply vrp
  · apply VE.cons
    · exact ev_alloc rfl rfl (gn rfl) Tryd.zeroValue24
    simp only [nmx, seval]
    exact VE.nil _
  · kernel_rfl
  change VOk _ _ _ _ _
  refine vseq ?_
  refine vseq ?_
  apply vrp
  · apply VE.cons
    · first | exact ev_load rfl (gn rfl) rfl rfl Tryd.underlying23 rfl Tryd.sizeOf23 rfl rfl | exact ev_loadx rfl (gn rfl) rfl Tryd.underlying23 rfl Tryd.sizeOf23 (by assumption) rfl | exact ev_loada rfl (gn rfl) rfl rfl Tryd.underlying23 rfl Tryd.sizeOf23 rfl
    simp only [nmx, seval]
    apply VE.cons
    · exact ev_callb (v := .bool true) rfl (gn rfl) rfl (en_of Tryd.func17 (by kernel_rfl) rfl) (fun w' hw' => by have a := fine_ok hd w' (hL.bw hw'); rw [sd] at a; exact a)
    simp only [nmx, seval]
    apply VE.cons
    · refine ev_pure' (gn rfl) (fun ρ w => by simp only [VS.act, SV.c, List.map_cons, List.map_nil]; go_simp; exact rfl) (fun _ _ => rfl)
    simp only [nmx, seval]
    exact VE.nil _
  · kernel_rfl
  change VOk _ _ _ _ _
  refine vcond_f rfl ?_
  refine vskip ?_
  change VOk _ _ _ _ _
  refine vseq ?_
  apply vrp
  · apply VE.cons
    · exact ev_calldt (D := datM nn) (ys := [N nn]) [] rfl rfl (gn rfl) rfl (en_of Tryd.func18 (by kernel_rfl) rfl) (fun ρ S w' hb hR => order_d w' (hL.bw hb))
    simp only [nmx, seval]
    apply VE.cons
    · exact ev_move rfl (gn rfl)
    simp only [nmx, seval]
    apply VE.cons
    · first | exact ev_extract rfl (gn rfl) rfl rfl | exact ev_extractt rfl (gn rfl) rfl rfl
    simp only [nmx, seval]
    apply VE.cons
    · first | exact ev_extract rfl (gn rfl) rfl rfl | exact ev_extractt rfl (gn rfl) rfl rfl
    simp only [nmx, seval]
    apply VE.cons
    · exact ev_alloc rfl rfl (gn rfl) Tryd.zeroValue50
    simp only [nmx, seval]
    apply VE.cons
    · exact ev_assign rfl (gn rfl)
    simp only [nmx, seval]
    apply VE.cons
    · exact ev_store rfl (gn rfl) rfl rfl rfl Tryd.sizeOf50 rfl (by simp) rfl
    simp only [nmx, seval]
    exact VE.nil _
  · kernel_rfl
  change VOk _ _ _ _ _
  refine vseq ?_
  apply vrp
  · apply VE.cons
    · first | exact ev_load rfl (gn rfl) rfl rfl Tryd.underlying23 rfl Tryd.sizeOf23 rfl rfl | exact ev_loadx rfl (gn rfl) rfl Tryd.underlying23 rfl Tryd.sizeOf23 (by assumption) rfl | exact ev_loada rfl (gn rfl) rfl rfl Tryd.underlying23 rfl Tryd.sizeOf23 rfl
    simp only [nmx, seval]
    apply VE.cons
    · first | exact ev_load rfl (gn rfl) rfl rfl Tryd.underlying23 rfl Tryd.sizeOf23 rfl rfl | exact ev_loadx rfl (gn rfl) rfl Tryd.underlying23 rfl Tryd.sizeOf23 (by assumption) rfl | exact ev_loada rfl (gn rfl) rfl rfl Tryd.underlying23 rfl Tryd.sizeOf23 rfl
    simp only [nmx, seval]
    apply VE.cons
    · exact ev_callb rfl (gn rfl) rfl (en_of Tryd.func50 (by kernel_rfl) rfl) (fun w' hw' => Nonce_ok hd hh hk w' (hL.bw hw') (hK.bw hw') (hH.bw hw') (Nat.lt_of_lt_of_le hb1 hw'.size) hn hs)
    simp only [nmx, seval]
    apply VE.cons
    · exact ev_alloc rfl rfl (gn rfl) Tryd.zeroValue23
    simp only [nmx, seval]
    apply VE.cons
    · exact ev_store rfl (gn rfl) rfl rfl rfl Tryd.sizeOf23 rfl (by simp) rfl
    simp only [nmx, seval]
    exact VE.nil _
  · kernel_rfl
  change VOk _ _ _ _ _
  refine vseq ?_
  apply vrd (by kernel_rfl)
  · apply VE.cons
    · exact ev_move rfl (gn rfl)
    simp only [nmx, seval]
    apply VE.cons
    · first | exact ev_load rfl (gn rfl) rfl rfl Tryd.underlying23 rfl Tryd.sizeOf23 rfl rfl | exact ev_loadx rfl (gn rfl) rfl Tryd.underlying23 rfl Tryd.sizeOf23 (by assumption) rfl | exact ev_loada rfl (gn rfl) rfl rfl Tryd.underlying23 rfl Tryd.sizeOf23 rfl
    simp only [nmx, seval]
    apply VE.cons
    · exact ev_call rfl (gn rfl) rfl (en_of Tryd.func13 (by kernel_rfl) rfl) (fun w' hw' => baseP w' (hL.bw hw'))
    simp only [nmx, seval]
    apply VE.cons
    · exact ev_call rfl (gn rfl) rfl (en_of Tryd.func12 (by kernel_rfl) rfl) (fun w' hw' => TimesE hk hQ TollEc.base_on w' (hL.bw hw'))
    simp only [nmx, seval]
    apply VE.cons
    · exact ev_fieldv rfl (gn rfl) rfl Tryd.underlying26 rfl Tryd.underlying23 rfl Tryd.sizeOf23 (vs := l32 (xv Q)) rfl
    simp only [nmx, seval]
    apply VE.cons
    · exact ev_call rfl (gn rfl) rfl (en_of Tryd.func20 (by kernel_rfl) rfl) (fun w' hw' => ofN (xv Q) (xv_lt Q) w')
    simp only [nmx, seval]
    apply VE.cons
    · exact ev_callp (v := N r) [21] rfl (gn rfl) rfl (en_of Tryd.func23 (by kernel_rfl) rfl) (fun ρ S w' hb hR => hr ▸ c_rest (id := 21) hR (by simp) rfl (xv_lt Q))
    simp only [nmx, seval]
    apply VE.cons
    · exact ev_alloc rfl rfl (gn rfl) Tryd.zeroValue50
    simp only [nmx, seval]
    apply VE.cons
    · exact ev_store rfl (gn rfl) rfl rfl rfl Tryd.sizeOf50 rfl (by simp) rfl
    simp only [nmx, seval]
    exact VE.nil _
  · kernel_rfl
  change VOk _ _ _ _ _
  refine vseq ?_
  apply vrp
  · apply VE.cons
    · exact ev_move rfl (gn rfl)
    simp only [nmx, seval]
    apply VE.cons
    · first | exact ev_load rfl (gn rfl) rfl rfl Tryd.underlying23 rfl Tryd.sizeOf23 rfl rfl | exact ev_loadx rfl (gn rfl) rfl Tryd.underlying23 rfl Tryd.sizeOf23 (by assumption) rfl | exact ev_loada rfl (gn rfl) rfl rfl Tryd.underlying23 rfl Tryd.sizeOf23 rfl
    simp only [nmx, seval]
    apply VE.cons
    · exact ev_call rfl (gn rfl) rfl (en_of Tryd.func20 (by kernel_rfl) rfl) (fun w' hw' => ofN k hk w')
    simp only [nmx, seval]
    apply VE.cons
    · exact ev_callp (v := .tuple #[N i, .int .i64 0]) [21] rfl (gn rfl) rfl (en_of Tryd.func19 (by kernel_rfl) rfl) (fun ρ S w' hb hR => c_inv (id := 21) hR (by simp) rfl hk hi hv)
    simp only [nmx, seval]
    apply VE.cons
    · exact ev_move rfl (gn rfl)
    simp only [nmx, seval]
    apply VE.cons
    · first | exact ev_extract rfl (gn rfl) rfl rfl | exact ev_extractt rfl (gn rfl) rfl rfl
    simp only [nmx, seval]
    apply VE.cons
    · first | exact ev_extract rfl (gn rfl) rfl rfl | exact ev_extractt rfl (gn rfl) rfl rfl
    simp only [nmx, seval]
    apply VE.cons
    · exact ev_alloc rfl rfl (gn rfl) Tryd.zeroValue50
    simp only [nmx, seval]
    apply VE.cons
    · exact ev_store rfl (gn rfl) rfl rfl rfl Tryd.sizeOf50 rfl (by simp) rfl
    simp only [nmx, seval]
    apply VE.cons
    · exact ev_assign rfl (gn rfl)
    simp only [nmx, seval]
    exact VE.nil _
  · kernel_rfl
  change VOk _ _ _ _ _
  refine vseq ?_
  apply vrd (by kernel_rfl)
  · apply VE.cons
    · exact ev_move rfl (gn rfl)
    simp only [nmx, seval]
    apply VE.cons
    · first | exact ev_load rfl (gn rfl) rfl rfl Tryd.underlying50 rfl Tryd.sizeOf50 rfl rfl | exact ev_loadx rfl (gn rfl) rfl Tryd.underlying50 rfl Tryd.sizeOf50 (by assumption) rfl | exact ev_loada rfl (gn rfl) rfl rfl Tryd.underlying50 rfl Tryd.sizeOf50 rfl
    simp only [nmx, seval]
    apply VE.cons
    · exact ev_move rfl (gn rfl)
    simp only [nmx, seval]
    apply VE.cons
    · first | exact ev_load rfl (gn rfl) rfl rfl Tryd.underlying23 rfl Tryd.sizeOf23 rfl rfl | exact ev_loadx rfl (gn rfl) rfl Tryd.underlying23 rfl Tryd.sizeOf23 (by assumption) rfl | exact ev_loada rfl (gn rfl) rfl rfl Tryd.underlying23 rfl Tryd.sizeOf23 rfl
    simp only [nmx, seval]
    apply VE.cons
    · exact ev_call rfl (gn rfl) rfl (en_of Tryd.func20 (by kernel_rfl) rfl) (fun w' hw' => ofN h hh w')
    simp only [nmx, seval]
    apply VE.cons
    · exact ev_move rfl (gn rfl)
    simp only [nmx, seval]
    apply VE.cons
    · first | exact ev_load rfl (gn rfl) rfl rfl Tryd.underlying50 rfl Tryd.sizeOf50 rfl rfl | exact ev_loadx rfl (gn rfl) rfl Tryd.underlying50 rfl Tryd.sizeOf50 (by assumption) rfl | exact ev_loada rfl (gn rfl) rfl rfl Tryd.underlying50 rfl Tryd.sizeOf50 rfl
    simp only [nmx, seval]
    apply VE.cons
    · first | exact ev_load rfl (gn rfl) rfl rfl Tryd.underlying23 rfl Tryd.sizeOf23 rfl rfl | exact ev_loadx rfl (gn rfl) rfl Tryd.underlying23 rfl Tryd.sizeOf23 (by assumption) rfl | exact ev_loada rfl (gn rfl) rfl rfl Tryd.underlying23 rfl Tryd.sizeOf23 rfl
    simp only [nmx, seval]
    apply VE.cons
    · exact ev_call rfl (gn rfl) rfl (en_of Tryd.func20 (by kernel_rfl) rfl) (fun w' hw' => ofN d hd w')
    simp only [nmx, seval]
    apply VE.cons
    · exact ev_callp (v := N (r * d % nn)) [21] rfl (gn rfl) rfl (en_of Tryd.func21 (by kernel_rfl) rfl) (fun ρ S w' hb hR => c_mul (id := 21) hR (by simp) rfl hrR hd)
    simp only [nmx, seval]
    apply VE.cons
    · exact ev_callp (v := N ((h + r * d % nn) % nn)) [21] rfl (gn rfl) rfl (en_of Tryd.func43 (by kernel_rfl) rfl) (fun ρ S w' hb hR => c_add (id := 21) hR (by simp) rfl hh (mod_R _))
    simp only [nmx, seval]
    apply VE.cons
    · exact ev_callp (v := N t) [21] rfl (gn rfl) rfl (en_of Tryd.func21 (by kernel_rfl) rfl) (fun ρ S w' hb hR => ht ▸ c_mul (id := 21) hR (by simp) rfl (lt_R hi) (mod_R _))
    simp only [nmx, seval]
    apply VE.cons
    · exact ev_alloc rfl rfl (gn rfl) Tryd.zeroValue50
    simp only [nmx, seval]
    apply VE.cons
    · exact ev_store rfl (gn rfl) rfl rfl rfl Tryd.sizeOf50 rfl (by simp) rfl
    simp only [nmx, seval]
    exact VE.nil _
  · kernel_rfl
  change VOk _ _ _ _ _
  refine vseq ?_
  refine vseq ?_
  apply vrp
  · apply VE.cons
    · exact ev_move rfl (gn rfl)
    simp only [nmx, seval]
    apply VE.cons
    · exact ev_neq (p := false) rfl (gn rfl) rfl rfl (by decide)
    simp only [nmx, seval]
    apply VE.cons
    · exact ev_move rfl (gn rfl)
    simp only [nmx, seval]
    apply VE.cons
    · first | exact Ev.skip (fun _ => rfl) | exact ev_load rfl (fun _ => rfl) rfl rfl Tryd.underlying50 rfl Tryd.sizeOf50 rfl rfl | exact ev_loadx rfl (fun _ => rfl) rfl Tryd.underlying50 rfl Tryd.sizeOf50 (by assumption) rfl | exact ev_loada rfl (fun _ => rfl) rfl rfl Tryd.underlying50 rfl Tryd.sizeOf50 rfl
    simp only [nmx, seval]
    apply VE.cons
    · first | exact Ev.skip (fun _ => rfl) | exact ev_build rfl (fun _ => rfl) rfl built50_0
    simp only [nmx, seval]
    apply VE.cons
    · first | exact Ev.skip (fun _ => rfl) | exact ev_bin (c := .bool false) rfl (fun _ => rfl) rfl rfl (fun w => eqN_f hrR hr0 _ _ w)
    simp only [nmx, seval]
    apply VE.cons
    · refine ev_pure' (gn rfl) (fun ρ w => by simp only [VS.act, SV.c, List.map_cons, List.map_nil]; go_simp; exact rfl) (fun _ _ => rfl)
    simp only [nmx, seval]
    apply VE.cons
    · exact ev_move rfl (gn rfl)
    simp only [nmx, seval]
    apply VE.cons
    · first | exact Ev.skip (fun _ => rfl) | exact ev_load rfl (fun _ => rfl) rfl rfl Tryd.underlying50 rfl Tryd.sizeOf50 rfl rfl | exact ev_loadx rfl (fun _ => rfl) rfl Tryd.underlying50 rfl Tryd.sizeOf50 (by assumption) rfl | exact ev_loada rfl (fun _ => rfl) rfl rfl Tryd.underlying50 rfl Tryd.sizeOf50 rfl
    simp only [nmx, seval]
    apply VE.cons
    · first | exact Ev.skip (fun _ => rfl) | exact ev_build rfl (fun _ => rfl) rfl built50_0
    simp only [nmx, seval]
    apply VE.cons
    · first | exact Ev.skip (fun _ => rfl) | exact ev_bin (c := .bool false) rfl (fun _ => rfl) rfl rfl (fun w => eqN_f htR ht0 _ _ w)
    simp only [nmx, seval]
    apply VE.cons
    · refine ev_pure' (gn rfl) (fun ρ w => by simp only [VS.act, SV.c, List.map_cons, List.map_nil]; go_simp; exact rfl) (fun _ _ => rfl)
    simp only [nmx, seval]
    exact VE.nil _
  · kernel_rfl
  change VOk _ _ _ _ _
  refine vcond_f rfl ?_
  refine vskip ?_
  change VOk _ _ _ _ _
  refine vseq ?_
  apply vrd (by kernel_rfl)
  · apply VE.cons
    · first | exact ev_load rfl (gn rfl) rfl rfl Tryd.underlying50 rfl Tryd.sizeOf50 rfl rfl | exact ev_loadx rfl (gn rfl) rfl Tryd.underlying50 rfl Tryd.sizeOf50 (by assumption) rfl | exact ev_loada rfl (gn rfl) rfl rfl Tryd.underlying50 rfl Tryd.sizeOf50 rfl
    simp only [nmx, seval]
    apply VE.cons
    · exact ev_call rfl (gn rfl) rfl (en_of Tryd.func22 (by kernel_rfl) rfl) (fun w' hw' => bytesN r w')
    simp only [nmx, seval]
    apply VE.cons
    · first | exact ev_load rfl (gn rfl) rfl rfl Tryd.underlying50 rfl Tryd.sizeOf50 rfl rfl | exact ev_loadx rfl (gn rfl) rfl Tryd.underlying50 rfl Tryd.sizeOf50 (by assumption) rfl | exact ev_loada rfl (gn rfl) rfl rfl Tryd.underlying50 rfl Tryd.sizeOf50 rfl
    simp only [nmx, seval]
    apply VE.cons
    · exact ev_call rfl (gn rfl) rfl (en_of Tryd.func22 (by kernel_rfl) rfl) (fun w' hw' => bytesN t w')
    simp only [nmx, seval]
    apply VE.cons
    · exact ev_alloc rfl rfl (gn rfl) Tryd.zeroValue23
    simp only [nmx, seval]
    apply VE.cons
    · exact ev_alloc rfl rfl (gn rfl) Tryd.zeroValue23
    simp only [nmx, seval]
    apply VE.cons
    · exact ev_store rfl (gn rfl) rfl rfl rfl Tryd.sizeOf23 rfl (by simp) rfl
    simp only [nmx, seval]
    apply VE.cons
    · exact ev_store rfl (gn rfl) rfl rfl rfl Tryd.sizeOf23 rfl (by simp) rfl
    simp only [nmx, seval]
    exact VE.nil _
  · kernel_rfl
  change VOk _ _ _ _ _
  refine vseq ?_
  apply vrd (by kernel_rfl)
  · apply VE.cons
    · exact ev_slicelh (a := 0) (b := 32) rfl (gn rfl) rfl Tryd.underlying24 Tryd.sizeOf5 rfl rfl (by decide) (by decide) (by decide)
    simp only [nmx, seval]
    apply VE.cons
    · exact ev_slicea rfl (gn rfl) rfl Tryd.underlying23 Tryd.sizeOf5
    simp only [nmx, seval]
    apply VE.cons
    · exact ev_copy (news := l32 r) (len := 32) (k := 32) rfl (gn rfl) rfl rfl rfl (rdg_cells rfl rfl rfl (by decide)) Tryd.underlying22 info5 rfl rfl (by first | decide | simp [l32]) rfl (by decide)
    simp only [nmx, seval]
    exact VE.nil _
  · kernel_rfl
  change VOk _ _ _ _ _
  refine vseq ?_
  apply vrd (by kernel_rfl)
  · apply VE.cons
    · exact ev_slicelh (a := 32) (b := 64) rfl (gn rfl) rfl Tryd.underlying24 Tryd.sizeOf5 rfl rfl (by decide) (by decide) (by decide)
    simp only [nmx, seval]
    apply VE.cons
    · exact ev_slicea rfl (gn rfl) rfl Tryd.underlying23 Tryd.sizeOf5
    simp only [nmx, seval]
    apply VE.cons
    · exact ev_copy (news := l32 t) (len := 32) (k := 32) rfl (gn rfl) rfl rfl rfl (rdg_cells rfl rfl rfl (by decide)) Tryd.underlying22 info5 rfl rfl (by first | decide | simp [l32]) rfl (by decide)
    simp only [nmx, seval]
    exact VE.nil _
  · kernel_rfl
  change VOk _ _ _ _ _
  refine vseq ?_
  apply vrp
  · apply VE.cons
    · first | exact ev_load rfl (gn rfl) rfl rfl Tryd.underlying24 rfl Tryd.sizeOf24 rfl rfl | exact ev_loadx rfl (gn rfl) rfl Tryd.underlying24 rfl Tryd.sizeOf24 (by assumption) rfl | exact ev_loada rfl (gn rfl) rfl rfl Tryd.underlying24 rfl Tryd.sizeOf24 rfl
    simp only [nmx, seval]
    apply VE.cons
    · exact ev_store rfl (gn rfl) rfl rfl rfl Tryd.sizeOf24 rfl (by simp) rfl
    simp only [nmx, seval]
    apply VE.cons
    · exact ev_assign rfl (gn rfl)
    simp only [nmx, seval]
    exact VE.nil _
  · kernel_rfl
  change VOk _ _ _ _ _
  refine vret ?_
  refine post_ret (res2 Tryd.results24 (rv_cell rfl rfl Tryd.underlying24 rfl Tryd.sizeOf24 rfl rfl) (rv_tmp rfl)) ?_
  intro ρ w' hr
  exact ⟨rfl, hr.1⟩
theorem Check_r {v : Value} {h r t : Nat} (_hh : h < R) (_hr : r < R) (_ht : t < R) (w : World) (_hL : Laid w) (hrd : ∀ w', Bw w w' → Calls Tryd.prog 5 #[v] w' fun e w'' => e = .returned (.tuple #[.agg #[.int .u8 0, .int .u8 0, .int .u8 0, .int .u8 0, .int .u8 0, .int .u8 0, .int .u8 0, .int .u8 0, .int .u8 0, .int .u8 0, .int .u8 0, .int .u8 0, .int .u8 0, .int .u8 0, .int .u8 0, .int .u8 0, .int .u8 0, .int .u8 0, .int .u8 0, .int .u8 0, .int .u8 0, .int .u8 0, .int .u8 0, .int .u8 0, .int .u8 0, .int .u8 0, .int .u8 0, .int .u8 0, .int .u8 0, .int .u8 0, .int .u8 0, .int .u8 0, .int .u8 0, .int .u8 0, .int .u8 0, .int .u8 0, .int .u8 0, .int .u8 0, .int .u8 0, .int .u8 0, .int .u8 0, .int .u8 0, .int .u8 0, .int .u8 0, .int .u8 0, .int .u8 0, .int .u8 0, .int .u8 0, .int .u8 0, .int .u8 0, .int .u8 0, .int .u8 0, .int .u8 0, .int .u8 0, .int .u8 0, .int .u8 0, .int .u8 0, .int .u8 0, .int .u8 0, .int .u8 0, .int .u8 0, .int .u8 0, .int .u8 0, .int .u8 0], .int .i64 15]) ∧ Bw w' w'') : Calls Tryd.prog 6 #[v, B32 h, PT r t] w fun e w' => e = .returned (.int .i64 15) ∧ Bw w w' := by
  go_enter Tryd.func6, Tryd.ntmps6
  refine ve_go ?_
  simp only [List.map_cons, List.map_nil]
  refine vseq ?_
  apply vrp
  · apply VE.cons
    · exact ev_box rfl rfl (gn rfl) rfl
    simp only [nmx, seval]
    apply VE.cons
    · exact ev_box rfl rfl (gn rfl) rfl
    simp only [nmx, seval]
    apply VE.cons
    · exact ev_assign rfl (gn rfl)
    simp only [nmx, seval]
    exact VE.nil _
  · kernel_rfl
  change VOk _ _ _ _ _
  refine vseq ?_
  apply vrp
  · apply VE.cons
    · exact ev_move rfl (gn rfl)
    simp only [nmx, seval]
    apply VE.cons
    · exact ev_callb (v := .tuple #[.agg #[.int .u8 0, .int .u8 0, .int .u8 0, .int .u8 0, .int .u8 0, .int .u8 0, .int .u8 0, .int .u8 0, .int .u8 0, .int .u8 0, .int .u8 0, .int .u8 0, .int .u8 0, .int .u8 0, .int .u8 0, .int .u8 0, .int .u8 0, .int .u8 0, .int .u8 0, .int .u8 0, .int .u8 0, .int .u8 0, .int .u8 0, .int .u8 0, .int .u8 0, .int .u8 0, .int .u8 0, .int .u8 0, .int .u8 0, .int .u8 0, .int .u8 0, .int .u8 0, .int .u8 0, .int .u8 0, .int .u8 0, .int .u8 0, .int .u8 0, .int .u8 0, .int .u8 0, .int .u8 0, .int .u8 0, .int .u8 0, .int .u8 0, .int .u8 0, .int .u8 0, .int .u8 0, .int .u8 0, .int .u8 0, .int .u8 0, .int .u8 0, .int .u8 0, .int .u8 0, .int .u8 0, .int .u8 0, .int .u8 0, .int .u8 0, .int .u8 0, .int .u8 0, .int .u8 0, .int .u8 0, .int .u8 0, .int .u8 0, .int .u8 0, .int .u8 0], .int .i64 15]) rfl (gn rfl) rfl (en_of Tryd.func5 (by kernel_rfl) rfl) (fun w' hw' => hrd w' hw')
    simp only [nmx, seval]
    apply VE.cons
    · exact ev_move rfl (gn rfl)
    simp only [nmx, seval]
    apply VE.cons
    · first | exact ev_extract rfl (gn rfl) rfl rfl | exact ev_extractt rfl (gn rfl) rfl rfl
    simp only [nmx, seval]
    apply VE.cons
    · first | exact ev_extract rfl (gn rfl) rfl rfl | exact ev_extractt rfl (gn rfl) rfl rfl
    simp only [nmx, seval]
    apply VE.cons
    · exact ev_alloc rfl rfl (gn rfl) Tryd.zeroValue26
    simp only [nmx, seval]
    apply VE.cons
    · exact ev_store rfl (gn rfl) rfl rfl rfl Tryd.sizeOf26 rfl (by simp) rfl
    simp only [nmx, seval]
    apply VE.cons
    · exact ev_assign rfl (gn rfl)
    simp only [nmx, seval]
    exact VE.nil _
  · kernel_rfl
  change VOk _ _ _ _ _
  refine vseq ?_
  refine vseq ?_
  apply vrp
  · apply VE.cons
    · exact ev_move rfl (gn rfl)
    simp only [nmx, seval]
    apply VE.cons
    · exact ev_neq (p := true) rfl (gn rfl) rfl rfl (by decide)
    simp only [nmx, seval]
    exact VE.nil _
  · kernel_rfl
  change VOk _ _ _ _ _
  refine vcond_t rfl ?_
  refine vseq ?_
  apply vrp
  · apply VE.cons
    · exact ev_move rfl (gn rfl)
    simp only [nmx, seval]
    apply VE.cons
    · exact ev_assign rfl (gn rfl)
    simp only [nmx, seval]
    exact VE.nil _
  · kernel_rfl
  change VOk _ _ _ _ _
  refine vret ?_
  refine post_ret (res1 Tryd.results6 (rv_tmp rfl)) ?_
  intro ρ w' hr
  exact ⟨rfl, hr.1⟩
theorem Check_f1 {v : Value} {h r t : Nat} (_hh : h < R) (hr : r < R) (_ht : t < R) (w : World) (hL : Laid w) {x y : Nat} (hrd : ∀ w', Bw w w' → Calls Tryd.prog 5 #[v] w' fun e w'' => e = .returned (.tuple #[PT x y, .int .i64 0]) ∧ Bw w' w'') (sr : sec r = false) : Calls Tryd.prog 6 #[v, B32 h, PT r t] w fun e w' => e = .returned (.int .i64 6) ∧ Bw w w' := by
  go_enter Tryd.func6, Tryd.ntmps6
  refine ve_go ?_
  simp only [List.map_cons, List.map_nil]
  refine vseq ?_
  apply vrp
  · apply VE.cons
    · exact ev_box rfl rfl (gn rfl) rfl
    simp only [nmx, seval]
    apply VE.cons
    · exact ev_box rfl rfl (gn rfl) rfl
    simp only [nmx, seval]
    apply VE.cons
    · exact ev_assign rfl (gn rfl)
    simp only [nmx, seval]
    exact VE.nil _
  · kernel_rfl
  change VOk _ _ _ _ _
  refine vseq ?_
  apply vrp
  · apply VE.cons
    · exact ev_move rfl (gn rfl)
    simp only [nmx, seval]
    apply VE.cons
    · exact ev_callb (v := .tuple #[PT x y, .int .i64 0]) rfl (gn rfl) rfl (en_of Tryd.func5 (by kernel_rfl) rfl) (fun w' hw' => hrd w' hw')
    simp only [nmx, seval]
    apply VE.cons
    · exact ev_move rfl (gn rfl)
    simp only [nmx, seval]
    apply VE.cons
    · first | exact ev_extract rfl (gn rfl) rfl rfl | exact ev_extractt rfl (gn rfl) rfl rfl
    simp only [nmx, seval]
    apply VE.cons
    · first | exact ev_extract rfl (gn rfl) rfl rfl | exact ev_extractt rfl (gn rfl) rfl rfl
    simp only [nmx, seval]
    apply VE.cons
    · exact ev_alloc rfl rfl (gn rfl) Tryd.zeroValue26
    simp only [nmx, seval]
    apply VE.cons
    · exact ev_store rfl (gn rfl) rfl rfl rfl Tryd.sizeOf26 rfl (by simp) rfl
    simp only [nmx, seval]
    apply VE.cons
    · exact ev_assign rfl (gn rfl)
    simp only [nmx, seval]
    exact VE.nil _
  · kernel_rfl
  change VOk _ _ _ _ _
  refine vseq ?_
  refine vseq ?_
  apply vrp
  · apply VE.cons
    · exact ev_move rfl (gn rfl)
    simp only [nmx, seval]
    apply VE.cons
    · exact ev_neq (p := false) rfl (gn rfl) rfl rfl (by decide)
    simp only [nmx, seval]
    exact VE.nil _
  · kernel_rfl
  change VOk _ _ _ _ _
  refine vcond_f rfl ?_
  refine vskip ?_
  change VOk _ _ _ _ _
  refine vseq ?_
  apply vrd (by kernel_rfl)
  · apply VE.cons
    · exact ev_slicelh (a := 0) (b := 32) rfl (gn rfl) rfl Tryd.underlying24 Tryd.sizeOf5 rfl rfl (by decide) (by decide) (by decide)
    simp only [nmx, seval]
    apply VE.cons
    · exact ev_arr rfl (gn rfl) rfl Tryd.underlying23 (by decide)
    simp only [nmx, seval]
    apply VE.cons
    · first | exact ev_load rfl (gn rfl) rfl rfl Tryd.underlying23 rfl Tryd.sizeOf23 rfl rfl | exact ev_loadx rfl (gn rfl) rfl Tryd.underlying23 rfl Tryd.sizeOf23 (by assumption) rfl | exact ev_loada rfl (gn rfl) rfl rfl Tryd.underlying23 rfl Tryd.sizeOf23 rfl
    simp only [nmx, seval]
    apply VE.cons
    · exact ev_slicelh (a := 32) (b := 64) rfl (gn rfl) rfl Tryd.underlying24 Tryd.sizeOf5 rfl rfl (by decide) (by decide) (by decide)
    simp only [nmx, seval]
    apply VE.cons
    · exact ev_arr rfl (gn rfl) rfl Tryd.underlying23 (by decide)
    simp only [nmx, seval]
    apply VE.cons
    · first | exact ev_load rfl (gn rfl) rfl rfl Tryd.underlying23 rfl Tryd.sizeOf23 rfl rfl | exact ev_loadx rfl (gn rfl) rfl Tryd.underlying23 rfl Tryd.sizeOf23 (by assumption) rfl | exact ev_loada rfl (gn rfl) rfl rfl Tryd.underlying23 rfl Tryd.sizeOf23 rfl
    simp only [nmx, seval]
    apply VE.cons
    · exact ev_alloc rfl rfl (gn rfl) Tryd.zeroValue23
    simp only [nmx, seval]
    apply VE.cons
    · exact ev_alloc rfl rfl (gn rfl) Tryd.zeroValue23
    simp only [nmx, seval]
    apply VE.cons
    · exact ev_store rfl (gn rfl) rfl rfl rfl Tryd.sizeOf23 rfl (by simp) rfl
    simp only [nmx, seval]
    apply VE.cons
    · exact ev_store rfl (gn rfl) rfl rfl rfl Tryd.sizeOf23 rfl (by simp) rfl
    simp only [nmx, seval]
    exact VE.nil _
  · kernel_rfl
  change VOk _ _ _ _ _
  refine vseq ?_
  refine vseq ?_
  apply vrp
  · apply VE.cons
    · first | exact ev_load rfl (gn rfl) rfl rfl Tryd.underlying23 rfl Tryd.sizeOf23 rfl rfl | exact ev_loadx rfl (gn rfl) rfl Tryd.underlying23 rfl Tryd.sizeOf23 (by assumption) rfl | exact ev_loada rfl (gn rfl) rfl rfl Tryd.underlying23 rfl Tryd.sizeOf23 rfl
    simp only [nmx, seval]
    apply VE.cons
    · exact ev_callb (v := .bool false) rfl (gn rfl) rfl (en_of Tryd.func17 (by kernel_rfl) rfl) (fun w' hw' => by have a := fine_ok hr w' (hL.bw hw'); rw [sr] at a; exact a)
    simp only [nmx, seval]
    apply VE.cons
    · refine ev_pure' (gn rfl) (fun ρ w => by simp only [VS.act, SV.c, List.map_cons, List.map_nil]; go_simp; exact rfl) (fun _ _ => rfl)
    simp only [nmx, seval]
    apply VE.cons
    · exact ev_move rfl (gn rfl)
    simp only [nmx, seval]
    apply VE.cons
    · first | exact Ev.skip (fun _ => rfl) | exact ev_load rfl (fun _ => rfl) rfl rfl Tryd.underlying23 rfl Tryd.sizeOf23 rfl rfl | exact ev_loadx rfl (fun _ => rfl) rfl Tryd.underlying23 rfl Tryd.sizeOf23 (by assumption) rfl | exact ev_loada rfl (fun _ => rfl) rfl rfl Tryd.underlying23 rfl Tryd.sizeOf23 rfl
    simp only [nmx, seval]
    apply VE.cons
    · first | exact Ev.skip (fun _ => rfl) | refine ev_pure' (fun _ => rfl) (fun ρ w => by simp only [VS.act, SV.c, List.map_cons, List.map_nil]; go_simp; exact rfl) (fun _ _ => rfl)
    simp only [nmx, seval]
    apply VE.cons
    · first | exact Ev.skip (fun _ => rfl) | refine ev_pure' (fun _ => rfl) (fun ρ w => by simp only [VS.act, SV.c, List.map_cons, List.map_nil]; go_simp; exact rfl) (fun _ _ => rfl)
    simp only [nmx, seval]
    apply VE.cons
    · refine ev_pure' (gn rfl) (fun ρ w => by simp only [VS.act, SV.c, List.map_cons, List.map_nil]; go_simp; exact rfl) (fun _ _ => rfl)
    simp only [nmx, seval]
    exact VE.nil _
  · kernel_rfl
  change VOk _ _ _ _ _
  refine vcond_t rfl ?_
  refine vseq ?_
  apply vrp
  · apply VE.cons
    · exact ev_assign rfl (gn rfl)
    simp only [nmx, seval]
    exact VE.nil _
  · kernel_rfl
  change VOk _ _ _ _ _
  refine vret ?_
  refine post_ret (res1 Tryd.results6 (rv_tmp rfl)) ?_
  intro ρ w' hr
  exact ⟨rfl, hr.1⟩
theorem Check_f2 {v : Value} {h r t : Nat} (_hh : h < R) (hr : r < R) (ht : t < R) (w : World) (hL : Laid w) {x y : Nat} (hrd : ∀ w', Bw w w' → Calls Tryd.prog 5 #[v] w' fun e w'' => e = .returned (.tuple #[PT x y, .int .i64 0]) ∧ Bw w' w'') (sr : sec r = true) (st : sec t = false) : Calls Tryd.prog 6 #[v, B32 h, PT r t] w fun e w' => e = .returned (.int .i64 6) ∧ Bw w w' := by
  go_enter Tryd.func6, Tryd.ntmps6
  refine ve_go ?_
  simp only [List.map_cons, List.map_nil]
  refine vseq ?_
  apply vrp
  · apply VE.cons
    · exact ev_box rfl rfl (gn rfl) rfl
    simp only [nmx, seval]
    apply VE.cons
    · exact ev_box rfl rfl (gn rfl) rfl
    simp only [nmx, seval]
    apply VE.cons
    · exact ev_assign rfl (gn rfl)
    simp only [nmx, seval]
    exact VE.nil _
  · kernel_rfl
  change VOk _ _ _ _ _
  refine vseq ?_
  apply vrp
  · apply VE.cons
    · exact ev_move rfl (gn rfl)
    simp only [nmx, seval]
    apply VE.cons
    · exact ev_callb (v := .tuple #[PT x y, .int .i64 0]) rfl (gn rfl) rfl (en_of Tryd.func5 (by kernel_rfl) rfl) (fun w' hw' => hrd w' hw')
    simp only [nmx, seval]
    apply VE.cons
    · exact ev_move rfl (gn rfl)
    simp only [nmx, seval]
    apply VE.cons
    · first | exact ev_extract rfl (gn rfl) rfl rfl | exact ev_extractt rfl (gn rfl) rfl rfl
    simp only [nmx, seval]
    apply VE.cons
    · first | exact ev_extract rfl (gn rfl) rfl rfl | exact ev_extractt rfl (gn rfl) rfl rfl
    simp only [nmx, seval]
    apply VE.cons
    · exact ev_alloc rfl rfl (gn rfl) Tryd.zeroValue26
    simp only [nmx, seval]
    apply VE.cons
    · exact ev_store rfl (gn rfl) rfl rfl rfl Tryd.sizeOf26 rfl (by simp) rfl
    simp only [nmx, seval]
    apply VE.cons
    · exact ev_assign rfl (gn rfl)
    simp only [nmx, seval]
    exact VE.nil _
  · kernel_rfl
  change VOk _ _ _ _ _
  refine vseq ?_
  refine vseq ?_
  apply vrp
  · apply VE.cons
    · exact ev_move rfl (gn rfl)
    simp only [nmx, seval]
    apply VE.cons
    · exact ev_neq (p := false) rfl (gn rfl) rfl rfl (by decide)
    simp only [nmx, seval]
    exact VE.nil _
  · kernel_rfl
  change VOk _ _ _ _ _
  refine vcond_f rfl ?_
  refine vskip ?_
  change VOk _ _ _ _ _
  refine vseq ?_
  apply vrd (by kernel_rfl)
  · apply VE.cons
    · exact ev_slicelh (a := 0) (b := 32) rfl (gn rfl) rfl Tryd.underlying24 Tryd.sizeOf5 rfl rfl (by decide) (by decide) (by decide)
    simp only [nmx, seval]
    apply VE.cons
    · exact ev_arr rfl (gn rfl) rfl Tryd.underlying23 (by decide)
    simp only [nmx, seval]
    apply VE.cons
    · first | exact ev_load rfl (gn rfl) rfl rfl Tryd.underlying23 rfl Tryd.sizeOf23 rfl rfl | exact ev_loadx rfl (gn rfl) rfl Tryd.underlying23 rfl Tryd.sizeOf23 (by assumption) rfl | exact ev_loada rfl (gn rfl) rfl rfl Tryd.underlying23 rfl Tryd.sizeOf23 rfl
    simp only [nmx, seval]
    apply VE.cons
    · exact ev_slicelh (a := 32) (b := 64) rfl (gn rfl) rfl Tryd.underlying24 Tryd.sizeOf5 rfl rfl (by decide) (by decide) (by decide)
    simp only [nmx, seval]
    apply VE.cons
    · exact ev_arr rfl (gn rfl) rfl Tryd.underlying23 (by decide)
    simp only [nmx, seval]
    apply VE.cons
    · first | exact ev_load rfl (gn rfl) rfl rfl Tryd.underlying23 rfl Tryd.sizeOf23 rfl rfl | exact ev_loadx rfl (gn rfl) rfl Tryd.underlying23 rfl Tryd.sizeOf23 (by assumption) rfl | exact ev_loada rfl (gn rfl) rfl rfl Tryd.underlying23 rfl Tryd.sizeOf23 rfl
    simp only [nmx, seval]
    apply VE.cons
    · exact ev_alloc rfl rfl (gn rfl) Tryd.zeroValue23
    simp only [nmx, seval]
    apply VE.cons
    · exact ev_alloc rfl rfl (gn rfl) Tryd.zeroValue23
    simp only [nmx, seval]
    apply VE.cons
    · exact ev_store rfl (gn rfl) rfl rfl rfl Tryd.sizeOf23 rfl (by simp) rfl
    simp only [nmx, seval]
    apply VE.cons
    · exact ev_store rfl (gn rfl) rfl rfl rfl Tryd.sizeOf23 rfl (by simp) rfl
    simp only [nmx, seval]
    exact VE.nil _
  · kernel_rfl
  change VOk _ _ _ _ _
  refine vseq ?_
  refine vseq ?_
  apply vrp
  · apply VE.cons
    · first | exact ev_load rfl (gn rfl) rfl rfl Tryd.underlying23 rfl Tryd.sizeOf23 rfl rfl | exact ev_loadx rfl (gn rfl) rfl Tryd.underlying23 rfl Tryd.sizeOf23 (by assumption) rfl | exact ev_loada rfl (gn rfl) rfl rfl Tryd.underlying23 rfl Tryd.sizeOf23 rfl
    simp only [nmx, seval]
    apply VE.cons
    · exact ev_callb (v := .bool true) rfl (gn rfl) rfl (en_of Tryd.func17 (by kernel_rfl) rfl) (fun w' hw' => by have a := fine_ok hr w' (hL.bw hw'); rw [sr] at a; exact a)
    simp only [nmx, seval]
    apply VE.cons
    · refine ev_pure' (gn rfl) (fun ρ w => by simp only [VS.act, SV.c, List.map_cons, List.map_nil]; go_simp; exact rfl) (fun _ _ => rfl)
    simp only [nmx, seval]
    apply VE.cons
    · exact ev_move rfl (gn rfl)
    simp only [nmx, seval]
    apply VE.cons
    · first | exact Ev.skip (fun _ => rfl) | exact ev_load rfl (fun _ => rfl) rfl rfl Tryd.underlying23 rfl Tryd.sizeOf23 rfl rfl | exact ev_loadx rfl (fun _ => rfl) rfl Tryd.underlying23 rfl Tryd.sizeOf23 (by assumption) rfl | exact ev_loada rfl (fun _ => rfl) rfl rfl Tryd.underlying23 rfl Tryd.sizeOf23 rfl
    simp only [nmx, seval]
    apply VE.cons
    · first | exact Ev.skip (fun _ => rfl) | exact ev_callb (v := .bool false) rfl (fun _ => rfl) rfl (en_of Tryd.func17 (by kernel_rfl) rfl) (fun w' hw' => by have a := fine_ok ht w' (hL.bw hw'); rw [st] at a; exact a)
    simp only [nmx, seval]
    apply VE.cons
    · first | exact Ev.skip (fun _ => rfl) | refine ev_pure' (fun _ => rfl) (fun ρ w => by simp only [VS.act, SV.c, List.map_cons, List.map_nil]; go_simp; exact rfl) (fun _ _ => rfl)
    simp only [nmx, seval]
    apply VE.cons
    · refine ev_pure' (gn rfl) (fun ρ w => by simp only [VS.act, SV.c, List.map_cons, List.map_nil]; go_simp; exact rfl) (fun _ _ => rfl)
    simp only [nmx, seval]
    exact VE.nil _
  · kernel_rfl
  change VOk _ _ _ _ _
  refine vcond_t rfl ?_
  refine vseq ?_
  apply vrp
  · apply VE.cons
    · exact ev_assign rfl (gn rfl)
    simp only [nmx, seval]
    exact VE.nil _
  · kernel_rfl
  change VOk _ _ _ _ _
  refine vret ?_
  refine post_ret (res1 Tryd.results6 (rv_tmp rfl)) ?_
  intro ρ w' hr
  exact ⟨rfl, hr.1⟩
theorem Check_i {v : Value} {h r t : Nat} (hh : h < R) (hr : r < R) (ht : t < R) (w : World) (hL : Laid w) {x y i : Nat} {A B X : Pt} (hx : x < R) (hy : y < R) (hrd : ∀ w', Bw w w' → Calls Tryd.prog 5 #[v] w' fun e w'' => e = .returned (.tuple #[PT x y, .int .i64 0]) ∧ Bw w' w'') (sr : sec r = true) (st : sec t = true) (hi : i < nn) (hv : i * t % nn = 1) (hA : smul (i * h % nn) base = A) (hB : smul (i * r % nn) (toP x y) = B) (oA : A.on) (oB : B.on) (hX : add A B = X) (oX : X.on) (hi0 : X = .inf) : Calls Tryd.prog 6 #[v, B32 h, PT r t] w fun e w' => e = .returned (.int .i64 6) ∧ Bw w w' := by
  go_enter Tryd.func6, Tryd.ntmps6
  refine ve_go ?_
  simp only [List.map_cons, List.map_nil]
  refine vseq ?_
  apply vrp
  · apply VE.cons
    · exact ev_box rfl rfl (gn rfl) rfl
    simp only [nmx, seval]
    apply VE.cons
    · exact ev_box rfl rfl (gn rfl) rfl
    simp only [nmx, seval]
    apply VE.cons
    · exact ev_assign rfl (gn rfl)
    simp only [nmx, seval]
    exact VE.nil _
  · kernel_rfl
  change VOk _ _ _ _ _
  refine vseq ?_
  apply vrp
  · apply VE.cons
    · exact ev_move rfl (gn rfl)
    simp only [nmx, seval]
    apply VE.cons
    · exact ev_callb (v := .tuple #[PT x y, .int .i64 0]) rfl (gn rfl) rfl (en_of Tryd.func5 (by kernel_rfl) rfl) (fun w' hw' => hrd w' hw')
    simp only [nmx, seval]
    apply VE.cons
    · exact ev_move rfl (gn rfl)
    simp only [nmx, seval]
    apply VE.cons
    · first | exact ev_extract rfl (gn rfl) rfl rfl | exact ev_extractt rfl (gn rfl) rfl rfl
    simp only [nmx, seval]
    apply VE.cons
    · first | exact ev_extract rfl (gn rfl) rfl rfl | exact ev_extractt rfl (gn rfl) rfl rfl
    simp only [nmx, seval]
    apply VE.cons
    · exact ev_alloc rfl rfl (gn rfl) Tryd.zeroValue26
    simp only [nmx, seval]
    apply VE.cons
    · exact ev_store rfl (gn rfl) rfl rfl rfl Tryd.sizeOf26 rfl (by simp) rfl
    simp only [nmx, seval]
    apply VE.cons
    · exact ev_assign rfl (gn rfl)
    simp only [nmx, seval]
    exact VE.nil _
  · kernel_rfl
  change VOk _ _ _ _ _
  refine vseq ?_
  refine vseq ?_
  apply vrp
  · apply VE.cons
    · exact ev_move rfl (gn rfl)
    simp only [nmx, seval]
    apply VE.cons
    · exact ev_neq (p := false) rfl (gn rfl) rfl rfl (by decide)
    simp only [nmx, seval]
    exact VE.nil _
  · kernel_rfl
  change VOk _ _ _ _ _
  refine vcond_f rfl ?_
  refine vskip ?_
  change VOk _ _ _ _ _
  refine vseq ?_
  apply vrd (by kernel_rfl)
  · apply VE.cons
    · exact ev_slicelh (a := 0) (b := 32) rfl (gn rfl) rfl Tryd.underlying24 Tryd.sizeOf5 rfl rfl (by decide) (by decide) (by decide)
    simp only [nmx, seval]
    apply VE.cons
    · exact ev_arr rfl (gn rfl) rfl Tryd.underlying23 (by decide)
    simp only [nmx, seval]
    apply VE.cons
    · first | exact ev_load rfl (gn rfl) rfl rfl Tryd.underlying23 rfl Tryd.sizeOf23 rfl rfl | exact ev_loadx rfl (gn rfl) rfl Tryd.underlying23 rfl Tryd.sizeOf23 (by assumption) rfl | exact ev_loada rfl (gn rfl) rfl rfl Tryd.underlying23 rfl Tryd.sizeOf23 rfl
    simp only [nmx, seval]
    apply VE.cons
    · exact ev_slicelh (a := 32) (b := 64) rfl (gn rfl) rfl Tryd.underlying24 Tryd.sizeOf5 rfl rfl (by decide) (by decide) (by decide)
    simp only [nmx, seval]
    apply VE.cons
    · exact ev_arr rfl (gn rfl) rfl Tryd.underlying23 (by decide)
    simp only [nmx, seval]
    apply VE.cons
    · first | exact ev_load rfl (gn rfl) rfl rfl Tryd.underlying23 rfl Tryd.sizeOf23 rfl rfl | exact ev_loadx rfl (gn rfl) rfl Tryd.underlying23 rfl Tryd.sizeOf23 (by assumption) rfl | exact ev_loada rfl (gn rfl) rfl rfl Tryd.underlying23 rfl Tryd.sizeOf23 rfl
    simp only [nmx, seval]
    apply VE.cons
    · exact ev_alloc rfl rfl (gn rfl) Tryd.zeroValue23
    simp only [nmx, seval]
    apply VE.cons
    · exact ev_alloc rfl rfl (gn rfl) Tryd.zeroValue23
    simp only [nmx, seval]
    apply VE.cons
    · exact ev_store rfl (gn rfl) rfl rfl rfl Tryd.sizeOf23 rfl (by simp) rfl
    simp only [nmx, seval]
    apply VE.cons
    · exact ev_store rfl (gn rfl) rfl rfl rfl Tryd.sizeOf23 rfl (by simp) rfl
    simp only [nmx, seval]
    exact VE.nil _
  · kernel_rfl
  change VOk _ _ _ _ _
  refine vseq ?_
  refine vseq ?_
  apply vrp
  · apply VE.cons
    · first | exact ev_load rfl (gn rfl) rfl rfl Tryd.underlying23 rfl Tryd.sizeOf23 rfl rfl | exact ev_loadx rfl (gn rfl) rfl Tryd.underlying23 rfl Tryd.sizeOf23 (by assumption) rfl | exact ev_loada rfl (gn rfl) rfl rfl Tryd.underlying23 rfl Tryd.sizeOf23 rfl
    simp only [nmx, seval]
    apply VE.cons
    · exact ev_callb (v := .bool true) rfl (gn rfl) rfl (en_of Tryd.func17 (by kernel_rfl) rfl) (fun w' hw' => by have a := fine_ok hr w' (hL.bw hw'); rw [sr] at a; exact a)
    simp only [nmx, seval]
    apply VE.cons
    · refine ev_pure' (gn rfl) (fun ρ w => by simp only [VS.act, SV.c, List.map_cons, List.map_nil]; go_simp; exact rfl) (fun _ _ => rfl)
    simp only [nmx, seval]
    apply VE.cons
    · exact ev_move rfl (gn rfl)
    simp only [nmx, seval]
    apply VE.cons
    · first | exact Ev.skip (fun _ => rfl) | exact ev_load rfl (fun _ => rfl) rfl rfl Tryd.underlying23 rfl Tryd.sizeOf23 rfl rfl | exact ev_loadx rfl (fun _ => rfl) rfl Tryd.underlying23 rfl Tryd.sizeOf23 (by assumption) rfl | exact ev_loada rfl (fun _ => rfl) rfl rfl Tryd.underlying23 rfl Tryd.sizeOf23 rfl
    simp only [nmx, seval]
    apply VE.cons
    · first | exact Ev.skip (fun _ => rfl) | exact ev_callb (v := .bool true) rfl (fun _ => rfl) rfl (en_of Tryd.func17 (by kernel_rfl) rfl) (fun w' hw' => by have a := fine_ok ht w' (hL.bw hw'); rw [st] at a; exact a)
    simp only [nmx, seval]
    apply VE.cons
    · first | exact Ev.skip (fun _ => rfl) | refine ev_pure' (fun _ => rfl) (fun ρ w => by simp only [VS.act, SV.c, List.map_cons, List.map_nil]; go_simp; exact rfl) (fun _ _ => rfl)
    simp only [nmx, seval]
    apply VE.cons
    · refine ev_pure' (gn rfl) (fun ρ w => by simp only [VS.act, SV.c, List.map_cons, List.map_nil]; go_simp; exact rfl) (fun _ _ => rfl)
    simp only [nmx, seval]
    exact VE.nil _
  · kernel_rfl
  change VOk _ _ _ _ _
  refine vcond_f rfl ?_
  refine vskip ?_
  change VOk _ _ _ _ _
  refine vseq ?_
  apply vrp
  · apply VE.cons
    · exact ev_calldt (D := datM nn) (ys := [N nn]) [] rfl rfl (gn rfl) rfl (en_of Tryd.func18 (by kernel_rfl) rfl) (fun ρ S w' hb hR => order_d w' (hL.bw hb))
    simp only [nmx, seval]
    apply VE.cons
    · exact ev_move rfl (gn rfl)
    simp only [nmx, seval]
    apply VE.cons
    · first | exact ev_extract rfl (gn rfl) rfl rfl | exact ev_extractt rfl (gn rfl) rfl rfl
    simp only [nmx, seval]
    apply VE.cons
    · first | exact ev_extract rfl (gn rfl) rfl rfl | exact ev_extractt rfl (gn rfl) rfl rfl
    simp only [nmx, seval]
    apply VE.cons
    · exact ev_alloc rfl rfl (gn rfl) Tryd.zeroValue50
    simp only [nmx, seval]
    apply VE.cons
    · exact ev_assign rfl (gn rfl)
    simp only [nmx, seval]
    apply VE.cons
    · exact ev_store rfl (gn rfl) rfl rfl rfl Tryd.sizeOf50 rfl (by simp) rfl
    simp only [nmx, seval]
    exact VE.nil _
  · kernel_rfl
  change VOk _ _ _ _ _
  refine vseq ?_
  apply vrp
  · apply VE.cons
    · exact ev_move rfl (gn rfl)
    simp only [nmx, seval]
    apply VE.cons
    · first | exact ev_load rfl (gn rfl) rfl rfl Tryd.underlying23 rfl Tryd.sizeOf23 rfl rfl | exact ev_loadx rfl (gn rfl) rfl Tryd.underlying23 rfl Tryd.sizeOf23 (by assumption) rfl | exact ev_loada rfl (gn rfl) rfl rfl Tryd.underlying23 rfl Tryd.sizeOf23 rfl
    simp only [nmx, seval]
    apply VE.cons
    · exact ev_call rfl (gn rfl) rfl (en_of Tryd.func20 (by kernel_rfl) rfl) (fun w' hw' => ofN t ht w')
    simp only [nmx, seval]
    apply VE.cons
    · exact ev_callp (v := .tuple #[N i, .int .i64 0]) [40] rfl (gn rfl) rfl (en_of Tryd.func19 (by kernel_rfl) rfl) (fun ρ S w' hb hR => c_inv (id := 40) hR (by simp) rfl ht hi hv)
    simp only [nmx, seval]
    apply VE.cons
    · exact ev_move rfl (gn rfl)
    simp only [nmx, seval]
    apply VE.cons
    · first | exact ev_extract rfl (gn rfl) rfl rfl | exact ev_extractt rfl (gn rfl) rfl rfl
    simp only [nmx, seval]
    apply VE.cons
    · first | exact ev_extract rfl (gn rfl) rfl rfl | exact ev_extractt rfl (gn rfl) rfl rfl
    simp only [nmx, seval]
    apply VE.cons
    · exact ev_alloc rfl rfl (gn rfl) Tryd.zeroValue50
    simp only [nmx, seval]
    apply VE.cons
    · exact ev_store rfl (gn rfl) rfl rfl rfl Tryd.sizeOf50 rfl (by simp) rfl
    simp only [nmx, seval]
    apply VE.cons
    · exact ev_assign rfl (gn rfl)
    simp only [nmx, seval]
    exact VE.nil _
  · kernel_rfl
  change VOk _ _ _ _ _
  refine vseq ?_
  refine vseq ?_
  apply vrp
  · apply VE.cons
    · exact ev_move rfl (gn rfl)
    simp only [nmx, seval]
    apply VE.cons
    · exact ev_neq (p := false) rfl (gn rfl) rfl rfl (by decide)
    simp only [nmx, seval]
    exact VE.nil _
  · kernel_rfl
  change VOk _ _ _ _ _
  refine vcond_f rfl ?_
  refine vskip ?_
  change VOk _ _ _ _ _
  refine vseq ?_
  apply vrd (by kernel_rfl)
  · apply VE.cons
    · exact ev_move rfl (gn rfl)
    simp only [nmx, seval]
    apply VE.cons
    · first | exact ev_load rfl (gn rfl) rfl rfl Tryd.underlying50 rfl Tryd.sizeOf50 rfl rfl | exact ev_loadx rfl (gn rfl) rfl Tryd.underlying50 rfl Tryd.sizeOf50 (by assumption) rfl | exact ev_loada rfl (gn rfl) rfl rfl Tryd.underlying50 rfl Tryd.sizeOf50 rfl
    simp only [nmx, seval]
    apply VE.cons
    · first | exact ev_load rfl (gn rfl) rfl rfl Tryd.underlying23 rfl Tryd.sizeOf23 rfl rfl | exact ev_loadx rfl (gn rfl) rfl Tryd.underlying23 rfl Tryd.sizeOf23 (by assumption) rfl | exact ev_loada rfl (gn rfl) rfl rfl Tryd.underlying23 rfl Tryd.sizeOf23 rfl
    simp only [nmx, seval]
    apply VE.cons
    · exact ev_call rfl (gn rfl) rfl (en_of Tryd.func20 (by kernel_rfl) rfl) (fun w' hw' => ofN h hh w')
    simp only [nmx, seval]
    apply VE.cons
    · exact ev_callp (v := N (i * h % nn)) [40] rfl (gn rfl) rfl (en_of Tryd.func21 (by kernel_rfl) rfl) (fun ρ S w' hb hR => c_mul (id := 40) hR (by simp) rfl (lt_R hi) hh)
    simp only [nmx, seval]
    apply VE.cons
    · exact ev_move rfl (gn rfl)
    simp only [nmx, seval]
    apply VE.cons
    · first | exact ev_load rfl (gn rfl) rfl rfl Tryd.underlying50 rfl Tryd.sizeOf50 rfl rfl | exact ev_loadx rfl (gn rfl) rfl Tryd.underlying50 rfl Tryd.sizeOf50 (by assumption) rfl | exact ev_loada rfl (gn rfl) rfl rfl Tryd.underlying50 rfl Tryd.sizeOf50 rfl
    simp only [nmx, seval]
    apply VE.cons
    · first | exact ev_load rfl (gn rfl) rfl rfl Tryd.underlying23 rfl Tryd.sizeOf23 rfl rfl | exact ev_loadx rfl (gn rfl) rfl Tryd.underlying23 rfl Tryd.sizeOf23 (by assumption) rfl | exact ev_loada rfl (gn rfl) rfl rfl Tryd.underlying23 rfl Tryd.sizeOf23 rfl
    simp only [nmx, seval]
    apply VE.cons
    · exact ev_call rfl (gn rfl) rfl (en_of Tryd.func20 (by kernel_rfl) rfl) (fun w' hw' => ofN r hr w')
    simp only [nmx, seval]
    apply VE.cons
    · exact ev_callp (v := N (i * r % nn)) [40] rfl (gn rfl) rfl (en_of Tryd.func21 (by kernel_rfl) rfl) (fun ρ S w' hb hR => c_mul (id := 40) hR (by simp) rfl (lt_R hi) hr)
    simp only [nmx, seval]
    apply VE.cons
    · exact ev_alloc rfl rfl (gn rfl) Tryd.zeroValue50
    simp only [nmx, seval]
    apply VE.cons
    · exact ev_alloc rfl rfl (gn rfl) Tryd.zeroValue50
    simp only [nmx, seval]
    apply VE.cons
    · exact ev_store rfl (gn rfl) rfl rfl rfl Tryd.sizeOf50 rfl (by simp) rfl
    simp only [nmx, seval]
    apply VE.cons
    · exact ev_store rfl (gn rfl) rfl rfl rfl Tryd.sizeOf50 rfl (by simp) rfl
    simp only [nmx, seval]
    exact VE.nil _
  · kernel_rfl
  change VOk _ _ _ _ _
  refine vseq ?_
  apply vrd (by kernel_rfl)
  · apply VE.cons
    · first | exact ev_load rfl (gn rfl) rfl rfl Tryd.underlying50 rfl Tryd.sizeOf50 rfl rfl | exact ev_loadx rfl (gn rfl) rfl Tryd.underlying50 rfl Tryd.sizeOf50 (by assumption) rfl | exact ev_loada rfl (gn rfl) rfl rfl Tryd.underlying50 rfl Tryd.sizeOf50 rfl
    simp only [nmx, seval]
    apply VE.cons
    · exact ev_call rfl (gn rfl) rfl (en_of Tryd.func22 (by kernel_rfl) rfl) (fun w' hw' => bytesN (i * h % nn) w')
    simp only [nmx, seval]
    apply VE.cons
    · exact ev_call rfl (gn rfl) rfl (en_of Tryd.func13 (by kernel_rfl) rfl) (fun w' hw' => baseP w' (hL.bw hw'))
    simp only [nmx, seval]
    apply VE.cons
    · exact ev_call rfl (gn rfl) rfl (en_of Tryd.func12 (by kernel_rfl) rfl) (fun w' hw' => TimesE (mod_R _) hA TollEc.base_on w' (hL.bw hw'))
    simp only [nmx, seval]
    apply VE.cons
    · first | exact ev_load rfl (gn rfl) rfl rfl Tryd.underlying50 rfl Tryd.sizeOf50 rfl rfl | exact ev_loadx rfl (gn rfl) rfl Tryd.underlying50 rfl Tryd.sizeOf50 (by assumption) rfl | exact ev_loada rfl (gn rfl) rfl rfl Tryd.underlying50 rfl Tryd.sizeOf50 rfl
    simp only [nmx, seval]
    apply VE.cons
    · exact ev_call rfl (gn rfl) rfl (en_of Tryd.func22 (by kernel_rfl) rfl) (fun w' hw' => bytesN (i * r % nn) w')
    simp only [nmx, seval]
    apply VE.cons
    · first | exact ev_load rfl (gn rfl) rfl rfl Tryd.underlying26 rfl Tryd.sizeOf26 rfl rfl | exact ev_loadx rfl (gn rfl) rfl Tryd.underlying26 rfl Tryd.sizeOf26 (by assumption) rfl | exact ev_loada rfl (gn rfl) rfl rfl Tryd.underlying26 rfl Tryd.sizeOf26 rfl
    simp only [nmx, seval]
    apply VE.cons
    · exact ev_call rfl (gn rfl) rfl (en_of Tryd.func12 (by kernel_rfl) rfl) (fun w' hw' => TimesX (mod_R _) hx hy hB w' (hL.bw hw'))
    simp only [nmx, seval]
    apply VE.cons
    · exact ev_call rfl (gn rfl) rfl (en_of Tryd.func11 (by kernel_rfl) rfl) (fun w' hw' => AddE hX oA oB w' (hL.bw hw'))
    simp only [nmx, seval]
    apply VE.cons
    · exact ev_alloc rfl rfl (gn rfl) Tryd.zeroValue26
    simp only [nmx, seval]
    apply VE.cons
    · exact ev_store rfl (gn rfl) rfl rfl rfl Tryd.sizeOf26 rfl (by simp) rfl
    simp only [nmx, seval]
    exact VE.nil _
  · kernel_rfl
  change VOk _ _ _ _ _
  refine vseq ?_
  refine vseq ?_
  apply vrd (by kernel_rfl)
  · apply VE.cons
    · first | exact ev_load rfl (gn rfl) rfl rfl Tryd.underlying26 rfl Tryd.sizeOf26 rfl rfl | exact ev_loadx rfl (gn rfl) rfl Tryd.underlying26 rfl Tryd.sizeOf26 (by assumption) rfl | exact ev_loada rfl (gn rfl) rfl rfl Tryd.underlying26 rfl Tryd.sizeOf26 rfl
    simp only [nmx, seval]
    apply VE.cons
    · exact ev_build rfl (gn rfl) rfl built24_0
    simp only [nmx, seval]
    apply VE.cons
    · exact ev_bin (c := .bool true) rfl (gn rfl) rfl rfl (fun w => eqP_t oX hi0 _ _ w)
    simp only [nmx, seval]
    apply VE.cons
    · exact ev_move rfl (gn rfl)
    simp only [nmx, seval]
    apply VE.cons
    · first | exact Ev.skip (fun _ => rfl) | exact ev_move rfl (fun _ => rfl)
    simp only [nmx, seval]
    apply VE.cons
    · first | exact Ev.skip (fun _ => rfl) | exact ev_field rfl (fun _ => rfl) rfl Tryd.underlying26 rfl Tryd.sizeOf23 | exact ev_fieldx rfl (fun _ => rfl) rfl Tryd.underlying26 rfl Tryd.sizeOf23
    simp only [nmx, seval]
    apply VE.cons
    · first | exact Ev.skip (fun _ => rfl) | exact ev_load rfl (fun _ => rfl) rfl rfl Tryd.underlying23 rfl Tryd.sizeOf23 rfl rfl | exact ev_loadx rfl (fun _ => rfl) rfl Tryd.underlying23 rfl Tryd.sizeOf23 (by assumption) rfl | exact ev_loada rfl (fun _ => rfl) rfl rfl Tryd.underlying23 rfl Tryd.sizeOf23 rfl
    simp only [nmx, seval]
    apply VE.cons
    · first | exact Ev.skip (fun _ => rfl) | refine ev_pure' (fun _ => rfl) (fun ρ w => by simp only [VS.act, SV.c, List.map_cons, List.map_nil]; go_simp; exact rfl) (fun _ _ => rfl)
    simp only [nmx, seval]
    apply VE.cons
    · first | exact Ev.skip (fun _ => rfl) | refine ev_pure' (fun _ => rfl) (fun ρ w => by simp only [VS.act, SV.c, List.map_cons, List.map_nil]; go_simp; exact rfl) (fun _ _ => rfl)
    simp only [nmx, seval]
    apply VE.cons
    · first | exact Ev.skip (fun _ => rfl) | exact ev_load rfl (fun _ => rfl) rfl rfl Tryd.underlying23 rfl Tryd.sizeOf23 rfl rfl | exact ev_loadx rfl (fun _ => rfl) rfl Tryd.underlying23 rfl Tryd.sizeOf23 (by assumption) rfl | exact ev_loada rfl (fun _ => rfl) rfl rfl Tryd.underlying23 rfl Tryd.sizeOf23 rfl
    simp only [nmx, seval]
    apply VE.cons
    · first | exact Ev.skip (fun _ => rfl) | refine ev_pure' (fun _ => rfl) (fun ρ w => by simp only [VS.act, SV.c, List.map_cons, List.map_nil]; go_simp; exact rfl) (fun _ _ => rfl)
    simp only [nmx, seval]
    apply VE.cons
    · first | exact Ev.skip (fun _ => rfl) | refine ev_pure' (fun _ => rfl) (fun ρ w => by simp only [VS.act, SV.c, List.map_cons, List.map_nil]; go_simp; exact rfl) (fun _ _ => rfl)
    simp only [nmx, seval]
    apply VE.cons
    · refine ev_pure' (gn rfl) (fun ρ w => by simp only [VS.act, SV.c, List.map_cons, List.map_nil]; go_simp; exact rfl) (fun _ _ => rfl)
    simp only [nmx, seval]
    exact VE.nil _
  · kernel_rfl
  change VOk _ _ _ _ _
  refine vcond_t rfl ?_
  refine vseq ?_
  apply vrp
  · apply VE.cons
    · exact ev_assign rfl (gn rfl)
    simp only [nmx, seval]
    exact VE.nil _
  · kernel_rfl
  change VOk _ _ _ _ _
  refine vret ?_
  refine post_ret (res1 Tryd.results6 (rv_tmp rfl)) ?_
  intro ρ w' hr
  exact ⟨rfl, hr.1⟩
theorem Check_b {v : Value} {h r t : Nat} (hh : h < R) (hr : r < R) (ht : t < R) (w : World) (hL : Laid w) {x y i : Nat} {A B X : Pt} (hx : x < R) (hy : y < R) (hrd : ∀ w', Bw w w' → Calls Tryd.prog 5 #[v] w' fun e w'' => e = .returned (.tuple #[PT x y, .int .i64 0]) ∧ Bw w' w'') (sr : sec r = true) (st : sec t = true) (hi : i < nn) (hv : i * t % nn = 1) (hA : smul (i * h % nn) base = A) (hB : smul (i * r % nn) (toP x y) = B) (oA : A.on) (oB : B.on) (hX : add A B = X) (oX : X.on) (hi0 : X ≠ .inf) (hne : xv X % nn ≠ r) : Calls Tryd.prog 6 #[v, B32 h, PT r t] w fun e w' => e = .returned (.int .i64 6) ∧ Bw w w' := by
  go_enter Tryd.func6, Tryd.ntmps6
  refine ve_go ?_
  simp only [List.map_cons, List.map_nil]
  refine vseq ?_
  apply vrp
  · apply VE.cons
    · exact ev_box rfl rfl (gn rfl) rfl
    simp only [nmx, seval]
    apply VE.cons
    · exact ev_box rfl rfl (gn rfl) rfl
    simp only [nmx, seval]
    apply VE.cons
    · exact ev_assign rfl (gn rfl)
    simp only [nmx, seval]
    exact VE.nil _
  · kernel_rfl
  change VOk _ _ _ _ _
  refine vseq ?_
  apply vrp
  · apply VE.cons
    · exact ev_move rfl (gn rfl)
    simp only [nmx, seval]
    apply VE.cons
    · exact ev_callb (v := .tuple #[PT x y, .int .i64 0]) rfl (gn rfl) rfl (en_of Tryd.func5 (by kernel_rfl) rfl) (fun w' hw' => hrd w' hw')
    simp only [nmx, seval]
    apply VE.cons
    · exact ev_move rfl (gn rfl)
    simp only [nmx, seval]
    apply VE.cons
    · first | exact ev_extract rfl (gn rfl) rfl rfl | exact ev_extractt rfl (gn rfl) rfl rfl
    simp only [nmx, seval]
    apply VE.cons
    · first | exact ev_extract rfl (gn rfl) rfl rfl | exact ev_extractt rfl (gn rfl) rfl rfl
    simp only [nmx, seval]
    apply VE.cons
    · exact ev_alloc rfl rfl (gn rfl) Tryd.zeroValue26
    simp only [nmx, seval]
    apply VE.cons
    · exact ev_store rfl (gn rfl) rfl rfl rfl Tryd.sizeOf26 rfl (by simp) rfl
    simp only [nmx, seval]
    apply VE.cons
    · exact ev_assign rfl (gn rfl)
    simp only [nmx, seval]
    exact VE.nil _
  · kernel_rfl
  change VOk _ _ _ _ _
  refine vseq ?_
  refine vseq ?_
  apply vrp
  · apply VE.cons
    · exact ev_move rfl (gn rfl)
    simp only [nmx, seval]
    apply VE.cons
    · exact ev_neq (p := false) rfl (gn rfl) rfl rfl (by decide)
    simp only [nmx, seval]
    exact VE.nil _
  · kernel_rfl
  change VOk _ _ _ _ _
  refine vcond_f rfl ?_
  refine vskip ?_
  change VOk _ _ _ _ _
  refine vseq ?_
  apply vrd (by kernel_rfl)
  · apply VE.cons
    · exact ev_slicelh (a := 0) (b := 32) rfl (gn rfl) rfl Tryd.underlying24 Tryd.sizeOf5 rfl rfl (by decide) (by decide) (by decide)
    simp only [nmx, seval]
    apply VE.cons
    · exact ev_arr rfl (gn rfl) rfl Tryd.underlying23 (by decide)
    simp only [nmx, seval]
    apply VE.cons
    · first | exact ev_load rfl (gn rfl) rfl rfl Tryd.underlying23 rfl Tryd.sizeOf23 rfl rfl | exact ev_loadx rfl (gn rfl) rfl Tryd.underlying23 rfl Tryd.sizeOf23 (by assumption) rfl | exact ev_loada rfl (gn rfl) rfl rfl Tryd.underlying23 rfl Tryd.sizeOf23 rfl
    simp only [nmx, seval]
    apply VE.cons
    · exact ev_slicelh (a := 32) (b := 64) rfl (gn rfl) rfl Tryd.underlying24 Tryd.sizeOf5 rfl rfl (by decide) (by decide) (by decide)
    simp only [nmx, seval]
    apply VE.cons
    · exact ev_arr rfl (gn rfl) rfl Tryd.underlying23 (by decide)
    simp only [nmx, seval]
    apply VE.cons
    · first | exact ev_load rfl (gn rfl) rfl rfl Tryd.underlying23 rfl Tryd.sizeOf23 rfl rfl | exact ev_loadx rfl (gn rfl) rfl Tryd.underlying23 rfl Tryd.sizeOf23 (by assumption) rfl | exact ev_loada rfl (gn rfl) rfl rfl Tryd.underlying23 rfl Tryd.sizeOf23 rfl
    simp only [nmx, seval]
    apply VE.cons
    · exact ev_alloc rfl rfl (gn rfl) Tryd.zeroValue23
    simp only [nmx, seval]
    apply VE.cons
    · exact ev_alloc rfl rfl (gn rfl) Tryd.zeroValue23
    simp only [nmx, seval]
    apply VE.cons
    · exact ev_store rfl (gn rfl) rfl rfl rfl Tryd.sizeOf23 rfl (by simp) rfl
    simp only [nmx, seval]
    apply VE.cons
    · exact ev_store rfl (gn rfl) rfl rfl rfl Tryd.sizeOf23 rfl (by simp) rfl
    simp only [nmx, seval]
    exact VE.nil _
  · kernel_rfl
  change VOk _ _ _ _ _
  refine vseq ?_
  refine vseq ?_
  apply vrp
  · apply VE.cons
    · first | exact ev_load rfl (gn rfl) rfl rfl Tryd.underlying23 rfl Tryd.sizeOf23 rfl rfl | exact ev_loadx rfl (gn rfl) rfl Tryd.underlying23 rfl Tryd.sizeOf23 (by assumption) rfl | exact ev_loada rfl (gn rfl) rfl rfl Tryd.underlying23 rfl Tryd.sizeOf23 rfl
    simp only [nmx, seval]
    apply VE.cons
    · exact ev_callb (v := .bool true) rfl (gn rfl) rfl (en_of Tryd.func17 (by kernel_rfl) rfl) (fun w' hw' => by have a := fine_ok hr w' (hL.bw hw'); rw [sr] at a; exact a)
    simp only [nmx, seval]
    apply VE.cons
    · refine ev_pure' (gn rfl) (fun ρ w => by simp only [VS.act, SV.c, List.map_cons, List.map_nil]; go_simp; exact rfl) (fun _ _ => rfl)
    simp only [nmx, seval]
    apply VE.cons
    · exact ev_move rfl (gn rfl)
    simp only [nmx, seval]
    apply VE.cons
    · first | exact Ev.skip (fun _ => rfl) | exact ev_load rfl (fun _ => rfl) rfl rfl Tryd.underlying23 rfl Tryd.sizeOf23 rfl rfl | exact ev_loadx rfl (fun _ => rfl) rfl Tryd.underlying23 rfl Tryd.sizeOf23 (by assumption) rfl | exact ev_loada rfl (fun _ => rfl) rfl rfl Tryd.underlying23 rfl Tryd.sizeOf23 rfl
    simp only [nmx, seval]
    apply VE.cons
    · first | exact Ev.skip (fun _ => rfl) | exact ev_callb (v := .bool true) rfl (fun _ => rfl) rfl (en_of Tryd.func17 (by kernel_rfl) rfl) (fun w' hw' => by have a := fine_ok ht w' (hL.bw hw'); rw [st] at a; exact a)
    simp only [nmx, seval]
    apply VE.cons
    · first | exact Ev.skip (fun _ => rfl) | refine ev_pure' (fun _ => rfl) (fun ρ w => by simp only [VS.act, SV.c, List.map_cons, List.map_nil]; go_simp; exact rfl) (fun _ _ => rfl)
    simp only [nmx, seval]
    apply VE.cons
    · refine ev_pure' (gn rfl) (fun ρ w => by simp only [VS.act, SV.c, List.map_cons, List.map_nil]; go_simp; exact rfl) (fun _ _ => rfl)
    simp only [nmx, seval]
    exact VE.nil _
  · kernel_rfl
  change VOk _ _ _ _ _
  refine vcond_f rfl ?_
  refine vskip ?_
  change VOk _ _ _ _ _
  refine vseq ?_
  apply vrp
  · apply VE.cons
    · exact ev_calldt (D := datM nn) (ys := [N nn]) [] rfl rfl (gn rfl) rfl (en_of Tryd.func18 (by kernel_rfl) rfl) (fun ρ S w' hb hR => order_d w' (hL.bw hb))
    simp only [nmx, seval]
    apply VE.cons
    · exact ev_move rfl (gn rfl)
    simp only [nmx, seval]
    apply VE.cons
    · first | exact ev_extract rfl (gn rfl) rfl rfl | exact ev_extractt rfl (gn rfl) rfl rfl
    simp only [nmx, seval]
    apply VE.cons
    · first | exact ev_extract rfl (gn rfl) rfl rfl | exact ev_extractt rfl (gn rfl) rfl rfl
    simp only [nmx, seval]
    apply VE.cons
    · exact ev_alloc rfl rfl (gn rfl) Tryd.zeroValue50
    simp only [nmx, seval]
    apply VE.cons
    · exact ev_assign rfl (gn rfl)
    simp only [nmx, seval]
    apply VE.cons
    · exact ev_store rfl (gn rfl) rfl rfl rfl Tryd.sizeOf50 rfl (by simp) rfl
    simp only [nmx, seval]
    exact VE.nil _
  · kernel_rfl
  change VOk _ _ _ _ _
  refine vseq ?_
  apply vrp
  · apply VE.cons
    · exact ev_move rfl (gn rfl)
    simp only [nmx, seval]
    apply VE.cons
    · first | exact ev_load rfl (gn rfl) rfl rfl Tryd.underlying23 rfl Tryd.sizeOf23 rfl rfl | exact ev_loadx rfl (gn rfl) rfl Tryd.underlying23 rfl Tryd.sizeOf23 (by assumption) rfl | exact ev_loada rfl (gn rfl) rfl rfl Tryd.underlying23 rfl Tryd.sizeOf23 rfl
    simp only [nmx, seval]
    apply VE.cons
    · exact ev_call rfl (gn rfl) rfl (en_of Tryd.func20 (by kernel_rfl) rfl) (fun w' hw' => ofN t ht w')
    simp only [nmx, seval]
    apply VE.cons
    · exact ev_callp (v := .tuple #[N i, .int .i64 0]) [40] rfl (gn rfl) rfl (en_of Tryd.func19 (by kernel_rfl) rfl) (fun ρ S w' hb hR => c_inv (id := 40) hR (by simp) rfl ht hi hv)
    simp only [nmx, seval]
    apply VE.cons
    · exact ev_move rfl (gn rfl)
    simp only [nmx, seval]
    apply VE.cons
    · first | exact ev_extract rfl (gn rfl) rfl rfl | exact ev_extractt rfl (gn rfl) rfl rfl
    simp only [nmx, seval]
    apply VE.cons
    · first | exact ev_extract rfl (gn rfl) rfl rfl | exact ev_extractt rfl (gn rfl) rfl rfl
    simp only [nmx, seval]
    apply VE.cons
    · exact ev_alloc rfl rfl (gn rfl) Tryd.zeroValue50
    simp only [nmx, seval]
    apply VE.cons
    · exact ev_store rfl (gn rfl) rfl rfl rfl Tryd.sizeOf50 rfl (by simp) rfl
    simp only [nmx, seval]
    apply VE.cons
    · exact ev_assign rfl (gn rfl)
    simp only [nmx, seval]
    exact VE.nil _
  · kernel_rfl
  change VOk _ _ _ _ _
  refine vseq ?_
  refine vseq ?_
  apply vrp
  · apply VE.cons
    · exact ev_move rfl (gn rfl)
    simp only [nmx, seval]
    apply VE.cons
    · exact ev_neq (p := false) rfl (gn rfl) rfl rfl (by decide)
    simp only [nmx, seval]
    exact VE.nil _
  · kernel_rfl
  change VOk _ _ _ _ _
  refine vcond_f rfl ?_
  refine vskip ?_
  change VOk _ _ _ _ _
  refine vseq ?_
  apply vrd (by kernel_rfl)
  · apply VE.cons
    · exact ev_move rfl (gn rfl)
    simp only [nmx, seval]
    apply VE.cons
    · first | exact ev_load rfl (gn rfl) rfl rfl Tryd.underlying50 rfl Tryd.sizeOf50 rfl rfl | exact ev_loadx rfl (gn rfl) rfl Tryd.underlying50 rfl Tryd.sizeOf50 (by assumption) rfl | exact ev_loada rfl (gn rfl) rfl rfl Tryd.underlying50 rfl Tryd.sizeOf50 rfl
    simp only [nmx, seval]
    apply VE.cons
    · first | exact ev_load rfl (gn rfl) rfl rfl Tryd.underlying23 rfl Tryd.sizeOf23 rfl rfl | exact ev_loadx rfl (gn rfl) rfl Tryd.underlying23 rfl Tryd.sizeOf23 (by assumption) rfl | exact ev_loada rfl (gn rfl) rfl rfl Tryd.underlying23 rfl Tryd.sizeOf23 rfl
    simp only [nmx, seval]
    apply VE.cons
    · exact ev_call rfl (gn rfl) rfl (en_of Tryd.func20 (by kernel_rfl) rfl) (fun w' hw' => ofN h hh w')
    simp only [nmx, seval]
    apply VE.cons
    · exact ev_callp (v := N (i * h % nn)) [40] rfl (gn rfl) rfl (en_of Tryd.func21 (by kernel_rfl) rfl) (fun ρ S w' hb hR => c_mul (id := 40) hR (by simp) rfl (lt_R hi) hh)
    simp only [nmx, seval]
    apply VE.cons
    · exact ev_move rfl (gn rfl)
    simp only [nmx, seval]
    apply VE.cons
    · first | exact ev_load rfl (gn rfl) rfl rfl Tryd.underlying50 rfl Tryd.sizeOf50 rfl rfl | exact ev_loadx rfl (gn rfl) rfl Tryd.underlying50 rfl Tryd.sizeOf50 (by assumption) rfl | exact ev_loada rfl (gn rfl) rfl rfl Tryd.underlying50 rfl Tryd.sizeOf50 rfl
    simp only [nmx, seval]
    apply VE.cons
    · first | exact ev_load rfl (gn rfl) rfl rfl Tryd.underlying23 rfl Tryd.sizeOf23 rfl rfl | exact ev_loadx rfl (gn rfl) rfl Tryd.underlying23 rfl Tryd.sizeOf23 (by assumption) rfl | exact ev_loada rfl (gn rfl) rfl rfl Tryd.underlying23 rfl Tryd.sizeOf23 rfl
    simp only [nmx, seval]
    apply VE.cons
    · exact ev_call rfl (gn rfl) rfl (en_of Tryd.func20 (by kernel_rfl) rfl) (fun w' hw' => ofN r hr w')
    simp only [nmx, seval]
    apply VE.cons
    · exact ev_callp (v := N (i * r % nn)) [40] rfl (gn rfl) rfl (en_of Tryd.func21 (by kernel_rfl) rfl) (fun ρ S w' hb hR => c_mul (id := 40) hR (by simp) rfl (lt_R hi) hr)
    simp only [nmx, seval]
    apply VE.cons
    · exact ev_alloc rfl rfl (gn rfl) Tryd.zeroValue50
    simp only [nmx, seval]
    apply VE.cons
    · exact ev_alloc rfl rfl (gn rfl) Tryd.zeroValue50
    simp only [nmx, seval]
    apply VE.cons
    · exact ev_store rfl (gn rfl) rfl rfl rfl Tryd.sizeOf50 rfl (by simp) rfl
    simp only [nmx, seval]
    apply VE.cons
    · exact ev_store rfl (gn rfl) rfl rfl rfl Tryd.sizeOf50 rfl (by simp) rfl
    simp only [nmx, seval]
    exact VE.nil _
  · kernel_rfl
  change VOk _ _ _ _ _
  refine vseq ?_
  apply vrd (by kernel_rfl)
  · apply VE.cons
    · first | exact ev_load rfl (gn rfl) rfl rfl Tryd.underlying50 rfl Tryd.sizeOf50 rfl rfl | exact ev_loadx rfl (gn rfl) rfl Tryd.underlying50 rfl Tryd.sizeOf50 (by assumption) rfl | exact ev_loada rfl (gn rfl) rfl rfl Tryd.underlying50 rfl Tryd.sizeOf50 rfl
    simp only [nmx, seval]
    apply VE.cons
    · exact ev_call rfl (gn rfl) rfl (en_of Tryd.func22 (by kernel_rfl) rfl) (fun w' hw' => bytesN (i * h % nn) w')
    simp only [nmx, seval]
    apply VE.cons
    · exact ev_call rfl (gn rfl) rfl (en_of Tryd.func13 (by kernel_rfl) rfl) (fun w' hw' => baseP w' (hL.bw hw'))
    simp only [nmx, seval]
    apply VE.cons
    · exact ev_call rfl (gn rfl) rfl (en_of Tryd.func12 (by kernel_rfl) rfl) (fun w' hw' => TimesE (mod_R _) hA TollEc.base_on w' (hL.bw hw'))
    simp only [nmx, seval]
    apply VE.cons
    · first | exact ev_load rfl (gn rfl) rfl rfl Tryd.underlying50 rfl Tryd.sizeOf50 rfl rfl | exact ev_loadx rfl (gn rfl) rfl Tryd.underlying50 rfl Tryd.sizeOf50 (by assumption) rfl | exact ev_loada rfl (gn rfl) rfl rfl Tryd.underlying50 rfl Tryd.sizeOf50 rfl
    simp only [nmx, seval]
    apply VE.cons
    · exact ev_call rfl (gn rfl) rfl (en_of Tryd.func22 (by kernel_rfl) rfl) (fun w' hw' => bytesN (i * r % nn) w')
    simp only [nmx, seval]
    apply VE.cons
    · first | exact ev_load rfl (gn rfl) rfl rfl Tryd.underlying26 rfl Tryd.sizeOf26 rfl rfl | exact ev_loadx rfl (gn rfl) rfl Tryd.underlying26 rfl Tryd.sizeOf26 (by assumption) rfl | exact ev_loada rfl (gn rfl) rfl rfl Tryd.underlying26 rfl Tryd.sizeOf26 rfl
    simp only [nmx, seval]
    apply VE.cons
    · exact ev_call rfl (gn rfl) rfl (en_of Tryd.func12 (by kernel_rfl) rfl) (fun w' hw' => TimesX (mod_R _) hx hy hB w' (hL.bw hw'))
    simp only [nmx, seval]
    apply VE.cons
    · exact ev_call rfl (gn rfl) rfl (en_of Tryd.func11 (by kernel_rfl) rfl) (fun w' hw' => AddE hX oA oB w' (hL.bw hw'))
    simp only [nmx, seval]
    apply VE.cons
    · exact ev_alloc rfl rfl (gn rfl) Tryd.zeroValue26
    simp only [nmx, seval]
    apply VE.cons
    · exact ev_store rfl (gn rfl) rfl rfl rfl Tryd.sizeOf26 rfl (by simp) rfl
    simp only [nmx, seval]
    exact VE.nil _
  · kernel_rfl
  change VOk _ _ _ _ _
  refine vseq ?_
  refine vseq ?_
  apply vrd (by kernel_rfl)
  · apply VE.cons
    · first | exact ev_load rfl (gn rfl) rfl rfl Tryd.underlying26 rfl Tryd.sizeOf26 rfl rfl | exact ev_loadx rfl (gn rfl) rfl Tryd.underlying26 rfl Tryd.sizeOf26 (by assumption) rfl | exact ev_loada rfl (gn rfl) rfl rfl Tryd.underlying26 rfl Tryd.sizeOf26 rfl
    simp only [nmx, seval]
    apply VE.cons
    · exact ev_build rfl (gn rfl) rfl built24_0
    simp only [nmx, seval]
    apply VE.cons
    · exact ev_bin (c := .bool false) rfl (gn rfl) rfl rfl (fun w => eqP_ninf oX hi0 _ _ w)
    simp only [nmx, seval]
    apply VE.cons
    · exact ev_move rfl (gn rfl)
    simp only [nmx, seval]
    apply VE.cons
    · first | exact Ev.skip (fun _ => rfl) | exact ev_move rfl (fun _ => rfl)
    simp only [nmx, seval]
    apply VE.cons
    · first | exact Ev.skip (fun _ => rfl) | exact ev_field rfl (fun _ => rfl) rfl Tryd.underlying26 rfl Tryd.sizeOf23 | exact ev_fieldx rfl (fun _ => rfl) rfl Tryd.underlying26 rfl Tryd.sizeOf23
    simp only [nmx, seval]
    apply VE.cons
    · first | exact Ev.skip (fun _ => rfl) | exact ev_load rfl (fun _ => rfl) rfl rfl Tryd.underlying23 rfl Tryd.sizeOf23 rfl rfl | exact ev_loadx rfl (fun _ => rfl) rfl Tryd.underlying23 rfl Tryd.sizeOf23 (by assumption) rfl | exact ev_loada rfl (fun _ => rfl) rfl rfl Tryd.underlying23 rfl Tryd.sizeOf23 rfl
    simp only [nmx, seval]
    apply VE.cons
    · first | exact Ev.skip (fun _ => rfl) | exact ev_call rfl (fun _ => rfl) rfl (en_of Tryd.func20 (by kernel_rfl) rfl) (fun w' hw' => ofN (xv X) (xv_lt X) w')
    simp only [nmx, seval]
    apply VE.cons
    · first | exact Ev.skip (fun _ => rfl) | exact ev_callp (v := N (xv X % nn)) [40] rfl (fun _ => rfl) rfl (en_of Tryd.func23 (by kernel_rfl) rfl) (fun ρ S w' hb hR => c_rest (id := 40) hR (by simp) rfl (xv_lt X))
    simp only [nmx, seval]
    apply VE.cons
    · first | exact Ev.skip (fun _ => rfl) | exact ev_load rfl (fun _ => rfl) rfl rfl Tryd.underlying23 rfl Tryd.sizeOf23 rfl rfl | exact ev_loadx rfl (fun _ => rfl) rfl Tryd.underlying23 rfl Tryd.sizeOf23 (by assumption) rfl | exact ev_loada rfl (fun _ => rfl) rfl rfl Tryd.underlying23 rfl Tryd.sizeOf23 rfl
    simp only [nmx, seval]
    apply VE.cons
    · first | exact Ev.skip (fun _ => rfl) | exact ev_call rfl (fun _ => rfl) rfl (en_of Tryd.func20 (by kernel_rfl) rfl) (fun w' hw' => ofN r hr w')
    simp only [nmx, seval]
    apply VE.cons
    · first | exact Ev.skip (fun _ => rfl) | exact ev_bin (c := .bool true) rfl (fun _ => rfl) rfl rfl (fun w => neN_p (mod_R _) hr (decide_eq_false hne) _ _ w)
    simp only [nmx, seval]
    apply VE.cons
    · refine ev_pure' (gn rfl) (fun ρ w => by simp only [VS.act, SV.c, List.map_cons, List.map_nil]; go_simp; exact rfl) (fun _ _ => rfl)
    simp only [nmx, seval]
    exact VE.nil _
  · kernel_rfl
  change VOk _ _ _ _ _
  refine vcond_t rfl ?_
  refine vseq ?_
  apply vrp
  · apply VE.cons
    · exact ev_assign rfl (gn rfl)
    simp only [nmx, seval]
    exact VE.nil _
  · kernel_rfl
  change VOk _ _ _ _ _
  refine vret ?_
  refine post_ret (res1 Tryd.results6 (rv_tmp rfl)) ?_
  intro ρ w' hr
  exact ⟨rfl, hr.1⟩
theorem Check_g {v : Value} {h r t : Nat} (hh : h < R) (hr : r < R) (ht : t < R) (w : World) (hL : Laid w) {x y i : Nat} {A B X : Pt} (hx : x < R) (hy : y < R) (hrd : ∀ w', Bw w w' → Calls Tryd.prog 5 #[v] w' fun e w'' => e = .returned (.tuple #[PT x y, .int .i64 0]) ∧ Bw w' w'') (sr : sec r = true) (st : sec t = true) (hi : i < nn) (hv : i * t % nn = 1) (hA : smul (i * h % nn) base = A) (hB : smul (i * r % nn) (toP x y) = B) (oA : A.on) (oB : B.on) (hX : add A B = X) (oX : X.on) (hi0 : X ≠ .inf) (hne : xv X % nn = r) : Calls Tryd.prog 6 #[v, B32 h, PT r t] w fun e w' => e = .returned (.int .i64 0) ∧ Bw w w' := by
  go_enter Tryd.func6, Tryd.ntmps6
  refine ve_go ?_
  simp only [List.map_cons, List.map_nil]
  refine vseq ?_
  apply vrp
  · apply VE.cons
    · exact ev_box rfl rfl (gn rfl) rfl
    simp only [nmx, seval]
    apply VE.cons
    · exact ev_box rfl rfl (gn rfl) rfl
    simp only [nmx, seval]
    apply VE.cons
    · exact ev_assign rfl (gn rfl)
    simp only [nmx, seval]
    exact VE.nil _
  · kernel_rfl
  change VOk _ _ _ _ _
  refine vseq ?_
  apply vrp
  · apply VE.cons
    · exact ev_move rfl (gn rfl)
    simp only [nmx, seval]
    apply VE.cons
    · exact ev_callb (v := .tuple #[PT x y, .int .i64 0]) rfl (gn rfl) rfl (en_of Tryd.func5 (by kernel_rfl) rfl) (fun w' hw' => hrd w' hw')
    simp only [nmx, seval]
    apply VE.cons
    · exact ev_move rfl (gn rfl)
    simp only [nmx, seval]
    apply VE.cons
    · first | exact ev_extract rfl (gn rfl) rfl rfl | exact ev_extractt rfl (gn rfl) rfl rfl
    simp only [nmx, seval]
    apply VE.cons
    · first | exact ev_extract rfl (gn rfl) rfl rfl | exact ev_extractt rfl (gn rfl) rfl rfl
    simp only [nmx, seval]
    apply VE.cons
    · exact ev_alloc rfl rfl (gn rfl) Tryd.zeroValue26
    simp only [nmx, seval]
    apply VE.cons
    · exact ev_store rfl (gn rfl) rfl rfl rfl Tryd.sizeOf26 rfl (by simp) rfl
    simp only [nmx, seval]
    apply VE.cons
    · exact ev_assign rfl (gn rfl)
    simp only [nmx, seval]
    exact VE.nil _
  · kernel_rfl
  change VOk _ _ _ _ _
  refine vseq ?_
  refine vseq ?_
  apply vrp
  · apply VE.cons
    · exact ev_move rfl (gn rfl)
    simp only [nmx, seval]
    apply VE.cons
    · exact ev_neq (p := false) rfl (gn rfl) rfl rfl (by decide)
    simp only [nmx, seval]
    exact VE.nil _
  · kernel_rfl
  change VOk _ _ _ _ _
  refine vcond_f rfl ?_
  refine vskip ?_
  change VOk _ _ _ _ _
  refine vseq ?_
  apply vrd (by kernel_rfl)
  · apply VE.cons
    · exact ev_slicelh (a := 0) (b := 32) rfl (gn rfl) rfl Tryd.underlying24 Tryd.sizeOf5 rfl rfl (by decide) (by decide) (by decide)
    simp only [nmx, seval]
    apply VE.cons
    · exact ev_arr rfl (gn rfl) rfl Tryd.underlying23 (by decide)
    simp only [nmx, seval]
    apply VE.cons
    · first | exact ev_load rfl (gn rfl) rfl rfl Tryd.underlying23 rfl Tryd.sizeOf23 rfl rfl | exact ev_loadx rfl (gn rfl) rfl Tryd.underlying23 rfl Tryd.sizeOf23 (by assumption) rfl | exact ev_loada rfl (gn rfl) rfl rfl Tryd.underlying23 rfl Tryd.sizeOf23 rfl
    simp only [nmx, seval]
    apply VE.cons
    · exact ev_slicelh (a := 32) (b := 64) rfl (gn rfl) rfl Tryd.underlying24 Tryd.sizeOf5 rfl rfl (by decide) (by decide) (by decide)
    simp only [nmx, seval]
    apply VE.cons
    · exact ev_arr rfl (gn rfl) rfl Tryd.underlying23 (by decide)
    simp only [nmx, seval]
    apply VE.cons
    · first | exact ev_load rfl (gn rfl) rfl rfl Tryd.underlying23 rfl Tryd.sizeOf23 rfl rfl | exact ev_loadx rfl (gn rfl) rfl Tryd.underlying23 rfl Tryd.sizeOf23 (by assumption) rfl | exact ev_loada rfl (gn rfl) rfl rfl Tryd.underlying23 rfl Tryd.sizeOf23 rfl
    simp only [nmx, seval]
    apply VE.cons
    · exact ev_alloc rfl rfl (gn rfl) Tryd.zeroValue23
    simp only [nmx, seval]
    apply VE.cons
    · exact ev_alloc rfl rfl (gn rfl) Tryd.zeroValue23
    simp only [nmx, seval]
    apply VE.cons
    · exact ev_store rfl (gn rfl) rfl rfl rfl Tryd.sizeOf23 rfl (by simp) rfl
    simp only [nmx, seval]
    apply VE.cons
    · exact ev_store rfl (gn rfl) rfl rfl rfl Tryd.sizeOf23 rfl (by simp) rfl
    simp only [nmx, seval]
    exact VE.nil _
  · kernel_rfl
  change VOk _ _ _ _ _
  refine vseq ?_
  refine vseq ?_
  apply vrp
  · apply VE.cons
    · first | exact ev_load rfl (gn rfl) rfl rfl Tryd.underlying23 rfl Tryd.sizeOf23 rfl rfl | exact ev_loadx rfl (gn rfl) rfl Tryd.underlying23 rfl Tryd.sizeOf23 (by assumption) rfl | exact ev_loada rfl (gn rfl) rfl rfl Tryd.underlying23 rfl Tryd.sizeOf23 rfl
    simp only [nmx, seval]
    apply VE.cons
    · exact ev_callb (v := .bool true) rfl (gn rfl) rfl (en_of Tryd.func17 (by kernel_rfl) rfl) (fun w' hw' => by have a := fine_ok hr w' (hL.bw hw'); rw [sr] at a; exact a)
    simp only [nmx, seval]
    apply VE.cons
    · refine ev_pure' (gn rfl) (fun ρ w => by simp only [VS.act, SV.c, List.map_cons, List.map_nil]; go_simp; exact rfl) (fun _ _ => rfl)
    simp only [nmx, seval]
    apply VE.cons
    · exact ev_move rfl (gn rfl)
    simp only [nmx, seval]
    apply VE.cons
    · first | exact Ev.skip (fun _ => rfl) | exact ev_load rfl (fun _ => rfl) rfl rfl Tryd.underlying23 rfl Tryd.sizeOf23 rfl rfl | exact ev_loadx rfl (fun _ => rfl) rfl Tryd.underlying23 rfl Tryd.sizeOf23 (by assumption) rfl | exact ev_loada rfl (fun _ => rfl) rfl rfl Tryd.underlying23 rfl Tryd.sizeOf23 rfl
    simp only [nmx, seval]
    apply VE.cons
    · first | exact Ev.skip (fun _ => rfl) | exact ev_callb (v := .bool true) rfl (fun _ => rfl) rfl (en_of Tryd.func17 (by kernel_rfl) rfl) (fun w' hw' => by have a := fine_ok ht w' (hL.bw hw'); rw [st] at a; exact a)
    simp only [nmx, seval]
    apply VE.cons
    · first | exact Ev.skip (fun _ => rfl) | refine ev_pure' (fun _ => rfl) (fun ρ w => by simp only [VS.act, SV.c, List.map_cons, List.map_nil]; go_simp; exact rfl) (fun _ _ => rfl)
    simp only [nmx, seval]
    apply VE.cons
    · refine ev_pure' (gn rfl) (fun ρ w => by simp only [VS.act, SV.c, List.map_cons, List.map_nil]; go_simp; exact rfl) (fun _ _ => rfl)
    simp only [nmx, seval]
    exact VE.nil _
  · kernel_rfl
  change VOk _ _ _ _ _
  refine vcond_f rfl ?_
  refine vskip ?_
  change VOk _ _ _ _ _
  refine vseq ?_
  apply vrp
  · apply VE.cons
    · exact ev_calldt (D := datM nn) (ys := [N nn]) [] rfl rfl (gn rfl) rfl (en_of Tryd.func18 (by kernel_rfl) rfl) (fun ρ S w' hb hR => order_d w' (hL.bw hb))
    simp only [nmx, seval]
    apply VE.cons
    · exact ev_move rfl (gn rfl)
    simp only [nmx, seval]
    apply VE.cons
    · first | exact ev_extract rfl (gn rfl) rfl rfl | exact ev_extractt rfl (gn rfl) rfl rfl
    simp only [nmx, seval]
    apply VE.cons
    · first | exact ev_extract rfl (gn rfl) rfl rfl | exact ev_extractt rfl (gn rfl) rfl rfl
    simp only [nmx, seval]
    apply VE.cons
    · exact ev_alloc rfl rfl (gn rfl) Tryd.zeroValue50
    simp only [nmx, seval]
    apply VE.cons
    · exact ev_assign rfl (gn rfl)
    simp only [nmx, seval]
    apply VE.cons
    · exact ev_store rfl (gn rfl) rfl rfl rfl Tryd.sizeOf50 rfl (by simp) rfl
    simp only [nmx, seval]
    exact VE.nil _
  · kernel_rfl
  change VOk _ _ _ _ _
  refine vseq ?_
  apply vrp
  · apply VE.cons
    · exact ev_move rfl (gn rfl)
    simp only [nmx, seval]
    apply VE.cons
    · first | exact ev_load rfl (gn rfl) rfl rfl Tryd.underlying23 rfl Tryd.sizeOf23 rfl rfl | exact ev_loadx rfl (gn rfl) rfl Tryd.underlying23 rfl Tryd.sizeOf23 (by assumption) rfl | exact ev_loada rfl (gn rfl) rfl rfl Tryd.underlying23 rfl Tryd.sizeOf23 rfl
    simp only [nmx, seval]
    apply VE.cons
    · exact ev_call rfl (gn rfl) rfl (en_of Tryd.func20 (by kernel_rfl) rfl) (fun w' hw' => ofN t ht w')
    simp only [nmx, seval]
    apply VE.cons
    · exact ev_callp (v := .tuple #[N i, .int .i64 0]) [40] rfl (gn rfl) rfl (en_of Tryd.func19 (by kernel_rfl) rfl) (fun ρ S w' hb hR => c_inv (id := 40) hR (by simp) rfl ht hi hv)
    simp only [nmx, seval]
    apply VE.cons
    · exact ev_move rfl (gn rfl)
    simp only [nmx, seval]
    apply VE.cons
    · first | exact ev_extract rfl (gn rfl) rfl rfl | exact ev_extractt rfl (gn rfl) rfl rfl
    simp only [nmx, seval]
    apply VE.cons
    · first | exact ev_extract rfl (gn rfl) rfl rfl | exact ev_extractt rfl (gn rfl) rfl rfl
    simp only [nmx, seval]
    apply VE.cons
    · exact ev_alloc rfl rfl (gn rfl) Tryd.zeroValue50
    simp only [nmx, seval]
    apply VE.cons
    · exact ev_store rfl (gn rfl) rfl rfl rfl Tryd.sizeOf50 rfl (by simp) rfl
    simp only [nmx, seval]
    apply VE.cons
    · exact ev_assign rfl (gn rfl)
    simp only [nmx, seval]
    exact VE.nil _
  · kernel_rfl
  change VOk _ _ _ _ _
  refine vseq ?_
  refine vseq ?_
  apply vrp
  · apply VE.cons
    · exact ev_move rfl (gn rfl)
    simp only [nmx, seval]
    apply VE.cons
    · exact ev_neq (p := false) rfl (gn rfl) rfl rfl (by decide)
    simp only [nmx, seval]
    exact VE.nil _
  · kernel_rfl
  change VOk _ _ _ _ _
  refine vcond_f rfl ?_
  refine vskip ?_
  change VOk _ _ _ _ _
  refine vseq ?_
  apply vrd (by kernel_rfl)
  · apply VE.cons
    · exact ev_move rfl (gn rfl)
    simp only [nmx, seval]
    apply VE.cons
    · first | exact ev_load rfl (gn rfl) rfl rfl Tryd.underlying50 rfl Tryd.sizeOf50 rfl rfl | exact ev_loadx rfl (gn rfl) rfl Tryd.underlying50 rfl Tryd.sizeOf50 (by assumption) rfl | exact ev_loada rfl (gn rfl) rfl rfl Tryd.underlying50 rfl Tryd.sizeOf50 rfl
    simp only [nmx, seval]
    apply VE.cons
    · first | exact ev_load rfl (gn rfl) rfl rfl Tryd.underlying23 rfl Tryd.sizeOf23 rfl rfl | exact ev_loadx rfl (gn rfl) rfl Tryd.underlying23 rfl Tryd.sizeOf23 (by assumption) rfl | exact ev_loada rfl (gn rfl) rfl rfl Tryd.underlying23 rfl Tryd.sizeOf23 rfl
    simp only [nmx, seval]
    apply VE.cons
    · exact ev_call rfl (gn rfl) rfl (en_of Tryd.func20 (by kernel_rfl) rfl) (fun w' hw' => ofN h hh w')
    simp only [nmx, seval]
    apply VE.cons
    · exact ev_callp (v := N (i * h % nn)) [40] rfl (gn rfl) rfl (en_of Tryd.func21 (by kernel_rfl) rfl) (fun ρ S w' hb hR => c_mul (id := 40) hR (by simp) rfl (lt_R hi) hh)
    simp only [nmx, seval]
    apply VE.cons
    · exact ev_move rfl (gn rfl)
    simp only [nmx, seval]
    apply VE.cons
    · first | exact ev_load rfl (gn rfl) rfl rfl Tryd.underlying50 rfl Tryd.sizeOf50 rfl rfl | exact ev_loadx rfl (gn rfl) rfl Tryd.underlying50 rfl Tryd.sizeOf50 (by assumption) rfl | exact ev_loada rfl (gn rfl) rfl rfl Tryd.underlying50 rfl Tryd.sizeOf50 rfl
    simp only [nmx, seval]
    apply VE.cons
    · first | exact ev_load rfl (gn rfl) rfl rfl Tryd.underlying23 rfl Tryd.sizeOf23 rfl rfl | exact ev_loadx rfl (gn rfl) rfl Tryd.underlying23 rfl Tryd.sizeOf23 (by assumption) rfl | exact ev_loada rfl (gn rfl) rfl rfl Tryd.underlying23 rfl Tryd.sizeOf23 rfl
    simp only [nmx, seval]
    apply VE.cons
    · exact ev_call rfl (gn rfl) rfl (en_of Tryd.func20 (by kernel_rfl) rfl) (fun w' hw' => ofN r hr w')
    simp only [nmx, seval]
    apply VE.cons
    · exact ev_callp (v := N (i * r % nn)) [40] rfl (gn rfl) rfl (en_of Tryd.func21 (by kernel_rfl) rfl) (fun ρ S w' hb hR => c_mul (id := 40) hR (by simp) rfl (lt_R hi) hr)
    simp only [nmx, seval]
    apply VE.cons
    · exact ev_alloc rfl rfl (gn rfl) Tryd.zeroValue50
    simp only [nmx, seval]
    apply VE.cons
    · exact ev_alloc rfl rfl (gn rfl) Tryd.zeroValue50
    simp only [nmx, seval]
    apply VE.cons
    · exact ev_store rfl (gn rfl) rfl rfl rfl Tryd.sizeOf50 rfl (by simp) rfl
    simp only [nmx, seval]
    apply VE.cons
    · exact ev_store rfl (gn rfl) rfl rfl rfl Tryd.sizeOf50 rfl (by simp) rfl
    simp only [nmx, seval]
    exact VE.nil _
  · kernel_rfl
  change VOk _ _ _ _ _
  refine vseq ?_
  apply vrd (by kernel_rfl)
  · apply VE.cons
    · first | exact ev_load rfl (gn rfl) rfl rfl Tryd.underlying50 rfl Tryd.sizeOf50 rfl rfl | exact ev_loadx rfl (gn rfl) rfl Tryd.underlying50 rfl Tryd.sizeOf50 (by assumption) rfl | exact ev_loada rfl (gn rfl) rfl rfl Tryd.underlying50 rfl Tryd.sizeOf50 rfl
    simp only [nmx, seval]
    apply VE.cons
    · exact ev_call rfl (gn rfl) rfl (en_of Tryd.func22 (by kernel_rfl) rfl) (fun w' hw' => bytesN (i * h % nn) w')
    simp only [nmx, seval]
    apply VE.cons
    · exact ev_call rfl (gn rfl) rfl (en_of Tryd.func13 (by kernel_rfl) rfl) (fun w' hw' => baseP w' (hL.bw hw'))
    simp only [nmx, seval]
    apply VE.cons
    · exact ev_call rfl (gn rfl) rfl (en_of Tryd.func12 (by kernel_rfl) rfl) (fun w' hw' => TimesE (mod_R _) hA TollEc.base_on w' (hL.bw hw'))
    simp only [nmx, seval]
    apply VE.cons
    · first | exact ev_load rfl (gn rfl) rfl rfl Tryd.underlying50 rfl Tryd.sizeOf50 rfl rfl | exact ev_loadx rfl (gn rfl) rfl Tryd.underlying50 rfl Tryd.sizeOf50 (by assumption) rfl | exact ev_loada rfl (gn rfl) rfl rfl Tryd.underlying50 rfl Tryd.sizeOf50 rfl
    simp only [nmx, seval]
    apply VE.cons
    · exact ev_call rfl (gn rfl) rfl (en_of Tryd.func22 (by kernel_rfl) rfl) (fun w' hw' => bytesN (i * r % nn) w')
    simp only [nmx, seval]
    apply VE.cons
    · first | exact ev_load rfl (gn rfl) rfl rfl Tryd.underlying26 rfl Tryd.sizeOf26 rfl rfl | exact ev_loadx rfl (gn rfl) rfl Tryd.underlying26 rfl Tryd.sizeOf26 (by assumption) rfl | exact ev_loada rfl (gn rfl) rfl rfl Tryd.underlying26 rfl Tryd.sizeOf26 rfl
    simp only [nmx, seval]
    apply VE.cons
    · exact ev_call rfl (gn rfl) rfl (en_of Tryd.func12 (by kernel_rfl) rfl) (fun w' hw' => TimesX (mod_R _) hx hy hB w' (hL.bw hw'))
    simp only [nmx, seval]
    apply VE.cons
    · exact ev_call rfl (gn rfl) rfl (en_of Tryd.func11 (by kernel_rfl) rfl) (fun w' hw' => AddE hX oA oB w' (hL.bw hw'))
    simp only [nmx, seval]
    apply VE.cons
    · exact ev_alloc rfl rfl (gn rfl) Tryd.zeroValue26
    simp only [nmx, seval]
    apply VE.cons
    · exact ev_store rfl (gn rfl) rfl rfl rfl Tryd.sizeOf26 rfl (by simp) rfl
    simp only [nmx, seval]
    exact VE.nil _
  · kernel_rfl
  change VOk _ _ _ _ _
  refine vseq ?_
  refine vseq ?_
  apply vrd (by kernel_rfl)
  · apply VE.cons
    · first | exact ev_load rfl (gn rfl) rfl rfl Tryd.underlying26 rfl Tryd.sizeOf26 rfl rfl | exact ev_loadx rfl (gn rfl) rfl Tryd.underlying26 rfl Tryd.sizeOf26 (by assumption) rfl | exact ev_loada rfl (gn rfl) rfl rfl Tryd.underlying26 rfl Tryd.sizeOf26 rfl
    simp only [nmx, seval]
    apply VE.cons
    · exact ev_build rfl (gn rfl) rfl built24_0
    simp only [nmx, seval]
    apply VE.cons
    · exact ev_bin (c := .bool false) rfl (gn rfl) rfl rfl (fun w => eqP_ninf oX hi0 _ _ w)
    simp only [nmx, seval]
    apply VE.cons
    · exact ev_move rfl (gn rfl)
    simp only [nmx, seval]
    apply VE.cons
    · first | exact Ev.skip (fun _ => rfl) | exact ev_move rfl (fun _ => rfl)
    simp only [nmx, seval]
    apply VE.cons
    · first | exact Ev.skip (fun _ => rfl) | exact ev_field rfl (fun _ => rfl) rfl Tryd.underlying26 rfl Tryd.sizeOf23 | exact ev_fieldx rfl (fun _ => rfl) rfl Tryd.underlying26 rfl Tryd.sizeOf23
    simp only [nmx, seval]
    apply VE.cons
    · first | exact Ev.skip (fun _ => rfl) | exact ev_load rfl (fun _ => rfl) rfl rfl Tryd.underlying23 rfl Tryd.sizeOf23 rfl rfl | exact ev_loadx rfl (fun _ => rfl) rfl Tryd.underlying23 rfl Tryd.sizeOf23 (by assumption) rfl | exact ev_loada rfl (fun _ => rfl) rfl rfl Tryd.underlying23 rfl Tryd.sizeOf23 rfl
    simp only [nmx, seval]
    apply VE.cons
    · first | exact Ev.skip (fun _ => rfl) | exact ev_call rfl (fun _ => rfl) rfl (en_of Tryd.func20 (by kernel_rfl) rfl) (fun w' hw' => ofN (xv X) (xv_lt X) w')
    simp only [nmx, seval]
    apply VE.cons
    · first | exact Ev.skip (fun _ => rfl) | exact ev_callp (v := N (xv X % nn)) [40] rfl (fun _ => rfl) rfl (en_of Tryd.func23 (by kernel_rfl) rfl) (fun ρ S w' hb hR => c_rest (id := 40) hR (by simp) rfl (xv_lt X))
    simp only [nmx, seval]
    apply VE.cons
    · first | exact Ev.skip (fun _ => rfl) | exact ev_load rfl (fun _ => rfl) rfl rfl Tryd.underlying23 rfl Tryd.sizeOf23 rfl rfl | exact ev_loadx rfl (fun _ => rfl) rfl Tryd.underlying23 rfl Tryd.sizeOf23 (by assumption) rfl | exact ev_loada rfl (fun _ => rfl) rfl rfl Tryd.underlying23 rfl Tryd.sizeOf23 rfl
    simp only [nmx, seval]
    apply VE.cons
    · first | exact Ev.skip (fun _ => rfl) | exact ev_call rfl (fun _ => rfl) rfl (en_of Tryd.func20 (by kernel_rfl) rfl) (fun w' hw' => ofN r hr w')
    simp only [nmx, seval]
    apply VE.cons
    · first | exact Ev.skip (fun _ => rfl) | exact ev_bin (c := .bool false) rfl (fun _ => rfl) rfl rfl (fun w => neN_p (mod_R _) hr (decide_eq_true hne) _ _ w)
    simp only [nmx, seval]
    apply VE.cons
    · refine ev_pure' (gn rfl) (fun ρ w => by simp only [VS.act, SV.c, List.map_cons, List.map_nil]; go_simp; exact rfl) (fun _ _ => rfl)
    simp only [nmx, seval]
    exact VE.nil _
  · kernel_rfl
  change VOk _ _ _ _ _
  refine vcond_f rfl ?_
  refine vskip ?_
  change VOk _ _ _ _ _
  refine vseq ?_
  apply vrp
  · apply VE.cons
    · exact ev_assign rfl (gn rfl)
    simp only [nmx, seval]
    exact VE.nil _
  · kernel_rfl
  change VOk _ _ _ _ _
  refine vret ?_
  refine post_ret (res1 Tryd.results6 (rv_tmp rfl)) ?_
  intro ρ w' hr
  exact ⟨rfl, hr.1⟩
end Go.Proofs.YtafbhakmkbehiaaDoor
end
section
namespace Go.Proofs.YtafbhakmkbehiaaDoor
open Go.RowKit Go.Vx TollMont
open Go.Toll (Gw)
open TollEc (F pp cb Jp Pt smul add base nn neg)
open TollSha (sha hmac)
set_option maxHeartbeats 4000000
set_option maxRecDepth 100000
theorem nn_prm : TollNt.Prm nn := TollNt.prm_115792089210356248762697446949407573529996955224135760342422259061068512044369
theorem ferm {t : Nat} (h : sec t = true) : t ^ (nn - 2) % nn * t % nn = 1 ∧ t ^ (nn - 2) % nn < nn := by
  have h1 := of_decide_eq_true h
  refine ⟨?_, Nat.mod_lt _ (by decide)⟩
  rw [Nat.mod_mul_mod, ← Nat.pow_succ]
  have e : (nn - 2).succ = nn - 1 := by decide
  rw [e]
  exact TollNt.fermat nn_prm fun c => by have := Nat.le_of_dvd (by omega) c; omega
theorem sample_sum : sha [[115, 97, 109, 112, 108, 101]].flatten = bl 79232240492262066599341792208678897019497196617930543451364792016062498329023 := by decide +kernel
theorem s0_K1 : nK1 91225253027397101270059260515990221874496108017261222445699397644687913215777 79232240492262066599341792208678897019497196617930543451364792016062498329023 = [18, 45, 177, 222, 152, 218, 228, 223, 163, 63, 45, 168, 233, 132, 148, 200, 11, 255, 128, 123, 71, 159, 215, 146, 97, 179, 126, 37, 242, 103, 238, 88] := by decide +kernel
theorem s0_V1 : nV1 91225253027397101270059260515990221874496108017261222445699397644687913215777 79232240492262066599341792208678897019497196617930543451364792016062498329023 = [201, 148, 120, 3, 167, 71, 252, 96, 194, 53, 53, 253, 204, 19, 181, 202, 86, 107, 72, 34, 28, 166, 125, 73, 100, 210, 45, 170, 72, 39, 88, 68] := by unfold nV1; rw [s0_K1]; decide +kernel
theorem s0_K2 : nK2 91225253027397101270059260515990221874496108017261222445699397644687913215777 79232240492262066599341792208678897019497196617930543451364792016062498329023 = [182, 212, 249, 142, 186, 231, 10, 161, 90, 34, 56, 173, 228, 226, 10, 179, 35, 252, 30, 119, 125, 34, 240, 197, 130, 216, 239, 46, 107, 167, 53, 105] := by unfold nK2; rw [s0_K1, s0_V1]; decide +kernel
theorem s0_V2 : nV2 91225253027397101270059260515990221874496108017261222445699397644687913215777 79232240492262066599341792208678897019497196617930543451364792016062498329023 = [186, 229, 127, 226, 86, 222, 45, 232, 6, 177, 6, 53, 73, 114, 55, 231, 186, 233, 103, 84, 88, 37, 102, 56, 76, 71, 198, 195, 65, 100, 148, 209] := by unfold nV2; rw [s0_K2, s0_V1]; decide +kernel
theorem s0_n : nV3 91225253027397101270059260515990221874496108017261222445699397644687913215777 (79232240492262066599341792208678897019497196617930543451364792016062498329023 % nn) = bl 75486370184466523516702714224272210659255809472406410223340475427961162083680 := by
  rw [show 79232240492262066599341792208678897019497196617930543451364792016062498329023 % nn = 79232240492262066599341792208678897019497196617930543451364792016062498329023 by decide +kernel]; unfold nV3; rw [s0_K2, s0_V2]; decide +kernel
theorem s0_Q : smul 75486370184466523516702714224272210659255809472406410223340475427961162083680 base = .aff (108478302882382504386260635397250479524259298414270181541635698882548524332822 : F) (23816927082762815370282769170926222301915909407297503829989736095857061655698 : F) := by
  have e := TollEc.ladder_all 75486370184466523516702714224272210659255809472406410223340475427961162083680 (by decide) TollEc.bj (by rw [TollEc.bj_rep]; exact TollEc.base_on)
  have hz : (TollEc.ladder 75486370184466523516702714224272210659255809472406410223340475427961162083680 TollEc.bj 256).z * 59417473789786370807793808047161012540374656117645285032131754810474643093239 = 1 := by decide +kernel
  have hx : (TollEc.ladder 75486370184466523516702714224272210659255809472406410223340475427961162083680 TollEc.bj 256).x * ((59417473789786370807793808047161012540374656117645285032131754810474643093239 : F) * 59417473789786370807793808047161012540374656117645285032131754810474643093239) = 108478302882382504386260635397250479524259298414270181541635698882548524332822 := by decide +kernel
  have hy : (TollEc.ladder 75486370184466523516702714224272210659255809472406410223340475427961162083680 TollEc.bj 256).y * ((59417473789786370807793808047161012540374656117645285032131754810474643093239 : F) * (59417473789786370807793808047161012540374656117645285032131754810474643093239 * 59417473789786370807793808047161012540374656117645285032131754810474643093239)) = 23816927082762815370282769170926222301915909407297503829989736095857061655698 := by decide +kernel
  rw [TollEc.bj_rep, TollEc.rep_of hz, hx, hy] at e
  exact e.symm
theorem builtD : Tryd.prog.built 23 [(0, .int .u8 201), (1, .int .u8 175), (2, .int .u8 169), (3, .int .u8 216), (4, .int .u8 69), (5, .int .u8 186), (6, .int .u8 117), (7, .int .u8 22), (8, .int .u8 107), (9, .int .u8 92), (10, .int .u8 33), (11, .int .u8 87), (12, .int .u8 103), (13, .int .u8 177), (14, .int .u8 214), (15, .int .u8 147), (16, .int .u8 78), (17, .int .u8 80), (18, .int .u8 195), (19, .int .u8 219), (20, .int .u8 54), (21, .int .u8 232), (22, .int .u8 155), (23, .int .u8 18), (24, .int .u8 123), (25, .int .u8 138), (26, .int .u8 98), (27, .int .u8 43), (28, .int .u8 18), (29, .int .u8 15), (30, .int .u8 103), (31, .int .u8 33)] = some (B32 91225253027397101270059260515990221874496108017261222445699397644687913215777).cells := by kernel_rfl
theorem s0_b0 : byt 108478302882382504386260635397250479524259298414270181541635698882548524332822 0 = 239 := by decide +kernel
theorem s0_b1 : byt 108478302882382504386260635397250479524259298414270181541635698882548524332822 1 = 212 := by decide +kernel
theorem s0_b31 : byt 108478302882382504386260635397250479524259298414270181541635698882548524332822 31 = 22 := by decide +kernel
theorem signs_ok (w : World) (hL : Laid w) (hK : LaidK w) (hH : LaidH w) (hb1 : 6 < w.heap.size) : Calls Tryd.prog 7 #[] w fun e w' => e = .returned (.bool true) ∧ Bw w w' := by
  go_enter Tryd.func7, Tryd.ntmps7
  refine ve_go ?_
  simp only [List.map_cons, List.map_nil]
  refine vseq ?_
  apply vrp
  · apply VE.cons
    · exact ev_assign rfl (gn rfl)
    simp only [nmx, seval]
    exact VE.nil _
  · kernel_rfl
  change VOk _ _ _ _ _
  refine vseq ?_
  apply vrp
  · apply VE.cons
    · exact ev_build (cells := (B32 91225253027397101270059260515990221874496108017261222445699397644687913215777).cells) rfl (gn rfl) rfl builtD
    simp only [nmx, seval]
    apply VE.cons
    · exact ev_alloc rfl rfl (gn rfl) Tryd.zeroValue23
    simp only [nmx, seval]
    apply VE.cons
    · exact ev_store rfl (gn rfl) rfl rfl rfl Tryd.sizeOf23 rfl (by simp) rfl
    simp only [nmx, seval]
    exact VE.nil _
  · kernel_rfl
  change VOk _ _ _ _ _
  refine vseq ?_
  apply vrd (by kernel_rfl)
  · apply VE.cons
    · first | exact ev_load rfl (gn rfl) rfl rfl Tryd.underlying23 rfl Tryd.sizeOf23 rfl rfl | exact ev_loadx rfl (gn rfl) rfl Tryd.underlying23 rfl Tryd.sizeOf23 (by assumption) rfl | exact ev_loada rfl (gn rfl) rfl rfl Tryd.underlying23 rfl Tryd.sizeOf23 rfl
    simp only [nmx, seval]
    apply VE.cons
    · exact ev_buildslice rfl rfl (gn rfl) rfl (e := 5) (l := [115, 97, 109, 112, 108, 101].map b8) rfl (by decide) (fun _ => by kernel_rfl)
    simp only [nmx, seval]
    apply VE.cons
    · exact ev_convown (id := 7) rfl (gn rfl) rfl rfl (by decide) Tryd.underlying22 Tryd.underlying5
    simp only [nmx, seval]
    apply VE.cons
    · exact ev_bsl (ys := [.d 7]) (size := 1) (l := [.d 7]) (ls := [[.d 7]]) [7] rfl rfl (gn rfl) rfl rfl rfl (fun ρ S w' hb hR j y lj hy hl => by have h7 := row_cells (id := 7) hR (by simp) rfl; rcases j with _ | j <;> simp only [List.getElem?_cons_zero, List.getElem?_cons_succ, List.getElem?_nil, Option.some.injEq, reduceCtorEq] at hy hl <;> (subst hy hl; first | exact one_s | exact h7.1)) (by simp) rfl rfl Tryd.underlying85 (by kernel_rfl) (by kernel_rfl) (by decide) (by decide)
    simp only [nmx, seval]
    apply VE.cons
    · exact ev_callp (v := B32 79232240492262066599341792208678897019497196617930543451364792016062498329023) [7, 9] rfl (gn rfl) rfl (en_of Tryd.func25 (by kernel_rfl) rfl) (fun ρ S w' hb hR => by have a := Of_ok (ls := [[115, 97, 109, 112, 108, 101]]) w' (hK.bw hb) (hH.bw hb) (Nat.lt_of_lt_of_le hb1 hb.size) (partsf_own (id := 9) (n := 1) (by simp) (by rfl) rfl (by exact ⟨⟨rdgf_rowL (id := 7) (by simp) rfl rfl, (by decide)⟩, trivial⟩) ρ S w' hb hR) (hangs_lt hb hR) (by decide) (by decide); rw [sample_sum, ← B32_bl] at a; exact a)
    simp only [nmx, seval]
    apply VE.cons
    · exact ev_callb (v := .tuple #[PT 108478302882382504386260635397250479524259298414270181541635698882548524332822 112080140797967428609887221250561337109878063180226093183577605221974133099944, .int .i64 0]) rfl (gn rfl) rfl (en_of Tryd.func24 (by kernel_rfl) rfl) (fun w' hw' => Make_ok (d := 91225253027397101270059260515990221874496108017261222445699397644687913215777) (h := 79232240492262066599341792208678897019497196617930543451364792016062498329023) (k := 75486370184466523516702714224272210659255809472406410223340475427961162083680) (r := 108478302882382504386260635397250479524259298414270181541635698882548524332822) (t := 112080140797967428609887221250561337109878063180226093183577605221974133099944) (i := 77330732676717296355926672845175206641902884526782727272171666650193567147335) (by decide) (by decide) (by decide) w' (hL.bw hw') (hK.bw hw') (hH.bw hw') (Nat.lt_of_lt_of_le hb1 hw'.size) (by decide) s0_n (by decide) s0_Q (by decide +kernel) (by decide) (by decide +kernel) (by decide +kernel) (by decide) (by decide))
    simp only [nmx, seval]
    apply VE.cons
    · exact ev_move rfl (gn rfl)
    simp only [nmx, seval]
    apply VE.cons
    · first | exact ev_extract rfl (gn rfl) rfl rfl | exact ev_extractt rfl (gn rfl) rfl rfl
    simp only [nmx, seval]
    apply VE.cons
    · first | exact ev_extract rfl (gn rfl) rfl rfl | exact ev_extractt rfl (gn rfl) rfl rfl
    simp only [nmx, seval]
    apply VE.cons
    · exact ev_alloc rfl rfl (gn rfl) Tryd.zeroValue24
    simp only [nmx, seval]
    apply VE.cons
    · exact ev_store rfl (gn rfl) rfl rfl rfl Tryd.sizeOf24 rfl (by simp) rfl
    simp only [nmx, seval]
    apply VE.cons
    · exact ev_assign rfl (gn rfl)
    simp only [nmx, seval]
    exact VE.nil _
  · kernel_rfl
  change VOk _ _ _ _ _
  refine vseq ?_
  apply vrp
  · apply VE.cons
    · exact ev_move rfl (gn rfl)
    simp only [nmx, seval]
    apply VE.cons
    · exact ev_eql (p := true) rfl (gn rfl) rfl rfl (by decide)
    simp only [nmx, seval]
    apply VE.cons
    · exact ev_move rfl (gn rfl)
    simp only [nmx, seval]
    apply VE.cons
    · first | exact Ev.skip (fun _ => rfl) | exact ev_index rfl (fun _ => rfl) rfl rfl Tryd.underlying24 Tryd.sizeOf5 (by decide) (by decide)
    simp only [nmx, seval]
    apply VE.cons
    · first | exact Ev.skip (fun _ => rfl) | exact ev_load1 rfl (fun _ => rfl) rfl rfl Tryd.underlying5 rfl rfl | exact ev_loadx1 rfl (fun _ => rfl) rfl Tryd.underlying5 rfl (by assumption)
    simp only [nmx, seval]
    apply VE.cons
    · first | exact Ev.skip (fun _ => rfl) | exact ev_eql (p := true) rfl (fun _ => rfl) rfl rfl (by rw [s0_b0]; decide)
    simp only [nmx, seval]
    apply VE.cons
    · refine ev_pure' (gn rfl) (fun ρ w => by simp only [VS.act, SV.c, List.map_cons, List.map_nil]; go_simp; exact rfl) (fun _ _ => rfl)
    simp only [nmx, seval]
    apply VE.cons
    · exact ev_move rfl (gn rfl)
    simp only [nmx, seval]
    apply VE.cons
    · first | exact Ev.skip (fun _ => rfl) | exact ev_index rfl (fun _ => rfl) rfl rfl Tryd.underlying24 Tryd.sizeOf5 (by decide) (by decide)
    simp only [nmx, seval]
    apply VE.cons
    · first | exact Ev.skip (fun _ => rfl) | exact ev_load1 rfl (fun _ => rfl) rfl rfl Tryd.underlying5 rfl rfl | exact ev_loadx1 rfl (fun _ => rfl) rfl Tryd.underlying5 rfl (by assumption)
    simp only [nmx, seval]
    apply VE.cons
    · first | exact Ev.skip (fun _ => rfl) | exact ev_eql (p := true) rfl (fun _ => rfl) rfl rfl (by rw [s0_b1]; decide)
    simp only [nmx, seval]
    apply VE.cons
    · refine ev_pure' (gn rfl) (fun ρ w => by simp only [VS.act, SV.c, List.map_cons, List.map_nil]; go_simp; exact rfl) (fun _ _ => rfl)
    simp only [nmx, seval]
    apply VE.cons
    · exact ev_move rfl (gn rfl)
    simp only [nmx, seval]
    apply VE.cons
    · first | exact Ev.skip (fun _ => rfl) | exact ev_index rfl (fun _ => rfl) rfl rfl Tryd.underlying24 Tryd.sizeOf5 (by decide) (by decide)
    simp only [nmx, seval]
    apply VE.cons
    · first | exact Ev.skip (fun _ => rfl) | exact ev_load1 rfl (fun _ => rfl) rfl rfl Tryd.underlying5 rfl rfl | exact ev_loadx1 rfl (fun _ => rfl) rfl Tryd.underlying5 rfl (by assumption)
    simp only [nmx, seval]
    apply VE.cons
    · first | exact Ev.skip (fun _ => rfl) | exact ev_eql (p := true) rfl (fun _ => rfl) rfl rfl (by rw [s0_b31]; decide)
    simp only [nmx, seval]
    apply VE.cons
    · refine ev_pure' (gn rfl) (fun ρ w => by simp only [VS.act, SV.c, List.map_cons, List.map_nil]; go_simp; exact rfl) (fun _ _ => rfl)
    simp only [nmx, seval]
    apply VE.cons
    · exact ev_assign rfl (gn rfl)
    simp only [nmx, seval]
    exact VE.nil _
  · kernel_rfl
  change VOk _ _ _ _ _
  refine vret ?_
  refine post_ret (res1 Tryd.results7 (rv_tmp rfl)) ?_
  intro ρ w' hr
  exact ⟨rfl, hr.1⟩
end Go.Proofs.YtafbhakmkbehiaaDoor
end
section
namespace Go.Proofs.YtafbhakmkbehiaaDoor
open Go.RowKit Go.Vx TollMont
open Go.Toll (Gw)
open TollEc (F pp cb Jp Pt smul add base nn neg)
open TollSha (sha hmac)
set_option maxHeartbeats 4000000
set_option maxRecDepth 100000
def JE (w : World) (v : Value) : Prop := ∀ w', Bw w w' → Calls Tryd.prog 5 #[v] w' fun e w'' => e = .returned (.tuple #[.agg #[.int .u8 0, .int .u8 0, .int .u8 0, .int .u8 0, .int .u8 0, .int .u8 0, .int .u8 0, .int .u8 0, .int .u8 0, .int .u8 0, .int .u8 0, .int .u8 0, .int .u8 0, .int .u8 0, .int .u8 0, .int .u8 0, .int .u8 0, .int .u8 0, .int .u8 0, .int .u8 0, .int .u8 0, .int .u8 0, .int .u8 0, .int .u8 0, .int .u8 0, .int .u8 0, .int .u8 0, .int .u8 0, .int .u8 0, .int .u8 0, .int .u8 0, .int .u8 0, .int .u8 0, .int .u8 0, .int .u8 0, .int .u8 0, .int .u8 0, .int .u8 0, .int .u8 0, .int .u8 0, .int .u8 0, .int .u8 0, .int .u8 0, .int .u8 0, .int .u8 0, .int .u8 0, .int .u8 0, .int .u8 0, .int .u8 0, .int .u8 0, .int .u8 0, .int .u8 0, .int .u8 0, .int .u8 0, .int .u8 0, .int .u8 0, .int .u8 0, .int .u8 0, .int .u8 0, .int .u8 0, .int .u8 0, .int .u8 0, .int .u8 0, .int .u8 0], .int .i64 15]) ∧ Bw w' w''
def JO (w : World) (v : Value) (x y : Nat) : Prop := x < R ∧ y < R ∧ ∀ w', Bw w w' → Calls Tryd.prog 5 #[v] w' fun e w'' => e = .returned (.tuple #[PT x y, .int .i64 0]) ∧ Bw w' w''
theorem l32_bl (n : Nat) : l32 n = (bl n).map b8 := rfl
theorem read_any {w : World} {v : Value} {n : Nat} {l : List Nat} {S : Nat → Prop} (hv : SlAt w v n 1 (l.map b8) S) (h8 : ∀ x ∈ l, x < 256) (hL : Laid w) : JE w v ∨ ∃ x y, JO w v x y := by
  by_cases hn : n = 65
  · subst hn
    have hlen : l.length = 65 := by obtain ⟨_, _, _, _, h, _⟩ := hv; simpa using h
    match l, hlen, h8, hv with
    | b :: t, hlen, h8, hv =>
      by_cases h4 : b = 4
      · subst h4
        have ht : t.length = 64 := by simpa using hlen
        have m1 : ∀ x ∈ t.take 32, x < 256 := fun x hx => h8 x (by simp [List.mem_of_mem_take hx])
        have m2 : ∀ x ∈ t.drop 32, x < 256 := fun x hx => h8 x (by simp [List.mem_of_mem_drop hx])
        have l1 : (t.take 32).length = 32 := by simp; omega
        have l2 : (t.drop 32).length = 32 := by simp; omega
        have el : (4 :: t).map b8 = wb (TollBy.beV (t.take 32) 0) (TollBy.beV (t.drop 32) 0) := by
          unfold wb
          rw [l32_bl, l32_bl, bl_beV l1 m1, bl_beV l2 m2, ← List.map_append, List.take_append_drop]
          rfl
        rw [el] at hv
        have hx := beV_R l1 m1
        have hy := beV_R l2 m2
        cases ho : onB (TollBy.beV (t.take 32) 0) (TollBy.beV (t.drop 32) 0) with
        | true => exact .inr ⟨_, _, hx, hy, fun w' hb => read_on hx hy w' (hL.bw hb) (sl_bw hv hb) ho⟩
        | false => exact .inl fun w' hb => read_off hx hy w' (hL.bw hb) (sl_bw hv hb) ho
      · exact .inl fun w' hb => read_tag w' (hL.bw hb) (sl_bw hv hb) h4
  · exact .inl fun w' hb => read_len w' (hL.bw hb) (sl_bw hv hb) hn
theorem Check_any {v : Value} {x y h r t : Nat} (hh : h < R) (hr : r < R) (ht : t < R) {w : World} (hL : Laid w) (hj : JO w v x y) : ∃ f : Int, (f = 0 ∨ f = 6) ∧ ∀ w', Bw w w' → Calls Tryd.prog 6 #[v, B32 h, PT r t] w' fun e w'' => e = .returned (.int .i64 f) ∧ Bw w' w'' := by
  obtain ⟨hx, hy, hj⟩ := hj
  have hrd : ∀ w', Bw w w' → ∀ w'', Bw w' w'' → Calls Tryd.prog 5 #[v] w'' fun e w3 => e = .returned (.tuple #[PT x y, .int .i64 0]) ∧ Bw w'' w3 := fun w' h1 w'' h2 => hj w'' (h1.trans h2)
  cases sr : sec r with
  | false => exact ⟨6, .inr rfl, fun w' hb => Check_f1 hh hr ht w' (hL.bw hb) (hrd w' hb) sr⟩
  | true =>
    cases st : sec t with
    | false => exact ⟨6, .inr rfl, fun w' hb => Check_f2 hh hr ht w' (hL.bw hb) (hrd w' hb) sr st⟩
    | true =>
      obtain ⟨hv, hi⟩ := ferm st
      have oA := TollEc.smul_on TollEc.base_on (t ^ (nn - 2) % nn * h % nn)
      have oB := TollEc.smul_on (toP_on x y) (t ^ (nn - 2) % nn * r % nn)
      by_cases hinf : add (smul (t ^ (nn - 2) % nn * h % nn) base) (smul (t ^ (nn - 2) % nn * r % nn) (toP x y)) = .inf
      · exact ⟨6, .inr rfl, fun w' hb => Check_i hh hr ht w' (hL.bw hb) hx hy (hrd w' hb) sr st hi hv rfl rfl oA oB rfl (TollEc.on_add oA oB) hinf⟩
      · by_cases hne : xv (add (smul (t ^ (nn - 2) % nn * h % nn) base) (smul (t ^ (nn - 2) % nn * r % nn) (toP x y))) % nn = r
        · exact ⟨0, .inl rfl, fun w' hb => Check_g hh hr ht w' (hL.bw hb) hx hy (hrd w' hb) sr st hi hv rfl rfl oA oB rfl (TollEc.on_add oA oB) hinf hne⟩
        · exact ⟨6, .inr rfl, fun w' hb => Check_b hh hr ht w' (hL.bw hb) hx hy (hrd w' hb) sr st hi hv rfl rfl oA oB rfl (TollEc.on_add oA oB) hinf hne⟩
theorem pubs_e {v : Value} {n h r t : Nat} {l : List Nat} {F : Nat → Prop} (_hh : h < R) (_hr : r < R) (_ht : t < R) (w : World) (hL : Laid w) (hK : LaidK w) (hH : LaidH w) (hb1 : 6 < w.heap.size) (hv : SlAt w v n 1 (l.map b8) F) (hrd : ∀ w', Bw w w' → Calls Tryd.prog 5 #[(cutV 0 (min n 80) 1 v)] w' fun e w'' => e = .returned (.tuple #[.agg #[.int .u8 0, .int .u8 0, .int .u8 0, .int .u8 0, .int .u8 0, .int .u8 0, .int .u8 0, .int .u8 0, .int .u8 0, .int .u8 0, .int .u8 0, .int .u8 0, .int .u8 0, .int .u8 0, .int .u8 0, .int .u8 0, .int .u8 0, .int .u8 0, .int .u8 0, .int .u8 0, .int .u8 0, .int .u8 0, .int .u8 0, .int .u8 0, .int .u8 0, .int .u8 0, .int .u8 0, .int .u8 0, .int .u8 0, .int .u8 0, .int .u8 0, .int .u8 0, .int .u8 0, .int .u8 0, .int .u8 0, .int .u8 0, .int .u8 0, .int .u8 0, .int .u8 0, .int .u8 0, .int .u8 0, .int .u8 0, .int .u8 0, .int .u8 0, .int .u8 0, .int .u8 0, .int .u8 0, .int .u8 0, .int .u8 0, .int .u8 0, .int .u8 0, .int .u8 0, .int .u8 0, .int .u8 0, .int .u8 0, .int .u8 0, .int .u8 0, .int .u8 0, .int .u8 0, .int .u8 0, .int .u8 0, .int .u8 0, .int .u8 0, .int .u8 0], .int .i64 15]) ∧ Bw w' w'') (hck : ∀ w', Bw w w' → Calls Tryd.prog 6 #[(cutV 0 (min n 80) 1 v), B32 h, PT r t] w' fun e w'' => e = .returned (.int .i64 15) ∧ Bw w' w'') : Calls Tryd.prog 3 #[v, B32 h, PT r t] w fun e w' => e = .returned (.bool true) ∧ Bw w w' := by
  go_enter Tryd.func3, Tryd.ntmps3
  refine ve_go ?_
  simp only [List.map_cons, List.map_nil]
  refine vseq ?_
  apply vrp
  · apply VE.cons
    · exact ev_box rfl rfl (gn rfl) rfl
    simp only [nmx, seval]
    apply VE.cons
    · exact ev_box rfl rfl (gn rfl) rfl
    simp only [nmx, seval]
    apply VE.cons
    · exact ev_assign rfl (gn rfl)
    simp only [nmx, seval]
    exact VE.nil _
  · kernel_rfl
  change VOk _ _ _ _ _
  refine vseq ?_
  apply vrp
  · apply VE.cons
    · exact ev_move rfl (gn rfl)
    simp only [nmx, seval]
    apply VE.cons
    · exact ev_move rfl (gn rfl)
    simp only [nmx, seval]
    apply VE.cons
    · exact ev_len rfl (gn rfl) rfl Tryd.underlying22 (rdg_arg hv)
    simp only [nmx, seval]
    apply VE.cons
    · exact ev_min (a := n) (b := 80) (c := min n 80) rfl (gn rfl) rfl rfl rfl
    simp only [nmx, seval]
    apply VE.cons
    · exact ev_cutx (a := 0) (b := min n 80) (v' := (cutV 0 (min n 80) 1 v)) rfl (gn rfl) rfl Tryd.underlying22 Tryd.sizeOf5 (rdg_arg hv) rfl rfl (Nat.zero_le _) (Nat.min_le_left _ _) rfl
    simp only [nmx, seval]
    apply VE.cons
    · exact ev_assign rfl (gn rfl)
    simp only [nmx, seval]
    exact VE.nil _
  · kernel_rfl
  change VOk _ _ _ _ _
  refine vseq ?_
  apply vrp
  · apply VE.cons
    · exact ev_move rfl (gn rfl)
    simp only [nmx, seval]
    apply VE.cons
    · exact ev_callb (v := .tuple #[.agg #[.int .u8 0, .int .u8 0, .int .u8 0, .int .u8 0, .int .u8 0, .int .u8 0, .int .u8 0, .int .u8 0, .int .u8 0, .int .u8 0, .int .u8 0, .int .u8 0, .int .u8 0, .int .u8 0, .int .u8 0, .int .u8 0, .int .u8 0, .int .u8 0, .int .u8 0, .int .u8 0, .int .u8 0, .int .u8 0, .int .u8 0, .int .u8 0, .int .u8 0, .int .u8 0, .int .u8 0, .int .u8 0, .int .u8 0, .int .u8 0, .int .u8 0, .int .u8 0, .int .u8 0, .int .u8 0, .int .u8 0, .int .u8 0, .int .u8 0, .int .u8 0, .int .u8 0, .int .u8 0, .int .u8 0, .int .u8 0, .int .u8 0, .int .u8 0, .int .u8 0, .int .u8 0, .int .u8 0, .int .u8 0, .int .u8 0, .int .u8 0, .int .u8 0, .int .u8 0, .int .u8 0, .int .u8 0, .int .u8 0, .int .u8 0, .int .u8 0, .int .u8 0, .int .u8 0, .int .u8 0, .int .u8 0, .int .u8 0, .int .u8 0, .int .u8 0], .int .i64 15]) rfl (gn rfl) rfl (en_of Tryd.func5 (by kernel_rfl) rfl) (fun w' hw' => hrd w' hw')
    simp only [nmx, seval]
    apply VE.cons
    · exact ev_move rfl (gn rfl)
    simp only [nmx, seval]
    apply VE.cons
    · first | exact ev_extract rfl (gn rfl) rfl rfl | exact ev_extractt rfl (gn rfl) rfl rfl
    simp only [nmx, seval]
    apply VE.cons
    · first | exact ev_extract rfl (gn rfl) rfl rfl | exact ev_extractt rfl (gn rfl) rfl rfl
    simp only [nmx, seval]
    apply VE.cons
    · exact ev_alloc rfl rfl (gn rfl) Tryd.zeroValue26
    simp only [nmx, seval]
    apply VE.cons
    · exact ev_store rfl (gn rfl) rfl rfl rfl Tryd.sizeOf26 rfl (by simp) rfl
    simp only [nmx, seval]
    apply VE.cons
    · exact ev_assign rfl (gn rfl)
    simp only [nmx, seval]
    exact VE.nil _
  · kernel_rfl
  change VOk _ _ _ _ _
  refine vseq ?_
  apply vrp
  · apply VE.cons
    · exact ev_move rfl (gn rfl)
    simp only [nmx, seval]
    apply VE.cons
    · first | exact ev_load rfl (gn rfl) rfl rfl Tryd.underlying23 rfl Tryd.sizeOf23 rfl rfl | exact ev_loadx rfl (gn rfl) rfl Tryd.underlying23 rfl Tryd.sizeOf23 (by assumption) rfl | exact ev_loada rfl (gn rfl) rfl rfl Tryd.underlying23 rfl Tryd.sizeOf23 rfl
    simp only [nmx, seval]
    apply VE.cons
    · first | exact ev_load rfl (gn rfl) rfl rfl Tryd.underlying24 rfl Tryd.sizeOf24 rfl rfl | exact ev_loadx rfl (gn rfl) rfl Tryd.underlying24 rfl Tryd.sizeOf24 (by assumption) rfl | exact ev_loada rfl (gn rfl) rfl rfl Tryd.underlying24 rfl Tryd.sizeOf24 rfl
    simp only [nmx, seval]
    apply VE.cons
    · exact ev_callb (v := .int .i64 15) rfl (gn rfl) rfl (en_of Tryd.func6 (by kernel_rfl) rfl) (fun w' hw' => hck w' hw')
    simp only [nmx, seval]
    apply VE.cons
    · exact ev_assign rfl (gn rfl)
    simp only [nmx, seval]
    exact VE.nil _
  · kernel_rfl
  change VOk _ _ _ _ _
  refine vseq ?_
  apply vrp
  · apply VE.cons
    · exact ev_callb (v := .bool true) rfl (gn rfl) rfl (en_of Tryd.func7 (by kernel_rfl) rfl) (fun w' hw' => signs_ok w' (hL.bw hw') (hK.bw hw') (hH.bw hw') (Nat.lt_of_lt_of_le hb1 hw'.size))
    simp only [nmx, seval]
    apply VE.cons
    · exact ev_move rfl (gn rfl)
    simp only [nmx, seval]
    apply VE.cons
    · first | exact Ev.skip (fun _ => rfl) | exact ev_move rfl (fun _ => rfl)
    simp only [nmx, seval]
    apply VE.cons
    · first | exact Ev.skip (fun _ => rfl) | exact ev_eql (p := false) rfl (fun _ => rfl) rfl rfl (by decide)
    simp only [nmx, seval]
    apply VE.cons
    · first | exact Ev.skip (fun _ => rfl) | exact ev_move rfl (fun _ => rfl)
    simp only [nmx, seval]
    apply VE.cons
    · first | exact Ev.skip (fun _ => rfl) | exact ev_move rfl (fun _ => rfl)
    simp only [nmx, seval]
    apply VE.cons
    · first | exact Ev.skip (fun _ => rfl) | exact ev_eql (p := true) rfl (fun _ => rfl) rfl rfl (by decide)
    simp only [nmx, seval]
    apply VE.cons
    · first | exact Ev.skip (fun _ => rfl) | refine ev_pure' (fun _ => rfl) (fun ρ w => by simp only [VS.act, SV.c, List.map_cons, List.map_nil]; go_simp; exact rfl) (fun _ _ => rfl)
    simp only [nmx, seval]
    apply VE.cons
    · refine ev_pure' (gn rfl) (fun ρ w => by simp only [VS.act, SV.c, List.map_cons, List.map_nil]; go_simp; exact rfl) (fun _ _ => rfl)
    simp only [nmx, seval]
    apply VE.cons
    · exact ev_move rfl (gn rfl)
    simp only [nmx, seval]
    apply VE.cons
    · first | exact Ev.skip (fun _ => rfl) | exact ev_move rfl (fun _ => rfl)
    simp only [nmx, seval]
    apply VE.cons
    · first | exact Ev.skip (fun _ => rfl) | exact ev_eql (p := false) rfl (fun _ => rfl) rfl rfl (by decide)
    simp only [nmx, seval]
    apply VE.cons
    · first | exact Ev.skip (fun _ => rfl) | exact ev_move rfl (fun _ => rfl)
    simp only [nmx, seval]
    apply VE.cons
    · first | exact Ev.skip (fun _ => rfl) | exact ev_move rfl (fun _ => rfl)
    simp only [nmx, seval]
    apply VE.cons
    · first | exact Ev.skip (fun _ => rfl) | exact ev_eql (p := false) rfl (fun _ => rfl) rfl rfl (by decide)
    simp only [nmx, seval]
    apply VE.cons
    · first | exact Ev.skip (fun _ => rfl) | refine ev_pure' (fun _ => rfl) (fun ρ w => by simp only [VS.act, SV.c, List.map_cons, List.map_nil]; go_simp; exact rfl) (fun _ _ => rfl)
    simp only [nmx, seval]
    apply VE.cons
    · first | exact Ev.skip (fun _ => rfl) | exact ev_move rfl (fun _ => rfl)
    simp only [nmx, seval]
    apply VE.cons
    · first | exact Ev.skip (fun _ => rfl) | exact ev_move rfl (fun _ => rfl)
    simp only [nmx, seval]
    apply VE.cons
    · first | exact Ev.skip (fun _ => rfl) | exact ev_eql (p := true) rfl (fun _ => rfl) rfl rfl (by decide)
    simp only [nmx, seval]
    apply VE.cons
    · first | exact Ev.skip (fun _ => rfl) | exact ev_move rfl (fun _ => rfl)
    simp only [nmx, seval]
    apply VE.cons
    · first | exact Ev.skip (fun _ => rfl) | exact ev_move rfl (fun _ => rfl)
    simp only [nmx, seval]
    apply VE.cons
    · first | exact Ev.skip (fun _ => rfl) | exact ev_neq (p := true) rfl (fun _ => rfl) rfl rfl (by decide)
    simp only [nmx, seval]
    apply VE.cons
    · first | exact Ev.skip (fun _ => rfl) | refine ev_pure' (fun _ => rfl) (fun ρ w => by simp only [VS.act, SV.c, List.map_cons, List.map_nil]; go_simp; exact rfl) (fun _ _ => rfl)
    simp only [nmx, seval]
    apply VE.cons
    · first | exact Ev.skip (fun _ => rfl) | refine ev_pure' (fun _ => rfl) (fun ρ w => by simp only [VS.act, SV.c, List.map_cons, List.map_nil]; go_simp; exact rfl) (fun _ _ => rfl)
    simp only [nmx, seval]
    apply VE.cons
    · refine ev_pure' (gn rfl) (fun ρ w => by simp only [VS.act, SV.c, List.map_cons, List.map_nil]; go_simp; exact rfl) (fun _ _ => rfl)
    simp only [nmx, seval]
    apply VE.cons
    · exact ev_assign rfl (gn rfl)
    simp only [nmx, seval]
    exact VE.nil _
  · kernel_rfl
  change VOk _ _ _ _ _
  refine vret ?_
  refine post_ret (res1 Tryd.results3 (rv_tmp rfl)) ?_
  intro ρ w' hr
  exact ⟨rfl, hr.1⟩
theorem pubs_g {v : Value} {n h r t : Nat} {l : List Nat} {F : Nat → Prop} {x y : Nat} (_hh : h < R) (_hr : r < R) (_ht : t < R) (w : World) (hL : Laid w) (hK : LaidK w) (hH : LaidH w) (hb1 : 6 < w.heap.size) (hv : SlAt w v n 1 (l.map b8) F) (hrd : ∀ w', Bw w w' → Calls Tryd.prog 5 #[(cutV 0 (min n 80) 1 v)] w' fun e w'' => e = .returned (.tuple #[PT x y, .int .i64 0]) ∧ Bw w' w'') (hck : ∀ w', Bw w w' → Calls Tryd.prog 6 #[(cutV 0 (min n 80) 1 v), B32 h, PT r t] w' fun e w'' => e = .returned (.int .i64 0) ∧ Bw w' w'') : Calls Tryd.prog 3 #[v, B32 h, PT r t] w fun e w' => e = .returned (.bool true) ∧ Bw w w' := by
  go_enter Tryd.func3, Tryd.ntmps3
  refine ve_go ?_
  simp only [List.map_cons, List.map_nil]
  refine vseq ?_
  apply vrp
  · apply VE.cons
    · exact ev_box rfl rfl (gn rfl) rfl
    simp only [nmx, seval]
    apply VE.cons
    · exact ev_box rfl rfl (gn rfl) rfl
    simp only [nmx, seval]
    apply VE.cons
    · exact ev_assign rfl (gn rfl)
    simp only [nmx, seval]
    exact VE.nil _
  · kernel_rfl
  change VOk _ _ _ _ _
  refine vseq ?_
  apply vrp
  · apply VE.cons
    · exact ev_move rfl (gn rfl)
    simp only [nmx, seval]
    apply VE.cons
    · exact ev_move rfl (gn rfl)
    simp only [nmx, seval]
    apply VE.cons
    · exact ev_len rfl (gn rfl) rfl Tryd.underlying22 (rdg_arg hv)
    simp only [nmx, seval]
    apply VE.cons
    · exact ev_min (a := n) (b := 80) (c := min n 80) rfl (gn rfl) rfl rfl rfl
    simp only [nmx, seval]
    apply VE.cons
    · exact ev_cutx (a := 0) (b := min n 80) (v' := (cutV 0 (min n 80) 1 v)) rfl (gn rfl) rfl Tryd.underlying22 Tryd.sizeOf5 (rdg_arg hv) rfl rfl (Nat.zero_le _) (Nat.min_le_left _ _) rfl
    simp only [nmx, seval]
    apply VE.cons
    · exact ev_assign rfl (gn rfl)
    simp only [nmx, seval]
    exact VE.nil _
  · kernel_rfl
  change VOk _ _ _ _ _
  refine vseq ?_
  apply vrp
  · apply VE.cons
    · exact ev_move rfl (gn rfl)
    simp only [nmx, seval]
    apply VE.cons
    · exact ev_callb (v := .tuple #[PT x y, .int .i64 0]) rfl (gn rfl) rfl (en_of Tryd.func5 (by kernel_rfl) rfl) (fun w' hw' => hrd w' hw')
    simp only [nmx, seval]
    apply VE.cons
    · exact ev_move rfl (gn rfl)
    simp only [nmx, seval]
    apply VE.cons
    · first | exact ev_extract rfl (gn rfl) rfl rfl | exact ev_extractt rfl (gn rfl) rfl rfl
    simp only [nmx, seval]
    apply VE.cons
    · first | exact ev_extract rfl (gn rfl) rfl rfl | exact ev_extractt rfl (gn rfl) rfl rfl
    simp only [nmx, seval]
    apply VE.cons
    · exact ev_alloc rfl rfl (gn rfl) Tryd.zeroValue26
    simp only [nmx, seval]
    apply VE.cons
    · exact ev_store rfl (gn rfl) rfl rfl rfl Tryd.sizeOf26 rfl (by simp) rfl
    simp only [nmx, seval]
    apply VE.cons
    · exact ev_assign rfl (gn rfl)
    simp only [nmx, seval]
    exact VE.nil _
  · kernel_rfl
  change VOk _ _ _ _ _
  refine vseq ?_
  apply vrp
  · apply VE.cons
    · exact ev_move rfl (gn rfl)
    simp only [nmx, seval]
    apply VE.cons
    · first | exact ev_load rfl (gn rfl) rfl rfl Tryd.underlying23 rfl Tryd.sizeOf23 rfl rfl | exact ev_loadx rfl (gn rfl) rfl Tryd.underlying23 rfl Tryd.sizeOf23 (by assumption) rfl | exact ev_loada rfl (gn rfl) rfl rfl Tryd.underlying23 rfl Tryd.sizeOf23 rfl
    simp only [nmx, seval]
    apply VE.cons
    · first | exact ev_load rfl (gn rfl) rfl rfl Tryd.underlying24 rfl Tryd.sizeOf24 rfl rfl | exact ev_loadx rfl (gn rfl) rfl Tryd.underlying24 rfl Tryd.sizeOf24 (by assumption) rfl | exact ev_loada rfl (gn rfl) rfl rfl Tryd.underlying24 rfl Tryd.sizeOf24 rfl
    simp only [nmx, seval]
    apply VE.cons
    · exact ev_callb (v := .int .i64 0) rfl (gn rfl) rfl (en_of Tryd.func6 (by kernel_rfl) rfl) (fun w' hw' => hck w' hw')
    simp only [nmx, seval]
    apply VE.cons
    · exact ev_assign rfl (gn rfl)
    simp only [nmx, seval]
    exact VE.nil _
  · kernel_rfl
  change VOk _ _ _ _ _
  refine vseq ?_
  apply vrp
  · apply VE.cons
    · exact ev_callb (v := .bool true) rfl (gn rfl) rfl (en_of Tryd.func7 (by kernel_rfl) rfl) (fun w' hw' => signs_ok w' (hL.bw hw') (hK.bw hw') (hH.bw hw') (Nat.lt_of_lt_of_le hb1 hw'.size))
    simp only [nmx, seval]
    apply VE.cons
    · exact ev_move rfl (gn rfl)
    simp only [nmx, seval]
    apply VE.cons
    · first | exact Ev.skip (fun _ => rfl) | exact ev_move rfl (fun _ => rfl)
    simp only [nmx, seval]
    apply VE.cons
    · first | exact Ev.skip (fun _ => rfl) | exact ev_eql (p := true) rfl (fun _ => rfl) rfl rfl (by decide)
    simp only [nmx, seval]
    apply VE.cons
    · first | exact Ev.skip (fun _ => rfl) | exact ev_move rfl (fun _ => rfl)
    simp only [nmx, seval]
    apply VE.cons
    · first | exact Ev.skip (fun _ => rfl) | exact ev_move rfl (fun _ => rfl)
    simp only [nmx, seval]
    apply VE.cons
    · first | exact Ev.skip (fun _ => rfl) | exact ev_eql (p := false) rfl (fun _ => rfl) rfl rfl (by decide)
    simp only [nmx, seval]
    apply VE.cons
    · first | exact Ev.skip (fun _ => rfl) | refine ev_pure' (fun _ => rfl) (fun ρ w => by simp only [VS.act, SV.c, List.map_cons, List.map_nil]; go_simp; exact rfl) (fun _ _ => rfl)
    simp only [nmx, seval]
    apply VE.cons
    · refine ev_pure' (gn rfl) (fun ρ w => by simp only [VS.act, SV.c, List.map_cons, List.map_nil]; go_simp; exact rfl) (fun _ _ => rfl)
    simp only [nmx, seval]
    apply VE.cons
    · exact ev_move rfl (gn rfl)
    simp only [nmx, seval]
    apply VE.cons
    · first | exact Ev.skip (fun _ => rfl) | exact ev_move rfl (fun _ => rfl)
    simp only [nmx, seval]
    apply VE.cons
    · first | exact Ev.skip (fun _ => rfl) | exact ev_eql (p := true) rfl (fun _ => rfl) rfl rfl (by decide)
    simp only [nmx, seval]
    apply VE.cons
    · first | exact Ev.skip (fun _ => rfl) | exact ev_move rfl (fun _ => rfl)
    simp only [nmx, seval]
    apply VE.cons
    · first | exact Ev.skip (fun _ => rfl) | exact ev_move rfl (fun _ => rfl)
    simp only [nmx, seval]
    apply VE.cons
    · first | exact Ev.skip (fun _ => rfl) | exact ev_eql (p := false) rfl (fun _ => rfl) rfl rfl (by decide)
    simp only [nmx, seval]
    apply VE.cons
    · first | exact Ev.skip (fun _ => rfl) | refine ev_pure' (fun _ => rfl) (fun ρ w => by simp only [VS.act, SV.c, List.map_cons, List.map_nil]; go_simp; exact rfl) (fun _ _ => rfl)
    simp only [nmx, seval]
    apply VE.cons
    · first | exact Ev.skip (fun _ => rfl) | exact ev_move rfl (fun _ => rfl)
    simp only [nmx, seval]
    apply VE.cons
    · first | exact Ev.skip (fun _ => rfl) | exact ev_move rfl (fun _ => rfl)
    simp only [nmx, seval]
    apply VE.cons
    · first | exact Ev.skip (fun _ => rfl) | exact ev_eql (p := false) rfl (fun _ => rfl) rfl rfl (by decide)
    simp only [nmx, seval]
    apply VE.cons
    · first | exact Ev.skip (fun _ => rfl) | exact ev_move rfl (fun _ => rfl)
    simp only [nmx, seval]
    apply VE.cons
    · first | exact Ev.skip (fun _ => rfl) | exact ev_move rfl (fun _ => rfl)
    simp only [nmx, seval]
    apply VE.cons
    · first | exact Ev.skip (fun _ => rfl) | exact ev_neq (p := false) rfl (fun _ => rfl) rfl rfl (by decide)
    simp only [nmx, seval]
    apply VE.cons
    · first | exact Ev.skip (fun _ => rfl) | refine ev_pure' (fun _ => rfl) (fun ρ w => by simp only [VS.act, SV.c, List.map_cons, List.map_nil]; go_simp; exact rfl) (fun _ _ => rfl)
    simp only [nmx, seval]
    apply VE.cons
    · first | exact Ev.skip (fun _ => rfl) | refine ev_pure' (fun _ => rfl) (fun ρ w => by simp only [VS.act, SV.c, List.map_cons, List.map_nil]; go_simp; exact rfl) (fun _ _ => rfl)
    simp only [nmx, seval]
    apply VE.cons
    · refine ev_pure' (gn rfl) (fun ρ w => by simp only [VS.act, SV.c, List.map_cons, List.map_nil]; go_simp; exact rfl) (fun _ _ => rfl)
    simp only [nmx, seval]
    apply VE.cons
    · exact ev_assign rfl (gn rfl)
    simp only [nmx, seval]
    exact VE.nil _
  · kernel_rfl
  change VOk _ _ _ _ _
  refine vret ?_
  refine post_ret (res1 Tryd.results3 (rv_tmp rfl)) ?_
  intro ρ w' hr
  exact ⟨rfl, hr.1⟩
theorem pubs_b {v : Value} {n h r t : Nat} {l : List Nat} {F : Nat → Prop} {x y : Nat} (_hh : h < R) (_hr : r < R) (_ht : t < R) (w : World) (hL : Laid w) (hK : LaidK w) (hH : LaidH w) (hb1 : 6 < w.heap.size) (hv : SlAt w v n 1 (l.map b8) F) (hrd : ∀ w', Bw w w' → Calls Tryd.prog 5 #[(cutV 0 (min n 80) 1 v)] w' fun e w'' => e = .returned (.tuple #[PT x y, .int .i64 0]) ∧ Bw w' w'') (hck : ∀ w', Bw w w' → Calls Tryd.prog 6 #[(cutV 0 (min n 80) 1 v), B32 h, PT r t] w' fun e w'' => e = .returned (.int .i64 6) ∧ Bw w' w'') : Calls Tryd.prog 3 #[v, B32 h, PT r t] w fun e w' => e = .returned (.bool true) ∧ Bw w w' := by
  go_enter Tryd.func3, Tryd.ntmps3
  refine ve_go ?_
  simp only [List.map_cons, List.map_nil]
  refine vseq ?_
  apply vrp
  · apply VE.cons
    · exact ev_box rfl rfl (gn rfl) rfl
    simp only [nmx, seval]
    apply VE.cons
    · exact ev_box rfl rfl (gn rfl) rfl
    simp only [nmx, seval]
    apply VE.cons
    · exact ev_assign rfl (gn rfl)
    simp only [nmx, seval]
    exact VE.nil _
  · kernel_rfl
  change VOk _ _ _ _ _
  refine vseq ?_
  apply vrp
  · apply VE.cons
    · exact ev_move rfl (gn rfl)
    simp only [nmx, seval]
    apply VE.cons
    · exact ev_move rfl (gn rfl)
    simp only [nmx, seval]
    apply VE.cons
    · exact ev_len rfl (gn rfl) rfl Tryd.underlying22 (rdg_arg hv)
    simp only [nmx, seval]
    apply VE.cons
    · exact ev_min (a := n) (b := 80) (c := min n 80) rfl (gn rfl) rfl rfl rfl
    simp only [nmx, seval]
    apply VE.cons
    · exact ev_cutx (a := 0) (b := min n 80) (v' := (cutV 0 (min n 80) 1 v)) rfl (gn rfl) rfl Tryd.underlying22 Tryd.sizeOf5 (rdg_arg hv) rfl rfl (Nat.zero_le _) (Nat.min_le_left _ _) rfl
    simp only [nmx, seval]
    apply VE.cons
    · exact ev_assign rfl (gn rfl)
    simp only [nmx, seval]
    exact VE.nil _
  · kernel_rfl
  change VOk _ _ _ _ _
  refine vseq ?_
  apply vrp
  · apply VE.cons
    · exact ev_move rfl (gn rfl)
    simp only [nmx, seval]
    apply VE.cons
    · exact ev_callb (v := .tuple #[PT x y, .int .i64 0]) rfl (gn rfl) rfl (en_of Tryd.func5 (by kernel_rfl) rfl) (fun w' hw' => hrd w' hw')
    simp only [nmx, seval]
    apply VE.cons
    · exact ev_move rfl (gn rfl)
    simp only [nmx, seval]
    apply VE.cons
    · first | exact ev_extract rfl (gn rfl) rfl rfl | exact ev_extractt rfl (gn rfl) rfl rfl
    simp only [nmx, seval]
    apply VE.cons
    · first | exact ev_extract rfl (gn rfl) rfl rfl | exact ev_extractt rfl (gn rfl) rfl rfl
    simp only [nmx, seval]
    apply VE.cons
    · exact ev_alloc rfl rfl (gn rfl) Tryd.zeroValue26
    simp only [nmx, seval]
    apply VE.cons
    · exact ev_store rfl (gn rfl) rfl rfl rfl Tryd.sizeOf26 rfl (by simp) rfl
    simp only [nmx, seval]
    apply VE.cons
    · exact ev_assign rfl (gn rfl)
    simp only [nmx, seval]
    exact VE.nil _
  · kernel_rfl
  change VOk _ _ _ _ _
  refine vseq ?_
  apply vrp
  · apply VE.cons
    · exact ev_move rfl (gn rfl)
    simp only [nmx, seval]
    apply VE.cons
    · first | exact ev_load rfl (gn rfl) rfl rfl Tryd.underlying23 rfl Tryd.sizeOf23 rfl rfl | exact ev_loadx rfl (gn rfl) rfl Tryd.underlying23 rfl Tryd.sizeOf23 (by assumption) rfl | exact ev_loada rfl (gn rfl) rfl rfl Tryd.underlying23 rfl Tryd.sizeOf23 rfl
    simp only [nmx, seval]
    apply VE.cons
    · first | exact ev_load rfl (gn rfl) rfl rfl Tryd.underlying24 rfl Tryd.sizeOf24 rfl rfl | exact ev_loadx rfl (gn rfl) rfl Tryd.underlying24 rfl Tryd.sizeOf24 (by assumption) rfl | exact ev_loada rfl (gn rfl) rfl rfl Tryd.underlying24 rfl Tryd.sizeOf24 rfl
    simp only [nmx, seval]
    apply VE.cons
    · exact ev_callb (v := .int .i64 6) rfl (gn rfl) rfl (en_of Tryd.func6 (by kernel_rfl) rfl) (fun w' hw' => hck w' hw')
    simp only [nmx, seval]
    apply VE.cons
    · exact ev_assign rfl (gn rfl)
    simp only [nmx, seval]
    exact VE.nil _
  · kernel_rfl
  change VOk _ _ _ _ _
  refine vseq ?_
  apply vrp
  · apply VE.cons
    · exact ev_callb (v := .bool true) rfl (gn rfl) rfl (en_of Tryd.func7 (by kernel_rfl) rfl) (fun w' hw' => signs_ok w' (hL.bw hw') (hK.bw hw') (hH.bw hw') (Nat.lt_of_lt_of_le hb1 hw'.size))
    simp only [nmx, seval]
    apply VE.cons
    · exact ev_move rfl (gn rfl)
    simp only [nmx, seval]
    apply VE.cons
    · first | exact Ev.skip (fun _ => rfl) | exact ev_move rfl (fun _ => rfl)
    simp only [nmx, seval]
    apply VE.cons
    · first | exact Ev.skip (fun _ => rfl) | exact ev_eql (p := true) rfl (fun _ => rfl) rfl rfl (by decide)
    simp only [nmx, seval]
    apply VE.cons
    · first | exact Ev.skip (fun _ => rfl) | exact ev_move rfl (fun _ => rfl)
    simp only [nmx, seval]
    apply VE.cons
    · first | exact Ev.skip (fun _ => rfl) | exact ev_move rfl (fun _ => rfl)
    simp only [nmx, seval]
    apply VE.cons
    · first | exact Ev.skip (fun _ => rfl) | exact ev_eql (p := false) rfl (fun _ => rfl) rfl rfl (by decide)
    simp only [nmx, seval]
    apply VE.cons
    · first | exact Ev.skip (fun _ => rfl) | refine ev_pure' (fun _ => rfl) (fun ρ w => by simp only [VS.act, SV.c, List.map_cons, List.map_nil]; go_simp; exact rfl) (fun _ _ => rfl)
    simp only [nmx, seval]
    apply VE.cons
    · refine ev_pure' (gn rfl) (fun ρ w => by simp only [VS.act, SV.c, List.map_cons, List.map_nil]; go_simp; exact rfl) (fun _ _ => rfl)
    simp only [nmx, seval]
    apply VE.cons
    · exact ev_move rfl (gn rfl)
    simp only [nmx, seval]
    apply VE.cons
    · first | exact Ev.skip (fun _ => rfl) | exact ev_move rfl (fun _ => rfl)
    simp only [nmx, seval]
    apply VE.cons
    · first | exact Ev.skip (fun _ => rfl) | exact ev_eql (p := false) rfl (fun _ => rfl) rfl rfl (by decide)
    simp only [nmx, seval]
    apply VE.cons
    · first | exact Ev.skip (fun _ => rfl) | exact ev_move rfl (fun _ => rfl)
    simp only [nmx, seval]
    apply VE.cons
    · first | exact Ev.skip (fun _ => rfl) | exact ev_move rfl (fun _ => rfl)
    simp only [nmx, seval]
    apply VE.cons
    · first | exact Ev.skip (fun _ => rfl) | exact ev_eql (p := true) rfl (fun _ => rfl) rfl rfl (by decide)
    simp only [nmx, seval]
    apply VE.cons
    · first | exact Ev.skip (fun _ => rfl) | refine ev_pure' (fun _ => rfl) (fun ρ w => by simp only [VS.act, SV.c, List.map_cons, List.map_nil]; go_simp; exact rfl) (fun _ _ => rfl)
    simp only [nmx, seval]
    apply VE.cons
    · first | exact Ev.skip (fun _ => rfl) | exact ev_move rfl (fun _ => rfl)
    simp only [nmx, seval]
    apply VE.cons
    · first | exact Ev.skip (fun _ => rfl) | exact ev_move rfl (fun _ => rfl)
    simp only [nmx, seval]
    apply VE.cons
    · first | exact Ev.skip (fun _ => rfl) | exact ev_eql (p := false) rfl (fun _ => rfl) rfl rfl (by decide)
    simp only [nmx, seval]
    apply VE.cons
    · first | exact Ev.skip (fun _ => rfl) | exact ev_move rfl (fun _ => rfl)
    simp only [nmx, seval]
    apply VE.cons
    · first | exact Ev.skip (fun _ => rfl) | exact ev_move rfl (fun _ => rfl)
    simp only [nmx, seval]
    apply VE.cons
    · first | exact Ev.skip (fun _ => rfl) | exact ev_neq (p := false) rfl (fun _ => rfl) rfl rfl (by decide)
    simp only [nmx, seval]
    apply VE.cons
    · first | exact Ev.skip (fun _ => rfl) | refine ev_pure' (fun _ => rfl) (fun ρ w => by simp only [VS.act, SV.c, List.map_cons, List.map_nil]; go_simp; exact rfl) (fun _ _ => rfl)
    simp only [nmx, seval]
    apply VE.cons
    · first | exact Ev.skip (fun _ => rfl) | refine ev_pure' (fun _ => rfl) (fun ρ w => by simp only [VS.act, SV.c, List.map_cons, List.map_nil]; go_simp; exact rfl) (fun _ _ => rfl)
    simp only [nmx, seval]
    apply VE.cons
    · refine ev_pure' (gn rfl) (fun ρ w => by simp only [VS.act, SV.c, List.map_cons, List.map_nil]; go_simp; exact rfl) (fun _ _ => rfl)
    simp only [nmx, seval]
    apply VE.cons
    · exact ev_assign rfl (gn rfl)
    simp only [nmx, seval]
    exact VE.nil _
  · kernel_rfl
  change VOk _ _ _ _ _
  refine vret ?_
  refine post_ret (res1 Tryd.results3 (rv_tmp rfl)) ?_
  intro ρ w' hr
  exact ⟨rfl, hr.1⟩
theorem publics_law {v : Value} {n h r t : Nat} {l : List Nat} {F : Nat → Prop} (hh : h < R) (hr : r < R) (ht : t < R) (w : World) (hL : Laid w) (hK : LaidK w) (hH : LaidH w) (hb1 : 6 < w.heap.size) (hv : SlAt w v n 1 (l.map b8) F) (h8 : ∀ x ∈ l, x < 256) : Calls Tryd.prog 3 #[v, B32 h, PT r t] w fun e w' => e = .returned (.bool true) ∧ Bw w w' := by
  have hc := sl_cut (lo := 0) (hi := min n 80) hv (Nat.zero_le _) (Nat.min_le_left _ _)
  rw [Nat.zero_mul, List.drop_zero, ← List.map_take] at hc
  rcases read_any hc (fun x hx => h8 x (List.mem_of_mem_take hx)) hL with hj | ⟨x, y, hj⟩
  · exact pubs_e hh hr ht w hL hK hH hb1 hv hj fun w' hb => Check_r hh hr ht w' (hL.bw hb) fun w'' h2 => hj w'' (hb.trans h2)
  · obtain ⟨f, hf, hck⟩ := Check_any hh hr ht hL hj
    rcases hf with rfl | rfl
    · exact pubs_g hh hr ht w hL hK hH hb1 hv hj.2.2 hck
    · exact pubs_b hh hr ht w hL hK hH hb1 hv hj.2.2 hck
end Go.Proofs.YtafbhakmkbehiaaDoor
end
section
namespace Go.Toll
open Go.ChangeShapes Go.WideShapes Go.ChangeAt Go.RowKit
theorem list_of {α : Type} {n : Nat} {p : Nat → α → Prop} (h : ∀ i, i < n → ∃ z, p i z) : ∃ zs : List α, zs.length = n ∧ ∀ i z, zs[i]? = some z → p i z := by
  induction n with
  | zero => exact ⟨[], rfl, fun i z hz => by simp at hz⟩
  | succ n ih =>
    obtain ⟨zs, hl, hp⟩ := ih fun i hi => h i (by omega)
    obtain ⟨z, hz⟩ := h n (by omega)
    refine ⟨zs ++ [z], by simp [hl], fun i y hy => ?_⟩
    by_cases hi : i < zs.length
    · rw [List.getElem?_append_left hi] at hy; exact hp i y hy
    · rw [List.getElem?_append_right (by omega)] at hy
      have hi0 : i - zs.length = 0 := by
        apply Classical.byContradiction; intro hne
        rw [List.getElem?_eq_none (by simp; omega)] at hy; cases hy
      rw [hi0] at hy
      simp at hy; subst hy
      obtain rfl : i = n := by omega
      exact hz
section
variable {H : Type} {enc : TypeId × Value → H} {P : Program} {w : World} {base : Nat} {sp : Nat → Bool} {held : Bool} {t e : TypeId} {n : Nat} {k : IntKind}
theorem open_ints {r : Reach} {b0 : Nat} {v : Value} {d : DataW H} {ps : List MemPlace} (ht : P.underlying t = some (.array n e)) (he : P.underlying e = some (.int k)) (hce : P.cellsOf e = 1) (hct : P.cellsOf t = n)
    (hv : Value.okWide P w r b0 t v) (hd : DataW.Trod enc P w base sp held t v d ps) :
    ∃ zs : List Int, zs.length = n ∧ v = .agg (zs.map (Value.int k)).toArray ∧ d = .agg (zs.map fun z => .lit (.int k z)) ∧ ps = [] ∧ ∀ z ∈ zs, (Lit.int k z).wf = true := by
  simp only [Value.okWide, ht] at hv
  obtain ⟨cs, rfl, hcs, _⟩ := hv
  rw [hct] at hcs
  obtain ⟨fuel, hf⟩ := hd
  obtain ⟨xs, m, rfl, hx, _, hxl, hi⟩ := DataW.trod_array ht hf
  simp only [hce, Nat.mul_one, Value.cells] at hi
  have hz : ∀ i, i < n → ∃ z : Int, cs.toList[i]? = some (.int k z) ∧ xs[i]? = some (.lit (.int k z), []) ∧ (Lit.int k z).wf = true := fun i hin => by
    have h1 := hi i hin
    rw [List.getElem?_eq_getElem (by omega)] at h1
    obtain ⟨z, h2, h3, h4⟩ := DataW.trod_int he h1
    have hic : i < cs.toList.length := by simp [hcs]; exact hin
    refine ⟨z, ?_, by rw [List.getElem?_eq_getElem (by omega), h3], h4⟩
    rw [List.drop_eq_getElem_cons hic] at h2
    simp at h2
    rw [List.getElem?_eq_getElem hic]
    simpa using h2
  obtain ⟨zs, hl, hp⟩ := list_of hz
  have e1 : cs.toList = zs.map (Value.int k) := by
    apply List.ext_getElem?
    intro i
    by_cases hin : i < n
    · obtain ⟨h1, _, _⟩ := hp i zs[i] (by simp [hl, hin])
      rw [h1]; simp [hl, hin]
    · rw [List.getElem?_eq_none (by simp [hcs]; omega), List.getElem?_eq_none (by simp [hl]; omega)]
  have e2 : xs = zs.map fun z => ((.lit (.int k z) : DataW H), ([] : List MemPlace)) := by
    apply List.ext_getElem?
    intro i
    by_cases hin : i < n
    · obtain ⟨_, h1, _⟩ := hp i zs[i] (by simp [hl, hin])
      rw [h1]; simp [hl, hin]
    · rw [List.getElem?_eq_none (by omega), List.getElem?_eq_none (by simp [hl]; omega)]
  simp only [Prod.mk.injEq] at hx
  refine ⟨zs, hl, by rw [← e1], by rw [hx.1, e2]; simp [Function.comp_def], by rw [hx.2, e2]; simp [List.flatMap_eq_nil_iff], fun z hz => ?_⟩
  obtain ⟨i, hi', rfl⟩ := List.getElem_of_mem hz
  exact (hp i zs[i] (by simp [hi'])).2.2
end
end Go.Toll
end
