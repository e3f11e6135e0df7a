import Derived.Test.YtdhklekkpkbfeaaDoorVx
/-! Blocks that a call borrows of its caller, and turns; rows cut ahead; elements of arrays; lengths of rows. -/
namespace Go.Vx
open Go.RowKit Go.Toll
/-- a world without memory: what a walk that turns its caller's blocks starts from. -/
def bare (w : World) : World := { w with heap := #[] }
theorem bw_bare (w : World) : Bw (bare w) w := ⟨rfl, rfl, rfl, Nat.zero_le _, fun k hk => absurd hk (Nat.not_lt_zero k)⟩
/-- every block but some reads as at the start. -/
def frameD (w : World) (X : Nat → Prop) : Dat := ⟨fun _ w' S => ∀ k, k < w.heap.size → ¬ X k → (w'.heap[k]? = w.heap[k]? ∧ S k), fun h hk k h1 h2 => by
  obtain ⟨h3, h4⟩ := h k h1 h2
  exact ⟨(hk k h4).trans h3, h4⟩⟩
/-- a walk starts with names that stand for its caller's blocks. -/
theorem ve_gob {P : Program} {c : Code} {l : List Value} {w : World} {R : Exit → Act → World → Prop} {fr : List SV} {m : Mem} (ρ0 : Nat → Nm) (hact : fr.map (SV.c ρ0) = l) (hrel : Rel (bare w) ρ0 ⟨fr, m⟩ w)
    (h : VOk P (bare w) ⟨fr, m⟩ c fun e s' => ∀ ρ w', Rel (bare w) ρ s' w' → R e (s'.act ρ) w') : c.wp P R ⟨l.toArray, []⟩ w := by
  have h1 : (⟨l.toArray, []⟩ : Act) = (⟨fr, m⟩ : VS).act ρ0 := by
    simp [VS.act, hact]
  rw [h1]
  exact h ρ0 w R hrel fun _ ρ _ w' hq hr => hq ρ w' hr
section
variable {P : Program} {w0 : World} {ops : Array Oper} {o : Oper} {s : VS}
/-- an element of an array of the call's own, at a place that is reckoned. -/
theorem ev_indexn {ty : TypeId} {x ix : Operand} {id off j n k : Nat} {el : TypeId} {ki : IntKind} (ho : o.op = .indexAddr ty x ix) (hgd : Want ops o s) (hx : svEval s x = .p id off) (hi : svEval s ix = .v (.int ki (k : Nat)))
    (hu : P.underlying ty = some (.array n el)) (hs : ∀ w, (Go.sizeOf el).run P w = .ok 1 w) (hk : k < n) (hj : off + k = j) : Ev P ops w0 o s ⟨.p id j, [], [], [], []⟩ := by
  have := ev_index (w0 := w0) ho hgd hx hi hu hs (Int.natCast_nonneg k) (by omega)
  simpa [hj] using this
theorem ev_indexxn {ty : TypeId} {x ix : Operand} {g off j n k : Nat} {el : TypeId} {ki : IntKind} (ho : o.op = .indexAddr ty x ix) (hgd : Want ops o s) (hx : svEval s x = .v (.pointer (some ⟨g, off, none⟩))) (hi : svEval s ix = .v (.int ki (k : Nat)))
    (hu : P.underlying ty = some (.array n el)) (hs : ∀ w, (Go.sizeOf el).run P w = .ok 1 w) (hk : k < n) (hj : off + k = j) : Ev P ops w0 o s ⟨.v (.pointer (some ⟨g, j, none⟩)), [], [], [], []⟩ := by
  have := ev_indexx (w0 := w0) ho hgd hx hi hu hs (Int.natCast_nonneg k) (by omega)
  simpa [hj] using this
/-- the tail of a row is a row. -/
theorem ev_cuttail {ty e : TypeId} {x lo : Operand} {id id2 a n m size : Nat} {l l' : List Value} (_hd : o.dst = some id2) (ho : o.op = .slice ty x (some lo) none none) (hgd : Want ops o s) (hx : svEval s x = .d id) (hm : s.mem id = some (.row n size e (.exact l)))
    (hu : P.underlying ty = some (.slice e)) (hs : ∀ w, (Go.sizeOf e).run P w = .ok size w)
    (hlo : svEval s lo = .v (.int .i64 (a : Nat))) (h2 : a ≤ n) (hl : l.drop (a * size) = l') (hln : l.length = n * size) (hmn : n - a = m) :
    Ev P ops w0 o s ⟨.d id2, [(id2, .row m size e (.exact l'))], [id], [id2], [id]⟩ := by
  subst hmn
  refine ⟨by simp [Eff.ok], .inr ⟨hgd, fun ρ S w hb hR => ?_⟩⟩
  have hrun := cut_run (a := a) (b := n) ho hx hu hs (rdg_row hm) hlo rfl h2 (Nat.le_refl _) ρ S w hb hR
  obtain ⟨xs, g1, g2, g3⟩ := relon_get hR hm (by simp)
  have g2' : xs = l := g2
  subst g2'
  have hmul := Nat.mul_le_mul_right size h2
  have hsub : (n - a) * size = n * size - a * size := Nat.sub_mul n a size
  have hrow : RowAt w w0.heap.size ⟨(ρ id).g, cutV a n size (ρ id).val⟩ (n - a) size e l' := by
    rcases g3 with ⟨h1, h2'⟩ | ⟨off, cap, cur, fz, h1', h2', h3', h4', h5', h6', h7', h8'⟩
    · left
      subst h2'
      obtain rfl : a = 0 := by omega
      refine ⟨?_, rfl⟩
      rw [h1]; simp [cutV]
    · right
      have hcm := Nat.mul_le_mul_right size h5'
      by_cases hc : cap = a
      · have hna : n = a := by omega
        refine ⟨off, 0, cur, fz, ?_, h2', h3', h4', by omega, by omega, by omega, ?_⟩
        · rw [h1']; simp only [cutV, if_pos hc]; rw [show n - a = 0 by omega, show cap - a = 0 by omega]
        · rw [show n - a = 0 by omega, Nat.zero_mul, List.take_zero, ← hl, List.drop_of_length_le (by rw [hln, hna]; exact Nat.le_refl _)]
      · have hcs : (cap - a) * size = cap * size - a * size := Nat.sub_mul cap a size
        have hac := Nat.mul_le_mul_right size (show a ≤ cap by omega)
        refine ⟨off + a * size, cap - a, cur, fz, ?_, h2', h3', h4', by omega, by omega, by omega, ?_⟩
        · rw [h1']; simp [cutV, if_neg hc, Addr.add]
        · rw [← hl, ← h8', List.drop_take, List.drop_drop, hsub]
  have hnil : cutV a n size (ρ id).val ≠ .slice none 0 0 → (ρ id).val ≠ .slice none 0 0 := fun h c => by
    rcases g3 with ⟨_, h0⟩ | ⟨off, cap, cur, fz, h1', _⟩
    · apply h; rw [c]; obtain rfl : a = 0 := by omega
      subst h0; simp [cutV]
    · rw [h1'] at c; cases c
  refine .inl ⟨_, w, hrun, fun j => if j = id2 then ⟨(ρ id).g, cutV a n size (ρ id).val⟩ else ρ j, fun _ _ => False, ?_⟩
  have := out_new (base := w0.heap.size) (t := s.mem) (ρ := ρ) (S := S) (w := w) (w' := w) (val := .d id2) (rd := [id]) (up := [id]) (id := id2) (b := .row (n - a) size e (.exact l')) (m := ⟨(ρ id).g, cutV a n size (ρ id).val⟩) (S1 := fun _ => False)
    rfl rfl rfl (Nat.le_refl _) (fun k hk _ => rfl) (fun ρ2 h1 _ => ⟨l', by rw [← hl, List.length_drop, hln, hsub], rfl, by rw [h1]; exact hrow⟩) (fun _ h => h.elim)
    (fun hob => .inl ⟨id, by simp, _, hm, hnil hob, rfl⟩)
  simpa [SV.c] using this
theorem run_copy_fz (w : World) (dT sT ty elem : TypeId) (g o dLen dCap : Nat) (a : Addr) (sLen sCap : Nat) (cur : Array Value) (t : TypeId) (fz : Nat × Nat) (cs : List Value)
    (hu : P.underlying dT = some (.slice elem)) (hs : (P.info? elem).map (·.size) = some 1)
    (hg : w.heap[g]? = some (.cells cur t fz)) (hz : ∀ k, k < cur.size → ¬ (fz.1 ≤ k ∧ k < fz.2)) (hn : cs.length = Nat.min sLen dLen)
    (hsrc : ∀ j v, cs[j]? = some v → w.cell? (a.add j) = some v) (hfit : o + cs.length ≤ cur.size) (h1 : ∀ v ∈ cs, v.oneCell' = true) :
    (Builtin.copy_ #[dT, sT] ty #[.slice (some ⟨g, o, none⟩) dLen dCap, .slice (some a) sLen sCap]).run P w =
      .ok (goInt cs.length) (w.setRow g (cur.toList.take o ++ cs ++ cur.toList.drop (o + cs.length)).toArray) := by
  have hl := run_loadCells_list (P := P) w a cs hsrc
  have hst := storeCells_fz (P := P) g o t fz cs 0 cur w hg hz (by simpa using hfit) h1
  simp only [Nat.add_zero] at hst
  cases hq : P.info? elem with
  | none => simp [hq] at hs
  | some i =>
    have hi : i.size = 1 := by simpa [hq] using hs
    simp [Builtin.copy_, run_underlying hu, Builtin.lenOf, Builtin.firstCells, sizeOf, typeInfo, hq, hi, ← hn, hl, hst]
/-- a copy into a row of the call's own. -/
theorem ev_copyrow {dT sT e : TypeId} {x y : Operand} {id n k : Nat} {l l' news : List Value} {sv : SV} {rd : List Nat} (ho : o.op = .call { callee := .builtin .copy, args := #[x, y], argTypes := #[dT, sT] }) (hgd : Want ops o s)
    (hx : svEval s x = .d id) (hm : s.mem id = some (.row n 1 e (.exact l))) (hy : svEval s y = sv) (hr : Rdg w0 s.mem rd sv k 1 news) (hu : P.underlying dT = some (.slice e)) (hs : (P.info? e).map (·.size) = some 1)
    (hkn : k ≤ n) (hk0 : 0 < k) (hpos : 0 < n) (h1 : news.all (·.oneCell') = true) (hl' : news ++ l.drop k = l') :
    Ev P ops w0 o s ⟨.v (.int .i64 (k : Nat)), [(id, .row n 1 e (.exact l'))], [id], [], id :: rd⟩ :=
  Ev.wrv id _ _ _ _ hgd hm (by simp) fun ρ S w hb hR => by
    have e1 := svEval_c s ρ x
    rw [hx] at e1
    have e2 := svEval_c s ρ y
    rw [hy] at e2
    obtain ⟨xs, hxl, hxe, hrow⟩ := relon_get hR hm (by simp)
    have hxe' : xs = l := hxe
    subst hxe'
    have hR2 : RelOn w0.heap.size ρ S w (restr rd s.mem) := by
      have := hR.restr rd
      have e : restr rd (restr (id :: rd) s.mem) = restr rd s.mem := by
        funext j; unfold restr
        by_cases h : j ∈ rd <;> simp [h]
      rwa [e] at this
    obtain ⟨S1, ao, cp, h3, h4, h5, h6⟩ := hr ρ S w hb hR2
    rw [Nat.mul_one] at h5 hxl
    rcases h6 with h6 | ⟨a, rfl, _, h6⟩
    · exfalso; rw [h6] at h5; simp at h5; omega
    rcases hrow with ⟨_, h⟩ | ⟨off, cap, cur, fz, h1', h2', h3', h4', h5', h6', h7', h8'⟩
    · omega
    · rw [h3] at e2
      simp only [SV.c, h1'] at e1
      have hrun := run_copy_fz (P := P) w dT sT o.type e (ρ id).g off n cap a k cp cur e fz news hu hs h3' (fz_out h4') (by rw [h5]; simp [Nat.min_def]; omega) h6 (by rw [h5]; omega) (fun u hu => List.all_eq_true.1 h1 u hu)
      rw [h5] at hrun
      have hsz2 : (cur.toList.take off ++ news ++ cur.toList.drop (off + k)).toArray.size = cur.size := by
        simp only [List.size_toArray, List.length_append, List.length_take, List.length_drop, Array.length_toList, h5]
        omega
      refine ⟨by simp only [Blk.owns]; rw [h1']; simp, w.setRow (ρ id).g (cur.toList.take off ++ news ++ cur.toList.drop (off + k)).toArray, ?_, ⟨rfl, rfl, rfl, by simp, fun j hj => setRow_other w _ j _ hj⟩, ?_⟩
      · unfold execOp
        simp only [ho, resolve, invoke, builtin, Sem.run_bind, Sem.run_pure, Result.andThen_ok, List.map_toArray, List.map_cons, List.map_nil, e1, e2, hrun, SV.c, goInt]
      · refine ⟨l', by rw [← hl', List.length_append, List.length_drop, h5, hxl]; omega, rfl, .inr ⟨off, cap, _, fz, h1', h2', setRow_heap w (ρ id).g cur _ e _ h3', by rw [hsz2]; exact h4', h5', h6', by rw [hsz2]; exact h7', ?_⟩⟩
        rw [← hl', ← h8', Nat.mul_one]
        have ht : (cur.toList.take off).length = off := by rw [List.length_take, Array.length_toList]; omega
        rw [List.append_assoc, List.drop_append_of_le_length (by omega), List.drop_of_length_le (by omega), List.nil_append]
        rw [List.take_append, h5, List.take_of_length_le (by omega), List.drop_take, List.drop_drop]
end
end Go.Vx
