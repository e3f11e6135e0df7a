import Derived.WalkKit
import Derived.WalkSpells
import Derived.WalkLawsBesides
import Derived.Deep.RegionHeld3
import Derived.StillTail
import Derived.Laws.CopyRow
import Derived.Test.YtafbhakmkbehiaaDoorProg
import Derived.Laws.BitsLemmas
section
namespace Go.Toll
open Go.RowKit
structure Gw (w w' : World) : Prop where
  b : Below w.heap.size w w'
  f : ∀ a, w'.frozen? a = w.frozen? a
theorem Gw.refl (w : World) : Gw w w := ⟨Below.refl _ _, fun _ => rfl⟩
theorem Gw.trans {a b c : World} (h : Gw a b) (k : Gw b c) : Gw a c := ⟨h.b.trans (k.b.mono h.b.size), fun x => (k.f x).trans (h.f x)⟩
theorem Gw.drew {a w : World} (h : Gw a w) : Gw a w.drew := ⟨h.b.drew, h.f⟩
theorem Gw.alloc {a w : World} (h : Gw a w) (c : Array Value) (t : TypeId) : Gw a (w.alloc (.cells c t)) :=
  ⟨h.b.alloc h.b.size _, fun x => (frozen?_alloc_cells _ _ _ x).trans (h.f x)⟩
theorem Gw.cell {w w' : World} (h : Gw w w') {a : Addr} {v : Value} (hc : w.cell? a = some v) : w'.cell? a = some v :=
  (h.b.cell (World.block_lt_of_cell? _ _ hc)).trans hc
theorem Gw.froz {w w' : World} (h : Gw w w') {a : Addr} (hc : w.frozen? a = false) : w'.frozen? a = false := (h.f a).trans hc
end Go.Toll
end
section
namespace Go.Toll
open Go.RowKit
inductive SV where
  | v (x : Value)
  | p (id off : Nat)
  | s (id off len cap : Nat)
  | tp (id off : Nat) (y : Value)
  | ap (id off : Nat)
deriving Inhabited
def SV.c (ρ : Nat → Nat) : SV → Value
  | .v x => x
  | .p id off => .pointer (some ⟨ρ id, off, none⟩)
  | .s id off len cap => .slice (some ⟨ρ id, off, none⟩) len cap
  | .tp id off y => .tuple #[.pointer (some ⟨ρ id, off, none⟩), y]
  | .ap id off => .agg #[.pointer (some ⟨ρ id, off, none⟩)]
def SV.has (id : Nat) : SV → Bool
  | .v _ => false
  | .p k _ => k == id
  | .s k _ _ _ => k == id
  | .tp k _ _ => k == id
  | .ap k _ => k == id
abbrev Blk := List SV × TypeId
structure VS where
  fr : List SV
  mem : Nat → Option Blk
def VS.act (s : VS) (ρ : Nat → Nat) : Act := ⟨(s.fr.map (SV.c ρ)).toArray, []⟩
def cellsOf (ρ : Nat → Nat) (b : Blk) : Obj := .cells (b.1.map (SV.c ρ)).toArray b.2 (0, 0)
structure Rel (w0 : World) (ρ : Nat → Nat) (s : VS) (w : World) : Prop where
  gw : Gw w0 w
  own : ∀ id b, s.mem id = some b → w0.heap.size ≤ ρ id ∧ w.heap[ρ id]? = some (cellsOf ρ b)
  inj : ∀ i j, (s.mem i).isSome → (s.mem j).isSome → ρ i = ρ j → i = j
inductive MW where
  | none
  | new (id : Nat) (b : Blk)
  | wr (id : Nat) (b : Blk)
def MW.tgt : MW → Option Nat
  | .none => Option.none
  | .new id _ => some id
  | .wr id _ => some id
def memPut (m : Nat → Option Blk) : MW → (Nat → Option Blk)
  | .none => m
  | .new id b => fun k => if k = id then some b else m k
  | .wr id b => fun k => if k = id then some b else m k
structure Eff where
  val : SV
  mw : MW
  rd : List Nat
def frPut (l : List SV) (d : Option Nat) (x : SV) : List SV := match d with | some d => l.set d x | none => l
def VS.put (s : VS) (d : Option Nat) (e : Eff) : VS := ⟨frPut s.fr d e.val, memPut s.mem e.mw⟩
def MW.has (id : Nat) : MW → Bool
  | .none => false
  | .new _ b => b.1.any (SV.has id)
  | .wr _ b => b.1.any (SV.has id)
def Eff.has (id : Nat) (e : Eff) : Bool := e.val.has id || e.mw.has id
def MW.newId : MW → Option Nat
  | .new id _ => some id
  | _ => Option.none
theorem frPut_get {l : List SV} {d : Option Nat} {x : SV} {k : Nat} (h : d ≠ some k) : (frPut l d x)[k]? = l[k]? := by
  cases d with
  | none => rfl
  | some d => simp only [frPut]; rw [List.getElem?_set_ne (by intro e; exact h (by rw [e]))]
theorem frPut_len (l : List SV) (d : Option Nat) (x : SV) : (frPut l d x).length = l.length := by cases d <;> simp [frPut]
theorem frPut_comm (l : List SV) {d e : Option Nat} (x y : SV) (h : ∀ k, d = some k → e ≠ some k) : frPut (frPut l d x) e y = frPut (frPut l e y) d x := by
  cases d with
  | none => rfl
  | some d =>
    cases e with
    | none => rfl
    | some e => simp only [frPut]; rw [List.set_comm]; intro he; exact h d rfl (by rw [he])
theorem memPut_get {m : Nat → Option Blk} {u : MW} {k : Nat} (h : u.tgt ≠ some k) : memPut m u k = m k := by
  cases u with
  | none => rfl
  | new id b => simp only [memPut]; rw [if_neg]; rintro rfl; exact h rfl
  | wr id b => simp only [memPut]; rw [if_neg]; rintro rfl; exact h rfl
theorem memPut_comm (m : Nat → Option Blk) {u v : MW} (h : ∀ k, u.tgt = some k → v.tgt ≠ some k) : memPut (memPut m u) v = memPut (memPut m v) u := by
  funext k
  by_cases hu : u.tgt = some k
  · rw [memPut_get (h k hu)]
    cases u with
    | none => cases hu
    | new id b => have : k = id := by simpa [MW.tgt] using hu.symm
                  simp [memPut, this]
    | wr id b => have : k = id := by simpa [MW.tgt] using hu.symm
                 simp [memPut, this]
  · rw [memPut_get (m := memPut m v) hu]
    by_cases hv : v.tgt = some k
    · cases v with
      | none => cases hv
      | new id b => have : k = id := by simpa [MW.tgt] using hv.symm
                    simp [memPut, this]
      | wr id b => have : k = id := by simpa [MW.tgt] using hv.symm
                   simp [memPut, this]
    · rw [memPut_get hv, memPut_get hu, memPut_get hv]
theorem act_put (s : VS) (ρ : Nat → Nat) (d : Option Nat) (e : Eff) : (s.put d e).act ρ = (s.act ρ).put d (e.val.c ρ) := by
  cases d with
  | none => rfl
  | some d => simp [VS.put, VS.act, Act.put, frPut, List.map_set]
section
variable (D : Nat → Option Nat) (F : Nat → Eff) (s0 : VS)
def st (β : Nat → Bool) : Nat → VS
  | 0 => s0
  | k + 1 => if β k then (st β k).put (D k) (F k) else st β k
def upd (β : Nat → Bool) (i : Nat) : Nat → Bool := fun j => if j = i then true else β j
def cnt (β : Nat → Bool) : Nat → Nat
  | 0 => 0
  | k + 1 => cnt β k + if β k then 1 else 0
theorem st_congr {β γ : Nat → Bool} : ∀ k, (∀ j, j < k → β j = γ j) → st D F s0 β k = st D F s0 γ k := by
  intro k
  induction k with
  | zero => intro _; rfl
  | succ k ih => intro h; simp only [st, h k (by omega), ih fun j hj => h j (by omega)]
theorem st_len (β : Nat → Bool) : ∀ k, (st D F s0 β k).fr.length = s0.fr.length := by
  intro k
  induction k with
  | zero => rfl
  | succ k ih => simp only [st]; split <;> simp [VS.put, frPut_len, ih]
theorem st_fr {β γ : Nat → Bool} (x : Nat) : ∀ k, (∀ j, j < k → β j ≠ γ j → D j ≠ some x) → (st D F s0 β k).fr[x]? = (st D F s0 γ k).fr[x]? := by
  intro k
  induction k with
  | zero => intro _; rfl
  | succ k ih =>
    intro h
    have ih' := ih fun j hj => h j (by omega)
    by_cases e : β k = γ k
    · simp only [st, e]
      split
      · simp only [VS.put]
        by_cases hd : D k = some x
        · simp [hd, frPut, List.getElem?_set, st_len]
        · rw [frPut_get hd, frPut_get hd, ih']
      · exact ih'
    · have hd := h k (by omega) e
      have key : ∀ (t : VS), (t.put (D k) (F k)).fr[x]? = t.fr[x]? := fun t => frPut_get hd
      simp only [st]
      split <;> split <;> simp only [key, ih']
theorem st_mem {β γ : Nat → Bool} (x : Nat) : ∀ k, (∀ j, j < k → β j ≠ γ j → (F j).mw.tgt ≠ some x) → (st D F s0 β k).mem x = (st D F s0 γ k).mem x := by
  intro k
  induction k with
  | zero => intro _; rfl
  | succ k ih =>
    intro h
    have ih' := ih fun j hj => h j (by omega)
    by_cases e : β k = γ k
    · simp only [st, e]
      split
      · simp only [VS.put]
        cases hm : (F k).mw with
        | none => simpa [memPut] using ih'
        | new id b => simp only [memPut]; split <;> simp [ih']
        | wr id b => simp only [memPut]; split <;> simp [ih']
      · exact ih'
    · have hd := h k (by omega) e
      have key : ∀ (t : VS), (t.put (D k) (F k)).mem x = t.mem x := fun t => memPut_get hd
      simp only [st]
      split <;> split <;> simp only [key, ih']
theorem st_upd {β : Nat → Bool} {i : Nat} (hi : β i = false) : ∀ k, i < k → (∀ j, i < j → j < k → β j = true → (∀ x, D i = some x → D j ≠ some x) ∧ (∀ x, (F i).mw.tgt = some x → (F j).mw.tgt ≠ some x)) →
    st D F s0 (upd β i) k = (st D F s0 β k).put (D i) (F i) := by
  intro k
  induction k with
  | zero => intro h; omega
  | succ k ih =>
    intro hik h
    by_cases e : k = i
    · subst e
      have h1 : st D F s0 (upd β k) k = st D F s0 β k := st_congr D F s0 k fun j hj => by simp only [upd]; rw [if_neg (by omega)]
      simp only [st, hi, upd, if_true, h1]
      rfl
    · have ih' := ih (by omega) fun j h1 h2 => h j h1 (by omega)
      have hu : upd β i k = β k := by simp only [upd]; rw [if_neg e]
      simp only [st, hu, ih']
      by_cases hk : β k = true
      · simp only [hk, if_true]
        obtain ⟨h1, h2⟩ := h k (by omega) (by omega) hk
        simp only [VS.put]
        rw [frPut_comm _ _ _ h1, memPut_comm _ h2]
      · simp only [hk]; rfl
theorem cnt_le (β : Nat → Bool) : ∀ k, cnt β k ≤ k
  | 0 => Nat.le_refl _
  | k + 1 => by have := cnt_le β k; simp only [cnt]; split <;> omega
theorem cnt_all {β : Nat → Bool} : ∀ k, cnt β k = k → ∀ j, j < k → β j = true
  | 0, _, j, hj => by omega
  | k + 1, h, j, hj => by
    have := cnt_le β k
    simp only [cnt] at h
    by_cases hk : β k = true
    · rw [hk] at h
      by_cases e : j = k
      · rw [e]; exact hk
      · exact cnt_all k (by simpa using h) j (by omega)
    · simp only [hk] at h; simp at h; omega
theorem cnt_upd {β : Nat → Bool} {i : Nat} (hi : β i = false) : ∀ k, cnt (upd β i) k = cnt β k + if i < k then 1 else 0
  | 0 => by simp [cnt]
  | k + 1 => by
    have ih := cnt_upd hi k
    simp only [cnt, ih]
    by_cases e : k = i
    · subst e; simp [upd, hi]
    · have hu : upd β i k = β k := by simp only [upd]; rw [if_neg e]
      rw [hu]
      have h : (if i < k + 1 then 1 else 0) = (if i < k then 1 else 0) := by split <;> split <;> omega
      rw [h]; omega
theorem cnt_false : ∀ k, cnt (fun _ => false) k = 0
  | 0 => rfl
  | k + 1 => by simp [cnt, cnt_false k]
def Fresh (id : Nat) (s : VS) : Prop := s.mem id = none ∧ (∀ x ∈ s.fr, x.has id = false) ∧ ∀ k b, s.mem k = some b → b.1.any (SV.has id) = false
theorem fresh_put {id : Nat} {s : VS} {d : Option Nat} {e : Eff} (h : Fresh id s) (h1 : e.has id = false) (h2 : e.mw.tgt ≠ some id) : Fresh id (s.put d e) := by
  obtain ⟨a, b, c⟩ := h
  simp only [Eff.has, Bool.or_eq_false_iff] at h1
  refine ⟨by simp only [VS.put]; rw [memPut_get h2]; exact a, ?_, ?_⟩
  · intro x hx
    simp only [VS.put] at hx
    cases d with
    | none => exact b x hx
    | some d =>
      rcases List.mem_or_eq_of_mem_set hx with h | h
      · exact b x h
      · rw [h]; exact h1.1
  · intro k bl hk
    simp only [VS.put] at hk
    cases hm : e.mw with
    | none => rw [hm] at hk; exact c k bl hk
    | new id' b' =>
      rw [hm] at hk h1; simp only [memPut] at hk
      split at hk
      · injection hk with hk; subst hk; simpa [MW.has] using h1.2
      · exact c k bl hk
    | wr id' b' =>
      rw [hm] at hk h1; simp only [memPut] at hk
      split at hk
      · injection hk with hk; subst hk; simpa [MW.has] using h1.2
      · exact c k bl hk
theorem st_fresh {β : Nat → Bool} {id : Nat} (h0 : Fresh id s0) : ∀ k, (∀ j, j < k → β j = true → (F j).has id = false ∧ (F j).mw.tgt ≠ some id) → Fresh id (st D F s0 β k) := by
  intro k
  induction k with
  | zero => intro _; exact h0
  | succ k ih =>
    intro h
    simp only [st]
    split
    · rename_i hk
      obtain ⟨h1, h2⟩ := h k (by omega) hk
      exact fresh_put (ih fun j hj => h j (by omega)) h1 h2
    · exact ih fun j hj => h j (by omega)
end
structure Wr (w w' : World) (g : Nat) : Prop where
  os : w'.os = w.os
  tape : w'.tape = w.tape
  output : w'.output = w.output
  size : w'.heap.size = w.heap.size
  block : ∀ k, k ≠ g → w'.heap[k]? = w.heap[k]?
  froz : ∀ a, w'.frozen? a = w.frozen? a
def Sees (w0 : World) (t : VS) (rd : List Nat) (ρ : Nat → Nat) (w : World) : Prop :=
  Gw w0 w ∧ ∀ id b, id ∈ rd → t.mem id = some b → w0.heap.size ≤ ρ id ∧ w.heap[ρ id]? = some (cellsOf ρ b)
inductive Ev (P : Program) (ops : Array Oper) (w0 : World) (o : Oper) (t : VS) : Eff → Prop
  | run (val : SV) (rd : List Nat) (hw : ∀ ρ, Region.wanted o (yielded ops (t.act ρ).tmps) = true)
      (h : ∀ ρ w, Sees w0 t rd ρ w → (execOp (t.act ρ).eval o).run P w = .ok (.value (val.c ρ)) w) : Ev P ops w0 o t ⟨val, .none, rd⟩
  | skip (hw : ∀ ρ, Region.wanted o (yielded ops (t.act ρ).tmps) = false) : Ev P ops w0 o t ⟨.v undef, .none, []⟩
  | new (id : Nat) (b : Blk) (hw : ∀ ρ, Region.wanted o (yielded ops (t.act ρ).tmps) = true) (hid : b.1.any (SV.has id) = false)
      (h : ∀ ρ w, Sees w0 t [] ρ w → (execOp (t.act ρ).eval o).run P w = .ok (.value (.pointer (some ⟨w.heap.size, 0, none⟩))) (w.alloc (cellsOf ρ b))) : Ev P ops w0 o t ⟨.p id 0, .new id b, []⟩
  | wr (id : Nat) (b : Blk) (hw : ∀ ρ, Region.wanted o (yielded ops (t.act ρ).tmps) = true) (hm : (t.mem id).isSome)
      (h : ∀ ρ w, Sees w0 t [id] ρ w → ∃ w', (execOp (t.act ρ).eval o).run P w = .ok .skip w' ∧ Wr w w' (ρ id) ∧ w'.heap[ρ id]? = some (cellsOf ρ b)) : Ev P ops w0 o t ⟨.v undef, .wr id b, [id]⟩
  | call (f : FuncId) (args : (Nat → Nat) → Array Value) (val : SV) (rd : List Nat) (hw : ∀ ρ, Region.wanted o (yielded ops (t.act ρ).tmps) = true)
      (h : ∀ ρ w, Sees w0 t [] ρ w → (execOp (t.act ρ).eval o).run P w = .ok (.enter f (args ρ)) w)
      (hc : ∀ ρ w, Sees w0 t rd ρ w → Calls P f (args ρ) w fun e w' => e = .returned (val.c ρ) ∧ Gw w w') : Ev P ops w0 o t ⟨val, .none, rd⟩
  | callnew (f : FuncId) (args : (Nat → Nat) → Array Value) (val : SV) (rd : List Nat) (id : Nat) (b : Blk) (hw : ∀ ρ, Region.wanted o (yielded ops (t.act ρ).tmps) = true) (hid : b.1.any (SV.has id) = false)
      (h : ∀ ρ w, Sees w0 t [] ρ w → (execOp (t.act ρ).eval o).run P w = .ok (.enter f (args ρ)) w)
      (hc : ∀ ρ w, Sees w0 t rd ρ w → Calls P f (args ρ) w fun e w' => ∃ g, w.heap.size ≤ g ∧ e = .returned (val.c fun k => if k = id then g else ρ k) ∧ w'.heap[g]? = some (cellsOf ρ b) ∧ Gw w w') : Ev P ops w0 o t ⟨val, .new id b, rd⟩
theorem act_get (s : VS) (ρ : Nat → Nat) (x : Nat) : (s.act ρ).tmps[x]? = (s.fr[x]?).map (SV.c ρ) := by simp [VS.act]
theorem eval_agree {s t : VS} {ρ : Nat → Nat} {x : Operand} (h : ∀ k, x = .tmp k → s.fr[k]? = t.fr[k]?) : (s.act ρ).eval x = (t.act ρ).eval x := by
  cases x with
  | tmp k =>
    have h1 : (s.act ρ).tmps[k]? = (t.act ρ).tmps[k]? := by rw [act_get, act_get, h k rfl]
    simp only [Act.eval, Array.getD_eq_getD_getElem?, h1]
  | _ => rfl
theorem c_upd {id r : Nat} {ρ : Nat → Nat} {x : SV} (h : x.has id = false) : x.c (fun k => if k = id then r else ρ k) = x.c ρ := by
  cases x with
  | v x => rfl
  | p k o => simp only [SV.c]; rw [if_neg]; rintro rfl; simp [SV.has] at h
  | s k o l m => simp only [SV.c]; rw [if_neg]; rintro rfl; simp [SV.has] at h
  | tp k o y => simp only [SV.c]; rw [if_neg]; rintro rfl; simp [SV.has] at h
  | ap k o => simp only [SV.c]; rw [if_neg]; rintro rfl; simp [SV.has] at h
theorem act_upd {id r : Nat} {ρ : Nat → Nat} {s : VS} (h : Fresh id s) : s.act (fun k => if k = id then r else ρ k) = s.act ρ := by
  simp only [VS.act]
  rw [List.map_congr_left fun x hx => c_upd (h.2.1 x hx)]
theorem cells_upd {id r : Nat} {ρ : Nat → Nat} {b : Blk} (h : b.1.any (SV.has id) = false) : cellsOf (fun k => if k = id then r else ρ k) b = cellsOf ρ b := by
  simp only [cellsOf]
  rw [List.map_congr_left fun x hx => c_upd (by have := List.any_eq_false.1 h x hx; simpa using this)]
theorem Ev.step {P : Program} {ops : Array Oper} {w0 : World} {o : Oper} {e : Eff} {s t : VS} (hev : Ev P ops w0 o t e)
    (hsel : ∀ cs b, o.op ≠ .select cs b) (hl : ∀ x ∈ o.looksAt ops, s.fr[x]? = t.fr[x]?) (hm : ∀ id ∈ e.rd, s.mem id = t.mem id)
    (hfresh : ∀ id, e.mw.newId = some id → Fresh id s) {ρ : Nat → Nat} {w : World} (hr : Rel w0 ρ s w) {K : Act → World → Prop} {Q : Exit → Act → World → Prop}
    (hK : ∀ ρ' w', Rel w0 ρ' (s.put o.dst e) w' → K ((s.put o.dst e).act ρ') w') :
    if Region.wanted o (yielded ops (s.act ρ).tmps) then o.wp P (s.act ρ) w K Q ∨ (o.asks P (s.act ρ) w ∧ LetsOut Q) else K ((s.act ρ).put o.dst undef) w := by
  have hex : execOp (s.act ρ).eval o = execOp (t.act ρ).eval o := execOp_congr o hsel fun x hx => eval_agree fun k hk => hl k (by
    subst hk; exact List.mem_append_left _ (List.mem_filterMap.2 ⟨.tmp k, by simpa using hx, rfl⟩))
  have hwant : Region.wanted o (yielded ops (s.act ρ).tmps) = Region.wanted o (yielded ops (t.act ρ).tmps) := by
    unfold Region.wanted
    cases hg : o.guard with
    | none => rfl
    | some gw =>
      obtain ⟨g, want⟩ := gw
      have hy : yielded ops (s.act ρ).tmps g = yielded ops (t.act ρ).tmps g := by
        unfold yielded
        cases ht : (ops[g]?).bind (·.dst) with
        | none => rfl
        | some d =>
          have h1 : (s.act ρ).tmps[d]? = (t.act ρ).tmps[d]? := by rw [act_get, act_get, hl d (by simp [Oper.looksAt, hg, ht])]
          simp only [Option.bind_some, h1]
      simp only [hy]
  have hsees : Sees w0 t e.rd ρ w := ⟨hr.gw, fun id b hid hb => hr.own id b (by rw [hm id hid]; exact hb)⟩
  cases hev with
  | run val rd hw h =>
    rw [if_pos (by rw [hwant]; exact hw ρ)]
    refine .inl ?_
    unfold Oper.wp
    rw [hex, h ρ w hsees]
    simp only [Oper.upon]
    have := hK ρ w ⟨hr.gw, hr.own, hr.inj⟩
    rwa [act_put] at this
  | skip hw =>
    rw [if_neg (by rw [hwant, hw ρ]; simp)]
    have := hK ρ w ⟨hr.gw, hr.own, hr.inj⟩
    rwa [act_put] at this
  | new id b hw hid h =>
    rw [if_pos (by rw [hwant]; exact hw ρ)]
    refine .inl ?_
    unfold Oper.wp
    rw [hex, h ρ w ⟨hsees.1, fun _ _ hx => by cases hx⟩]
    simp only [Oper.upon]
    have hf := hfresh id rfl
    have hlt : ∀ k bl, s.mem k = some bl → ρ k < w.heap.size := by
      intro k bl hk
      have := (hr.own k bl hk).2
      apply Classical.byContradiction
      intro hc
      rw [Array.getElem?_eq_none (by omega)] at this
      cases this
    have := hK (fun k => if k = id then w.heap.size else ρ k) (w.alloc (cellsOf ρ b)) ⟨hr.gw.alloc _ _, ?_, ?_⟩
    · rw [act_put, act_upd hf] at this
      simpa [SV.c] using this
    · intro k bl hk
      simp only [VS.put, memPut] at hk
      by_cases e : k = id
      · subst e
        simp only [if_true] at hk ⊢
        injection hk with hk; subst hk
        refine ⟨hr.gw.b.size, ?_⟩
        rw [cells_upd hid]
        exact heap_alloc_new _ _
      · simp only [if_neg e] at hk ⊢
        obtain ⟨h1, h2⟩ := hr.own k bl hk
        refine ⟨h1, ?_⟩
        rw [cells_upd (hf.2.2 k bl hk), Below.heap_alloc _ _ _ (hlt k bl hk)]
        exact h2
    · intro k l hk hl'
      simp only [VS.put, memPut] at hk hl'
      by_cases e : k = id <;> by_cases e' : l = id
      · intro _; rw [e, e']
      · intro hh
        simp only [if_pos e, if_neg e'] at hh hl'
        obtain ⟨bl, hbl⟩ := Option.isSome_iff_exists.1 hl'
        have := hlt l bl hbl; omega
      · intro hh
        simp only [if_neg e, if_pos e'] at hh hk
        obtain ⟨bl, hbl⟩ := Option.isSome_iff_exists.1 hk
        have := hlt k bl hbl; omega
      · intro hh
        simp only [if_neg e, if_neg e'] at hh hk hl'
        exact hr.inj k l hk hl' hh
  | wr id b hw hmm h =>
    rw [if_pos (by rw [hwant]; exact hw ρ)]
    refine .inl ?_
    obtain ⟨w', hrun, hwr, hblk⟩ := h ρ w hsees
    unfold Oper.wp
    rw [hex, hrun]
    simp only [Oper.upon]
    have hsm : (s.mem id).isSome := by rw [hm id (by simp)]; exact hmm
    obtain ⟨b0, hb0⟩ := Option.isSome_iff_exists.1 hsm
    have hid0 := (hr.own id b0 hb0).1
    have := hK ρ w' ⟨⟨?_, ?_⟩, ?_, ?_⟩
    · rw [act_put] at this
      simpa [SV.c] using this
    · refine ⟨hwr.os.trans hr.gw.b.os, hwr.tape.trans hr.gw.b.tape, hwr.output.trans hr.gw.b.output, by rw [hwr.size]; exact hr.gw.b.size, fun k hk => ?_⟩
      rw [hwr.block k (by omega)]; exact hr.gw.b.block k hk
    · exact fun a => (hwr.froz a).trans (hr.gw.f a)
    · intro k bl hk
      simp only [VS.put, memPut] at hk
      by_cases e : k = id
      · subst e
        simp only [if_true] at hk
        injection hk with hk; subst hk
        exact ⟨hid0, hblk⟩
      · simp only [if_neg e] at hk
        obtain ⟨h1, h2⟩ := hr.own k bl hk
        refine ⟨h1, ?_⟩
        rw [hwr.block _ (fun hh => e (hr.inj k id (by simp [hk]) hsm hh))]
        exact h2
    · intro k l hk hl'
      refine hr.inj k l ?_ ?_
      · simp only [VS.put, memPut] at hk; split at hk
        · rename_i e; rw [e]; exact hsm
        · exact hk
      · simp only [VS.put, memPut] at hl'; split at hl'
        · rename_i e; rw [e]; exact hsm
        · exact hl'
  | call f args val rd hw h hc =>
    rw [if_pos (by rw [hwant]; exact hw ρ)]
    refine .inl ?_
    unfold Oper.wp
    rw [hex, h ρ w ⟨hsees.1, fun _ _ hx => by cases hx⟩]
    simp only [Oper.upon]
    refine (hc ρ w hsees).mono ?_
    rintro e w' ⟨rfl, hg⟩
    have := hK ρ w' ⟨hr.gw.trans hg, ?_, hr.inj⟩
    · rw [act_put] at this; exact this
    · intro k bl hk
      obtain ⟨h1, h2⟩ := hr.own k bl hk
      refine ⟨h1, ?_⟩
      have hlt : ρ k < w.heap.size := by
        apply Classical.byContradiction
        intro hcn
        rw [Array.getElem?_eq_none (by omega)] at h2
        cases h2
      rw [hg.b.block _ hlt]; exact h2
  | callnew f args val rd id b hw hid h hc =>
    rw [if_pos (by rw [hwant]; exact hw ρ)]
    refine .inl ?_
    unfold Oper.wp
    rw [hex, h ρ w ⟨hsees.1, fun _ _ hx => by cases hx⟩]
    simp only [Oper.upon]
    refine (hc ρ w hsees).mono ?_
    rintro e w' ⟨g, hg0, rfl, hblk, hg⟩
    have hf := hfresh id rfl
    have hlt : ∀ k bl, s.mem k = some bl → ρ k < w.heap.size := by
      intro k bl hk
      have := (hr.own k bl hk).2
      apply Classical.byContradiction
      intro hc
      rw [Array.getElem?_eq_none (by omega)] at this
      cases this
    have := hK (fun k => if k = id then g else ρ k) w' ⟨hr.gw.trans hg, ?_, ?_⟩
    · rw [act_put, act_upd hf] at this
      exact this
    · intro k bl hk
      simp only [VS.put, memPut] at hk
      by_cases e : k = id
      · subst e
        simp only [if_true] at hk ⊢
        injection hk with hk; subst hk
        refine ⟨Nat.le_trans hr.gw.b.size hg0, ?_⟩
        rw [cells_upd hid]
        exact hblk
      · simp only [if_neg e] at hk ⊢
        obtain ⟨h1, h2⟩ := hr.own k bl hk
        refine ⟨h1, ?_⟩
        rw [cells_upd (hf.2.2 k bl hk), hg.b.block _ (hlt k bl hk)]
        exact h2
    · intro k l hk hl'
      simp only [VS.put, memPut] at hk hl'
      by_cases e : k = id <;> by_cases e' : l = id
      · intro _; rw [e, e']
      · intro hh
        simp only [if_pos e, if_neg e'] at hh hl'
        obtain ⟨bl, hbl⟩ := Option.isSome_iff_exists.1 hl'
        have := hlt l bl hbl; omega
      · intro hh
        simp only [if_neg e, if_pos e'] at hh hk
        obtain ⟨bl, hbl⟩ := Option.isSome_iff_exists.1 hk
        have := hlt k bl hbl; omega
      · intro hh
        simp only [if_neg e, if_neg e'] at hh hk hl'
        exact hr.inj k l hk hl' hh
theorem Ev.sound {P : Program} {ops : Array Oper} {w0 : World} {o : Oper} {i : Nat} (ho : ops[i]? = some o) {e : Eff} {s t : VS} (hev : Ev P ops w0 o t e)
    (hsel : ∀ cs b, o.op ≠ .select cs b) (hl : ∀ x ∈ o.looksAt ops, s.fr[x]? = t.fr[x]?) (hm : ∀ id ∈ e.rd, s.mem id = t.mem id)
    (hfresh : ∀ id, e.mw.newId = some id → Fresh id s) {ρ : Nat → Nat} {w : World} (hr : Rel w0 ρ s w) {K : Act → World → Prop} {Q : Exit → Act → World → Prop}
    (hK : ∀ ρ' w', Rel w0 ρ' (s.put o.dst e) w' → K ((s.put o.dst e).act ρ') w') : wpOp P ops Q i K (s.act ρ) w := by
  unfold wpOp
  simp only [ho]
  exact hev.step hsel hl hm hfresh hr hK
def boundB (o : Oper) (i : Nat) : Bool := o.after.any fun e => Region.binds .any e && e.on == i
def neOpt (a b : Option Nat) : Bool := match a, b with | some x, some y => x != y | _, _ => true
def indepB (ops : Array Oper) (x : Oper) (e : Eff) (y : Oper) (f : Eff) : Bool :=
  (match x.dst with | some d => !(y.looksAt ops).contains d | none => true) && (match y.dst with | some d => !(x.looksAt ops).contains d | none => true) && neOpt x.dst y.dst &&
  neOpt e.mw.tgt f.mw.tgt && (match e.mw.tgt with | some k => !f.rd.contains k | none => true) && (match f.mw.tgt with | some k => !e.rd.contains k | none => true) &&
  (match e.mw.newId with | some k => !f.has k | none => true)
def isSelect : Op → Bool
  | .select _ _ => true
  | _ => false
def veB (ops : Array Oper) (l : List Oper) (E : List Eff) : Bool :=
  (List.range l.length).all fun j =>
    match l[j]?, E[j]? with
    | some y, some f =>
      !isSelect y.op && y.after.all (fun e => !Region.binds .any e || decide (e.on < j)) &&
      (List.range j).all fun i =>
        match l[i]?, E[i]? with
        | some x, some e => (boundB y i || indepB ops x e y f) && (match f.mw.newId with | some k => !e.has k && neOpt (some k) e.mw.tgt | none => true) &&
            (match e.mw.newId with | some k => neOpt (some k) f.mw.newId | none => true)
        | _, _ => false
    | _, _ => false
inductive VE (P : Program) (ops : Array Oper) (w0 : World) : List Oper → List Eff → VS → VS → Prop
  | nil (s : VS) : VE P ops w0 [] [] s s
  | cons {o : Oper} {l : List Oper} {e : Eff} {E : List Eff} {s s' : VS} (h : Ev P ops w0 o s e) (r : VE P ops w0 l E (s.put o.dst e) s') : VE P ops w0 (o :: l) (e :: E) s s'
section
variable {P : Program} {ops : Array Oper} {w0 : World}
def De (l : List Oper) (k : Nat) : Option Nat := (l[k]?).bind (·.dst)
def Fe (E : List Eff) (k : Nat) : Eff := (E[k]?).getD ⟨.v undef, .none, []⟩
theorem st_shift (D : Nat → Option Nat) (F : Nat → Eff) (s : VS) : ∀ k, st D F s (fun _ => true) (k + 1) = st (fun j => D (j + 1)) (fun j => F (j + 1)) (s.put (D 0) (F 0)) (fun _ => true) k := by
  intro k
  induction k with
  | zero => rfl
  | succ k ih => simp only [st, if_true] at ih ⊢; rw [ih]
theorem VE.length {l : List Oper} {E : List Eff} {s s' : VS} (h : VE P ops w0 l E s s') : E.length = l.length := by
  induction h with
  | nil => rfl
  | cons _ _ ih => simp [ih]
theorem VE.at {l : List Oper} {E : List Eff} {s s' : VS} (h : VE P ops w0 l E s s') :
    (∀ i o, l[i]? = some o → Ev P ops w0 o (st (De l) (Fe E) s (fun _ => true) i) (Fe E i)) ∧ s' = st (De l) (Fe E) s (fun _ => true) l.length := by
  induction h with
  | nil s => exact ⟨fun i o h => (by simp at h), rfl⟩
  | @cons o l e E s s' h r ih =>
    obtain ⟨ih1, ih2⟩ := ih
    refine ⟨fun i o' hi => ?_, ?_⟩
    · cases i with
      | zero => simp at hi; subst hi; exact h
      | succ i => rw [st_shift]; exact ih1 i o' (by simpa using hi)
    · rw [List.length_cons, st_shift]; exact ih2
theorem set_getD {listed : Array Bool} {i : Nat} (hi : i < listed.size) : (fun j => (listed.setIfInBounds i true).getD j false) = upd (fun j => listed.getD j false) i := by
  funext j
  simp only [upd, Array.getD_eq_getD_getElem?, Array.getElem?_setIfInBounds]
  by_cases h : i = j
  · subst h; simp [hi]
  · simp [h, Ne.symm h]
theorem ve_any {l : List Oper} {E : List Eff} {s s' : VS} (hops : ops = l.toArray) (h : VE P ops w0 l E s s') (hB : veB ops l E = true)
    (hfr : ∀ e ∈ E, ∀ id, e.mw.newId = some id → Fresh id s) {Q : Exit → Act → World → Prop}
    (hQ : ∀ ρ w, Rel w0 ρ s' w → Q .normal (s'.act ρ) w) :
    ∀ (fuel : Nat) (listed : Array Bool) (ρ : Nat → Nat) (w : World), listed.size = l.length →
      (∀ j o, l[j]? = some o → listed.getD j false = true → ∀ e ∈ o.after, Region.binds .any e = true → listed.getD e.on false = true) →
      cnt (fun j => listed.getD j false) l.length + fuel = l.length →
      Rel w0 ρ (st (De l) (Fe E) s (fun j => listed.getD j false) l.length) w →
      wpAny P .any ops Q fuel listed ((st (De l) (Fe E) s (fun j => listed.getD j false) l.length).act ρ) w := by
  obtain ⟨hat, hs'⟩ := h.at
  have hlen := h.length
  have hsz : ops.size = l.length := by rw [hops]; simp
  have hget : ∀ i : Nat, ops[i]? = l[i]? := by intro i; rw [hops]; simp
  have hpair : ∀ j y f, l[j]? = some y → E[j]? = some f → (isSelect y.op = false) ∧ (∀ e ∈ y.after, Region.binds .any e = true → e.on < j) ∧
      ∀ i x e, i < j → l[i]? = some x → E[i]? = some e → (boundB y i || indepB ops x e y f) = true ∧ (∀ k, f.mw.newId = some k → e.has k = false ∧ e.mw.tgt ≠ some k) ∧ (∀ k, e.mw.newId = some k → f.mw.newId ≠ some k) := by
    intro j y f hy hf
    have hj : j < l.length := (List.getElem?_eq_some_iff.1 hy).1
    have h1 := List.all_eq_true.1 hB j (List.mem_range.2 hj)
    simp only [hy, hf, Bool.and_eq_true, Bool.not_eq_true'] at h1
    obtain ⟨⟨a1, a2⟩, a3⟩ := h1
    refine ⟨a1, ?_, ?_⟩
    · intro e he hb
      have := Array.all_eq_true'.1 a2 e he
      simpa [hb] using this
    · intro i x e hi hx he
      have h2 := List.all_eq_true.1 a3 i (List.mem_range.2 hi)
      simp only [hx, he, Bool.and_eq_true] at h2
      obtain ⟨⟨b1, b2⟩, b3⟩ := h2
      refine ⟨b1, ?_, ?_⟩
      · intro k hk
        simp only [hk, Bool.and_eq_true, Bool.not_eq_true'] at b2
        refine ⟨b2.1, ?_⟩
        intro ht
        have := b2.2
        simp [neOpt, ht] at this
      · intro k hk hk'
        simp only [hk, hk', neOpt] at b3
        simp at b3
  have hE : ∀ i o, l[i]? = some o → ∃ e, E[i]? = some e ∧ Fe E i = e ∧ De l i = o.dst := by
    intro i o hi
    have hj : i < E.length := by rw [hlen]; exact (List.getElem?_eq_some_iff.1 hi).1
    exact ⟨E[i], by simp [hj], by simp [Fe, hj], by simp [De, hi]⟩
  intro fuel
  induction fuel with
  | zero =>
    intro listed ρ w hls hcl hc hr
    have hall := cnt_all (β := fun j => listed.getD j false) l.length (by omega)
    have hst : st (De l) (Fe E) s (fun j => listed.getD j false) l.length = s' := by
      rw [hs']; exact st_congr _ _ _ _ fun j hj => hall j hj
    rw [hst] at hr ⊢
    refine ⟨?_, hQ ρ w hr⟩
    cases hrd : Region.ready .any ops listed with
    | nil => rfl
    | cons i rs =>
      have : i ∈ Region.ready .any ops listed := by rw [hrd]; simp
      obtain ⟨h1, o, ho, _⟩ := mem_ready.1 this
      have hi : i < l.length := by rw [← hsz]; exact (Array.getElem?_eq_some_iff.1 ho).1
      have := hall i hi
      rw [getD_both h1] at this
      cases this
  | succ fuel ih =>
    intro listed ρ w hls hcl hc hr
    refine ⟨?_, ?_⟩
    · 
      intro hnil
      exfalso
      have key : ∀ k, k < l.length → listed.getD k false = true := by
        intro k
        induction k using Nat.strongRecOn with
        | _ k ihk =>
          intro hk
          apply Classical.byContradiction
          intro hf
          have hf' : listed.getD k false = false := by simpa using hf
          obtain ⟨e, he, _, _⟩ := hE k l[k] (by simp [hk])
          obtain ⟨_, hon, _⟩ := hpair k l[k] e (by simp [hk]) he
          have : k ∈ Region.ready .any ops listed := by
            refine mem_ready.2 ⟨getD_in (by omega) hf', l[k], by rw [hget]; simp [hk], fun ed hed hb => ?_⟩
            have := hon ed hed hb
            exact ihk ed.on this (by omega)
          rw [hnil] at this
          cases this
      have hc2 : cnt (fun j => listed.getD j false) l.length = l.length := by
        have hh : ∀ k, k ≤ l.length → cnt (fun j => listed.getD j false) k = k := by
          intro k
          induction k with
          | zero => intro _; rfl
          | succ k ihk => intro hk; simp only [cnt, ihk (by omega), key k (by omega), if_true]
        exact hh _ (Nat.le_refl _)
      omega
    · intro i hi
      obtain ⟨hun, o, ho, hdep⟩ := mem_ready.1 hi
      have hun' := getD_both hun
      have hio : l[i]? = some o := by rw [← hget]; exact ho
      have hin : i < l.length := (List.getElem?_eq_some_iff.1 hio).1
      obtain ⟨e, he, hFe, hDe⟩ := hE i o hio
      obtain ⟨hsel, hon, hpi⟩ := hpair i o e hio he
      have hind : ∀ j x f, l[j]? = some x → E[j]? = some f → (listed.getD j false ≠ decide (j < i)) → j ≠ i →
          (∀ d, x.dst = some d → d ∉ o.looksAt ops) ∧ (∀ k, f.mw.tgt = some k → k ∉ e.rd) ∧ (i < j → (∀ d, o.dst = some d → x.dst ≠ some d) ∧ (∀ k, e.mw.tgt = some k → f.mw.tgt ≠ some k) ∧ (∀ k, e.mw.newId = some k → f.has k = false)) := by
        intro j x f hx hf hne hji
        have hnoB : ∀ d u : Option Nat, neOpt d u = true → ∀ k, d = some k → u ≠ some k := by
          intro d u h k hd hu
          simp [hd, hu, neOpt] at h
        rcases Nat.lt_or_gt_of_ne hji with hlt | hgt
        · 
          have hnl : listed.getD j false = false := by simpa [hlt] using hne
          have hnb : boundB o j = false := by
            cases hb : boundB o j with
            | false => rfl
            | true =>
              obtain ⟨ed, hed, hb2⟩ := Array.any_eq_true'.1 hb
              simp only [Bool.and_eq_true, beq_iff_eq] at hb2
              have := hdep ed hed hb2.1
              rw [hb2.2, hnl] at this
              cases this
          have h1 := (hpi j x f hlt hx hf).1
          rw [hnb, Bool.false_or] at h1
          simp only [indepB, Bool.and_eq_true] at h1
          obtain ⟨⟨⟨⟨⟨⟨c1, c2⟩, c3⟩, c4⟩, c5⟩, c6⟩, c7⟩ := h1
          refine ⟨?_, ?_, fun hh => by omega⟩
          · intro d hd; rw [hd] at c1; simpa using c1
          · intro k hk; rw [hk] at c5; simpa using c5
        · 
          have hl' : listed.getD j false = true := by
            have : decide (j < i) = false := by simp; omega
            rw [this] at hne; simpa using hne
          have hnb : boundB x i = false := by
            cases hb : boundB x i with
            | false => rfl
            | true =>
              obtain ⟨ed, hed, hb2⟩ := Array.any_eq_true'.1 hb
              simp only [Bool.and_eq_true, beq_iff_eq] at hb2
              have := hcl j x hx hl' ed hed hb2.1
              rw [hb2.2, hun'] at this
              cases this
          have h1 := ((hpair j x f hx hf).2.2 i o e hgt hio he).1
          rw [hnb, Bool.false_or] at h1
          simp only [indepB, Bool.and_eq_true] at h1
          obtain ⟨⟨⟨⟨⟨⟨c1, c2⟩, c3⟩, c4⟩, c5⟩, c6⟩, c7⟩ := h1
          refine ⟨?_, ?_, fun _ => ⟨hnoB _ _ c3, hnoB _ _ c4, ?_⟩⟩
          · intro d hd; rw [hd] at c2; simpa using c2
          · intro k hk; rw [hk] at c6; simpa using c6
          · intro k hk; rw [hk] at c7; simpa using c7
      have hupd := set_getD (listed := listed) (i := i) (by omega)
      have htext : st (De l) (Fe E) s (fun _ => true) i = st (De l) (Fe E) s (fun j => decide (j < i)) l.length := by
        have h1 : ∀ k, i + k ≤ l.length → st (De l) (Fe E) s (fun j => decide (j < i)) (i + k) = st (De l) (Fe E) s (fun j => decide (j < i)) i := by
          intro k
          induction k with
          | zero => intro _; rfl
          | succ k ihk =>
            intro hk
            have : decide (i + k < i) = false := by simp
            rw [← Nat.add_assoc]
            simp only [st, this]
            exact ihk (by omega)
        rw [← Nat.add_sub_cancel' (Nat.le_of_lt hin), h1 _ (by omega)]
        exact st_congr _ _ _ _ fun j hj => by simp [hj]
      have hput : st (De l) (Fe E) s (fun j => (listed.setIfInBounds i true).getD j false) l.length = (st (De l) (Fe E) s (fun j => listed.getD j false) l.length).put o.dst e := by
        rw [hupd, ← hDe, ← hFe]
        refine st_upd _ _ _ hun' _ hin fun j hij hjl hb => ?_
        obtain ⟨f, hf, hFj, hDj⟩ := hE j l[j] (by simp [hjl])
        obtain ⟨_, _, h3⟩ := hind j l[j] f (by simp [hjl]) hf (by simp [hb]; omega) (by omega)
        obtain ⟨g1, g2, _⟩ := h3 hij
        rw [hDe, hFe, hDj, hFj]
        exact ⟨g1, g2⟩
      have hev := hat i o hio
      rw [hFe, htext] at hev
      refine hev.sound (s := st (De l) (Fe E) s (fun j => listed.getD j false) l.length) ho ?_ ?_ ?_ ?_ hr ?_
      · intro cs b hh; rw [hh] at hsel; cases hsel
      · intro x hx
        refine st_fr _ _ _ x _ fun j hj hne hd => ?_
        obtain ⟨f, hf, hFj, hDj⟩ := hE j l[j] (by simp [hj])
        by_cases hji : j = i
        · subst hji; simp [hun'] at hne
        · obtain ⟨g1, _, _⟩ := hind j l[j] f (by simp [hj]) hf hne hji
          rw [hDj] at hd
          exact g1 x hd hx
      · intro id hid
        refine st_mem _ _ _ id _ fun j hj hne hd => ?_
        obtain ⟨f, hf, hFj, hDj⟩ := hE j l[j] (by simp [hj])
        by_cases hji : j = i
        · subst hji; simp [hun'] at hne
        · obtain ⟨_, g2, _⟩ := hind j l[j] f (by simp [hj]) hf hne hji
          rw [hFj] at hd
          exact g2 id hd hid
      · intro id hid
        refine st_fresh _ _ _ (hfr e (List.mem_of_getElem? he) id hid) _ fun j hj hb => ?_
        obtain ⟨f, hf, hFj, hDj⟩ := hE j l[j] (by simp [hj])
        rw [hFj]
        have hji : j ≠ i := by rintro rfl; rw [hun'] at hb; cases hb
        rcases Nat.lt_or_gt_of_ne hji with hlt | hgt
        · exact (hpi j l[j] f hlt (by simp [hj]) hf).2.1 id hid
        · obtain ⟨_, _, h3⟩ := hind j l[j] f (by simp [hj]) hf (by simp [hb]; omega) hji
          obtain ⟨_, g2, g3⟩ := h3 hgt
          refine ⟨g3 id hid, g2 id ?_⟩
          cases hm : e.mw with
          | none => rw [hm] at hid; cases hid
          | new id' b => rw [hm] at hid; simpa [MW.newId, MW.tgt] using hid
          | wr id' b => rw [hm] at hid; cases hid
      · intro ρ' w' hr'
        have := ih (listed.setIfInBounds i true) ρ' w' (by simpa using hls) ?_ ?_ (by rw [hput]; exact hr')
        · rw [hput] at this; exact this
        · intro j x hx hl' ed hed hb
          by_cases hji : j = i
          · subst hji
            have : x = o := Option.some.inj (hx.symm.trans hio)
            subst this
            exact getD_set_true (hdep ed hed hb)
          · rw [getD_set_ne false (Ne.symm hji)] at hl'
            exact getD_set_true (hcl j x hx hl' ed hed hb)
        · rw [hupd, cnt_upd hun', if_pos hin]; omega
theorem ve_region {id : Nat} {l : List Oper} {E : List Eff} {s s' : VS} (hm : P.follows .mixedOrders = true) (h : VE P l.toArray w0 l E s s') (hB : veB l.toArray l E = true)
    (hfr : ∀ e ∈ E, ∀ id, e.mw.newId = some id → Fresh id s) {Q : Exit → Act → World → Prop} (hQ : ∀ ρ w, Rel w0 ρ s' w → Q .normal (s'.act ρ) w)
    {ρ : Nat → Nat} {w : World} (hr : Rel w0 ρ s w) : (Code.region id l.toArray true).wp P Q (s.act ρ) w := by
  refine wp_region_any hm ?_
  have hfun : (fun j => (Array.replicate l.toArray.size false).getD j false) = fun _ => false := by funext j; exact getD_replicate_false _ _
  have h00 : ∀ k, st (De l) (Fe E) s (fun _ => false) k = s := by
    intro k
    induction k with
    | zero => rfl
    | succ k ih => simp only [st]; exact ih
  have h0 : ∀ k, st (De l) (Fe E) s (fun j => (Array.replicate l.toArray.size false).getD j false) k = s := by rw [hfun]; exact h00
  have hcnt : cnt (fun j => (Array.replicate l.toArray.size false).getD j false) l.length = 0 := by
    have : (fun j => (Array.replicate l.toArray.size false).getD j false) = fun _ => false := by funext j; exact getD_replicate_false _ _
    rw [this]; exact cnt_false _
  have hr' : Rel w0 ρ s { w with drawn := w.drawn + 1 } := ⟨Gw.drew hr.gw, hr.own, hr.inj⟩
  have := ve_any rfl h hB hfr hQ l.toArray.size (Array.replicate l.toArray.size false) ρ { w with drawn := w.drawn + 1 } (by simp)
    (fun j o _ hl => by rw [getD_replicate_false] at hl; cases hl) (by rw [hcnt]; simp) (by rw [h0]; exact hr')
  rw [h0] at this
  exact this
def plainB : List Eff → Bool
  | [] => true
  | e :: E => E.all (fun f => match f.mw.newId with | some k => !e.has k && neOpt (some k) e.mw.tgt | none => true) && plainB E
theorem ve_list {l : List Oper} {E : List Eff} {s s' : VS} (h : VE P ops w0 l E s s') : (∀ o ∈ l, isSelect o.op = false) → plainB E = true →
    (∀ e ∈ E, ∀ id, e.mw.newId = some id → Fresh id s) → ∀ {Q : Exit → Act → World → Prop}, (∀ ρ w, Rel w0 ρ s' w → Q .normal (s'.act ρ) w) →
    ∀ {ρ : Nat → Nat} {w : World}, Rel w0 ρ s w → wpList P ops Q l (s.act ρ) w := by
  induction h with
  | nil s => intro _ _ _ Q hQ ρ w hr; exact hQ ρ w hr
  | @cons o l e E s s' h r ih =>
    intro hsel hB hfr Q hQ ρ w hr
    simp only [plainB, Bool.and_eq_true] at hB
    have hnext : ∀ f ∈ E, ∀ id, f.mw.newId = some id → Fresh id (s.put o.dst e) := by
      intro f hf id hid
      have h1 := List.all_eq_true.1 hB.1 f hf
      simp only [hid, Bool.and_eq_true, Bool.not_eq_true'] at h1
      refine fresh_put (hfr f (by simp [hf]) id hid) h1.1 ?_
      intro ht
      have := h1.2
      simp [neOpt, ht] at this
    have := h.step (K := wpList P ops Q l) (Q := Q) (s := s) (by intro cs b hh; have := hsel o (by simp); rw [hh] at this; cases this) (fun _ _ => rfl) (fun _ _ => rfl) (hfr e (by simp)) hr
      (fun ρ' w' hr' => ih (fun o ho => hsel o (by simp [ho])) hB.2 hnext hQ hr')
    unfold wpList
    exact this
theorem ve_plain {id : Nat} {l : List Oper} {E : List Eff} {s s' : VS} (h : VE P l.toArray w0 l E s s') (hsel : l.all (fun o => !isSelect o.op) = true) (hB : plainB E = true)
    (hfr : ∀ e ∈ E, ∀ id, e.mw.newId = some id → Fresh id s) {Q : Exit → Act → World → Prop} (hQ : ∀ ρ w, Rel w0 ρ s' w → Q .normal (s'.act ρ) w)
    {ρ : Nat → Nat} {w : World} (hr : Rel w0 ρ s w) : (Code.region id l.toArray false).wp P Q (s.act ρ) w :=
  wp_region_lit (ve_list h (fun o ho => by have := List.all_eq_true.1 hsel o ho; simpa using this) hB hfr hQ hr)
end
def VOk (P : Program) (w0 : World) (s : VS) (c : Code) (Q : Exit → VS → Prop) : Prop :=
  ∀ ρ w (R : Exit → Act → World → Prop), Rel w0 ρ s w → (∀ e ρ' s' w', Q e s' → Rel w0 ρ' s' w' → R e (s'.act ρ') w') → c.wp P R (s.act ρ) w
def svEval (s : VS) : Operand → SV
  | .tmp t => (s.fr[t]?).getD (.v undef)
  | .const v => .v v
  | .global g => .v (.pointer (some ⟨g, 0, none⟩))
  | .func f => .v (.func (.func f) #[] #[])
theorem svEval_c (s : VS) (ρ : Nat → Nat) (x : Operand) : (s.act ρ).eval x = (svEval s x).c ρ := by
  cases x with
  | tmp t =>
    simp only [Act.eval, svEval, Array.getD_eq_getD_getElem?, act_get]
    cases s.fr[t]? <;> rfl
  | _ => rfl
end Go.Toll
end
section
namespace Go.Toll
open Go.RowKit
section
variable {P : Program} {w0 : World}
def SeqQ (P : Program) (w0 : World) (d : Code) (Q : Exit → VS → Prop) : Exit → VS → Prop
  | .normal, s => VOk P w0 s d Q
  | e, s => Q e s
theorem vseq {c d : Code} {s : VS} {Q : Exit → VS → Prop} (h : VOk P w0 s c (SeqQ P w0 d Q)) : VOk P w0 s (.seq c d) Q := by
  intro ρ w R hr hQ
  refine wp_seq (h ρ w _ hr ?_)
  intro e ρ' s' w' hq hr'
  cases e with
  | normal => exact hq ρ' w' R hr' hQ
  | _ => exact hQ _ _ _ _ hq hr'
def BlockQ (id : Nat) (Q : Exit → VS → Prop) : Exit → VS → Prop
  | .exit k, s => if k = id then Q .normal s else Q (.exit k) s
  | e, s => Q e s
theorem vblock {id : Nat} {c : Code} {s : VS} {Q : Exit → VS → Prop} (h : VOk P w0 s c (BlockQ id Q)) : VOk P w0 s (.block id c) Q := by
  intro ρ w R hr hQ
  refine wp_block (h ρ w _ hr ?_)
  intro e ρ' s' w' hq hr'
  cases e with
  | exit k =>
    simp only [BlockQ] at hq
    simp only [Exit.inBlock]
    split
    · rename_i hk; rw [if_pos hk] at hq; exact hQ _ _ _ _ hq hr'
    · rename_i hk; rw [if_neg hk] at hq; exact hQ _ _ _ _ hq hr'
  | _ => exact hQ _ _ _ _ hq hr'
theorem vskip {s : VS} {Q : Exit → VS → Prop} (h : Q .normal s) : VOk P w0 s .skip Q := fun _ _ _ hr hQ => wp_skip (hQ _ _ _ _ h hr)
theorem vret {s : VS} {Q : Exit → VS → Prop} (h : Q .ret s) : VOk P w0 s .ret Q := fun _ _ _ hr hQ => wp_ret (hQ _ _ _ _ h hr)
theorem vexit {id : Nat} {s : VS} {Q : Exit → VS → Prop} (h : Q (.exit id) s) : VOk P w0 s (.exit id) Q := fun _ _ _ hr hQ => wp_exit (hQ _ _ _ _ h hr)
theorem vcond {x : Operand} {b : Bool} {c d : Code} {s : VS} {Q : Exit → VS → Prop} (hx : svEval s x = .v (.bool b)) (h : VOk P w0 s (if b then c else d) Q) : VOk P w0 s (.cond x c d) Q :=
  fun ρ w R hr hQ => wp_cond (by rw [svEval_c, hx]; rfl) (h ρ w R hr hQ)
theorem vcond_t {x : Operand} {c d : Code} {s : VS} {Q : Exit → VS → Prop} (hx : svEval s x = .v (.bool true)) (h : VOk P w0 s c Q) : VOk P w0 s (.cond x c d) Q := vcond hx h
theorem vcond_f {x : Operand} {c d : Code} {s : VS} {Q : Exit → VS → Prop} (hx : svEval s x = .v (.bool false)) (h : VOk P w0 s d Q) : VOk P w0 s (.cond x c d) Q := vcond hx h
theorem vregD {id : Nat} {l : List Oper} {E : List Eff} {s s' : VS} {Q : Exit → VS → Prop} (hm : P.follows .mixedOrders = true) (h : VE P l.toArray w0 l E s s') (hB : veB l.toArray l E = true)
    (hfr : ∀ e ∈ E, ∀ id, e.mw.newId = some id → Fresh id s) (hQ : Q .normal s') : VOk P w0 s (.region id l.toArray true) Q :=
  fun _ _ _ hr hR => ve_region hm h hB hfr (fun _ _ hr' => hR _ _ _ _ hQ hr') hr
theorem vregP {id : Nat} {l : List Oper} {E : List Eff} {s s' : VS} {Q : Exit → VS → Prop} (h : VE P l.toArray w0 l E s s') (hsel : l.all (fun o => !isSelect o.op) = true) (hB : plainB E = true)
    (hfr : ∀ e ∈ E, ∀ id, e.mw.newId = some id → Fresh id s) (hQ : Q .normal s') : VOk P w0 s (.region id l.toArray false) Q :=
  fun _ _ _ hr hR => ve_plain h hsel hB hfr (fun _ _ hr' => hR _ _ _ _ hQ hr') hr
def VRounds (P : Program) (w0 : World) (c : Code) (Q : Exit → VS → Prop) : Nat → VS → Prop
  | 0, _ => False
  | n + 1, s => VOk P w0 s c fun e s' => match e with | .normal => VRounds P w0 c Q n s' | e => Q e s'
theorem vloop {c : Code} {s : VS} {Q : Exit → VS → Prop} (n : Nat) (h : VRounds P w0 c Q n s) : VOk P w0 s (.loop c) Q := by
  intro ρ w R hr hQ
  refine wp_loop_rounds n ?_
  induction n generalizing s ρ w with
  | zero => exact h.elim
  | succ n ih =>
    rw [rounds_succ]
    refine h ρ w _ hr ?_
    intro e ρ' s' w' hq hr'
    cases e with
    | normal => exact ih hq ρ' w' hr'
    | _ => exact hQ _ _ _ _ hq hr'
theorem vloop_inv {c : Code} {Q : Exit → VS → Prop} (I : Nat → VS → Prop) (step : ∀ n s, I n s → VOk P w0 s c fun e s' => match e with | .normal => ∃ m, m < n ∧ I m s' | e => Q e s')
    {s : VS} (n : Nat) (h : I n s) : VOk P w0 s (.loop c) Q := by
  refine vloop (n + 1) ?_
  have key : ∀ N n s, n ≤ N → I n s → VRounds P w0 c Q (N + 1) s := by
    intro N
    induction N with
    | zero =>
      intro n s hn hI ρ w R hr hQ
      refine step n s hI ρ w R hr ?_
      intro e ρ' s' w' hq hr'
      cases e with
      | normal => obtain ⟨m, hm, _⟩ := hq; omega
      | _ => exact hQ _ _ _ _ hq hr'
    | succ N ih =>
      intro n s hn hI ρ w R hr hQ
      refine step n s hI ρ w R hr ?_
      intro e ρ' s' w' hq hr'
      cases e with
      | normal => obtain ⟨m, hm, hI'⟩ := hq; exact hQ _ _ _ _ (ih m s' (by omega) hI') hr'
      | _ => exact hQ _ _ _ _ hq hr'
  exact key n n s (Nat.le_refl _) h
theorem ve_start {c : Code} {l : List Value} {w : World} {R : Exit → Act → World → Prop} (Q : Exit → VS → Prop) (h : VOk P w ⟨l.map .v, fun _ => none⟩ c Q)
    (hQ : ∀ e ρ s' w', Q e s' → Rel w ρ s' w' → R e (s'.act ρ) w') : c.wp P R ⟨l.toArray, []⟩ w := by
  have h1 : (⟨l.toArray, []⟩ : Act) = (⟨l.map .v, fun _ => none⟩ : VS).act (fun _ => 0) := by
    simp [VS.act, SV.c, Function.comp_def]
  rw [h1]
  exact h _ w R ⟨Gw.refl w, fun _ _ hh => (by cases hh), fun _ _ hh => (by cases hh)⟩ hQ
variable {ops : Array Oper} {o : Oper} {s : VS}
theorem wanted_none (hg : o.guard = none) (t : Array Value) : Region.wanted o (yielded ops t) = true := by simp [Region.wanted, hg]
theorem ev_move {x : Operand} (ho : o.op = .move x) (hgd : ∀ ρ, Region.wanted o (yielded ops (s.act ρ).tmps) = true) : Ev P ops w0 o s ⟨svEval s x, .none, []⟩ :=
  .run _ _ hgd fun ρ w _ => by simp only [execOp, ho]; rw [svEval_c]; rfl
theorem ev_assign {x : Operand} (ho : o.op = .assign x) (hgd : ∀ ρ, Region.wanted o (yielded ops (s.act ρ).tmps) = true) : Ev P ops w0 o s ⟨svEval s x, .none, []⟩ :=
  .run _ _ hgd fun ρ w _ => by simp only [execOp, ho]; rw [svEval_c]; rfl
theorem ev_pure (v : Value) (hgd : ∀ ρ, Region.wanted o (yielded ops (s.act ρ).tmps) = true) (h : ∀ ρ w, (execOp (s.act ρ).eval o).run P w = .ok (.value v) w) : Ev P ops w0 o s ⟨.v v, .none, []⟩ :=
  .run _ _ hgd fun ρ w _ => h ρ w
theorem ev_pure' {v : Value} {r : (Nat → Nat) → World → Result Next} (hgd : ∀ ρ, Region.wanted o (yielded ops (s.act ρ).tmps) = true) (h : ∀ ρ w, (execOp (s.act ρ).eval o).run P w = r ρ w) (h2 : ∀ ρ w, r ρ w = .ok (.value v) w) : Ev P ops w0 o s ⟨.v v, .none, []⟩ :=
  ev_pure v hgd fun ρ w => (h ρ w).trans (h2 ρ w)
theorem ev_alloc {ty : TypeId} {z : Value} {id : Nat} (_hd : o.dst = some id) (ho : o.op = .alloc ty) (hgd : ∀ ρ, Region.wanted o (yielded ops (s.act ρ).tmps) = true) (hz : ∀ w, (zeroValue ty).run P w = .ok z w) :
    Ev P ops w0 o s ⟨.p id 0, .new id (z.cells.toList.map .v, ty), []⟩ :=
  .new id _ hgd (by simp [SV.has]) fun ρ w _ => by
    simp [execOp, ho, Instr.alloc, newVar, newRow, newObj, Sem.run_bind, hz, Result.andThen, cellsOf, Function.comp_def, SV.c]
    rfl
theorem ev_box {ty : TypeId} {x : Operand} {v : Value} {id : Nat} (_hd : o.dst = some id) (ho : o.op = .box ty x) (hgd : ∀ ρ, Region.wanted o (yielded ops (s.act ρ).tmps) = true) (hx : svEval s x = .v v) :
    Ev P ops w0 o s ⟨.p id 0, .new id (v.cells.toList.map .v, ty), []⟩ :=
  .new id _ hgd (by simp [SV.has]) fun ρ w _ => by
    have h1 := svEval_c s ρ x
    rw [hx] at h1
    simp [execOp, ho, h1, Instr.box, newVar, newRow, newObj, Result.andThen, cellsOf, Function.comp_def, SV.c]
    rfl
def isAggD : TypeDesc → Bool
  | .struct _ => true
  | .array _ _ => true
  | _ => false
theorem run_isAgg {t : TypeId} {d : TypeDesc} (hu : P.underlying t = some d) (w : World) : (isAgg t).run P w = .ok (isAggD d) w := by
  unfold isAgg
  rw [Sem.run_bind, run_underlying hu w]
  cases d <;> simp [isAggD, Result.andThen]
theorem add_at (g off j : Nat) : (⟨g, off, none⟩ : Addr).add j = ⟨g, off + j, none⟩ := by unfold Addr.add; split <;> simp_all
def unV : List SV → Option (List Value)
  | [] => some []
  | .v x :: l => match unV l with | some r => some (x :: r) | none => none
  | .p _ _ :: _ => none
  | .s _ _ _ _ :: _ => none
  | .tp _ _ _ :: _ => none
  | .ap _ _ :: _ => none
theorem unV_eq : ∀ {l : List SV} {r : List Value}, unV l = some r → l = r.map .v
  | [], r, h => by simp [unV] at h; subst h; rfl
  | .v x :: l, r, h => by
    simp only [unV] at h
    cases hl : unV l with
    | none => rw [hl] at h; cases h
    | some q => rw [hl] at h; simp only [Option.some.injEq] at h; subst h; rw [unV_eq hl]; rfl
  | .p _ _ :: _, _, h => by simp [unV] at h
  | .s _ _ _ _ :: _, _, h => by simp [unV] at h
  | .tp _ _ _ :: _, _, h => by simp [unV] at h
  | .ap _ _ :: _, _, h => by simp [unV] at h
theorem ev_load {ty : TypeId} {x : Operand} {id off n : Nat} {b : Blk} {d : TypeDesc} {vs : List Value} (ho : o.op = .load ty x) (hgd : ∀ ρ, Region.wanted o (yielded ops (s.act ρ).tmps) = true) (hx : svEval s x = .p id off) (hm : s.mem id = some b)
    (hu : P.underlying ty = some d) (hd : isAggD d = true) (hs : ∀ w, (Go.sizeOf ty).run P w = .ok n w) (hv0 : unV ((b.1.drop off).take n) = some vs) (hl : vs.length = n) : Ev P ops w0 o s ⟨.v (.agg vs.toArray), .none, [id]⟩ :=
  .run _ _ hgd fun ρ w hw => by
    have h1 := svEval_c s ρ x
    rw [hx] at h1
    obtain ⟨_, hb⟩ := hw.2 id b (by simp) hm
    have hv := unV_eq hv0
    have hl' : (loadCells ⟨ρ id, off, none⟩ vs.length).run P w = .ok vs.toArray w := run_loadCells_list w _ vs fun j v hj => by
      rw [add_at]
      simp only [World.cell?, hb, cellsOf]
      have h2 : ((b.1.drop off).take n)[j]? = some (.v v) := by rw [hv]; simp [hj]
      have h3 : b.1[off + j]? = some (.v v) := by
        rw [List.getElem?_take] at h2
        split at h2
        · rwa [List.getElem?_drop] at h2
        · cases h2
      simp [h3, SV.c]
    rw [hl] at hl'
    simp [execOp, ho, h1, SV.c, Instr.loadAt, Instr.sureAddr, loadVar, run_isAgg hu, hd, hs, hl']
theorem ev_load1 {ty : TypeId} {x : Operand} {id off : Nat} {b : Blk} {d : TypeDesc} {v : Value} (ho : o.op = .load ty x) (hgd : ∀ ρ, Region.wanted o (yielded ops (s.act ρ).tmps) = true) (hx : svEval s x = .p id off) (hm : s.mem id = some b)
    (hu : P.underlying ty = some d) (hd : isAggD d = false) (hv : b.1[off]? = some (.v v)) : Ev P ops w0 o s ⟨.v v, .none, [id]⟩ :=
  .run _ _ hgd fun ρ w hw => by
    have h1 := svEval_c s ρ x
    rw [hx] at h1
    obtain ⟨_, hb⟩ := hw.2 id b (by simp) hm
    have hc : w.cell? ⟨ρ id, off, none⟩ = some v := by simp [World.cell?, hb, cellsOf, hv, SV.c]
    simp [execOp, ho, h1, SV.c, Instr.loadAt, Instr.sureAddr, loadVar, run_isAgg hu, hd, hc]
theorem ev_loadx {ty : TypeId} {x : Operand} {g off n : Nat} {d : TypeDesc} {vs : List Value} (ho : o.op = .load ty x) (hgd : ∀ ρ, Region.wanted o (yielded ops (s.act ρ).tmps) = true) (hx : svEval s x = .v (.pointer (some ⟨g, off, none⟩)))
    (hu : P.underlying ty = some d) (hd : isAggD d = true) (hs : ∀ w, (Go.sizeOf ty).run P w = .ok n w) (hc : ∀ j v, vs[j]? = some v → w0.cell? ⟨g, off + j, none⟩ = some v) (hl : vs.length = n) : Ev P ops w0 o s ⟨.v (.agg vs.toArray), .none, []⟩ :=
  .run _ _ hgd fun ρ w hw => by
    have h1 := svEval_c s ρ x
    rw [hx] at h1
    have hl' : (loadCells ⟨g, off, none⟩ vs.length).run P w = .ok vs.toArray w := run_loadCells_list w _ vs fun j v hj => by
      rw [add_at]; exact hw.1.cell (hc j v hj)
    rw [hl] at hl'
    simp [execOp, ho, h1, SV.c, Instr.loadAt, Instr.sureAddr, loadVar, run_isAgg hu, hd, hs, hl']
theorem ev_loadx1 {ty : TypeId} {x : Operand} {a : Addr} {d : TypeDesc} {v : Value} (ho : o.op = .load ty x) (hgd : ∀ ρ, Region.wanted o (yielded ops (s.act ρ).tmps) = true) (hx : svEval s x = .v (.pointer (some a)))
    (hu : P.underlying ty = some d) (hd : isAggD d = false) (hc : w0.cell? a = some v) : Ev P ops w0 o s ⟨.v v, .none, []⟩ :=
  .run _ _ hgd fun ρ w hw => by
    have h1 := svEval_c s ρ x
    rw [hx] at h1
    simp [execOp, ho, h1, SV.c, Instr.loadAt, Instr.sureAddr, loadVar, run_isAgg hu, hd, hw.1.cell hc]
theorem ev_store {ty : TypeId} {x y : Operand} {id off n : Nat} {b : Blk} {v : Value} (ho : o.op = .store ty x y) (hgd : ∀ ρ, Region.wanted o (yielded ops (s.act ρ).tmps) = true) (hx : svEval s x = .p id off) (hm : s.mem id = some b) (hy : svEval s y = .v v)
    (hs : ∀ w, (Go.sizeOf ty).run P w = .ok n w) (hn : v.cells.size = n) (hfit : off + n ≤ b.1.length) (h1 : v.cells.toList.all (·.oneCell') = true) :
    Ev P ops w0 o s ⟨.v undef, .wr id (b.1.take off ++ v.cells.toList.map .v ++ b.1.drop (off + n), b.2), [id]⟩ :=
  .wr id _ hgd (by rw [hm]; rfl) fun ρ w hw => by
    have e1 := svEval_c s ρ x
    rw [hx] at e1
    have e2 := svEval_c s ρ y
    rw [hy] at e2
    obtain ⟨_, hb⟩ := hw.2 id b (by simp) hm
    have hst := run_storeCells_at P (ρ id) off b.2 v.cells.toList 0 (b.1.map (SV.c ρ)).toArray w hb (by simp; omega) (fun u hu => List.all_eq_true.1 h1 u hu)
    refine ⟨w.setRow (ρ id) ((b.1.map (SV.c ρ)).toArray.toList.take (off + 0) ++ v.cells.toList ++ (b.1.map (SV.c ρ)).toArray.toList.drop (off + 0 + v.cells.toList.length)).toArray, ?_, ?_, ?_⟩
    · simp only [execOp, ho, e1, e2, SV.c, Instr.storeAt, Instr.sureAddr, storeVar]
      rw [Sem.run_bind, Sem.run_bind, Sem.run_pure, Result.andThen_ok, Sem.run_bind, hs, Result.andThen_ok, if_neg (by rw [hn]; simp), hst]
      rfl
    · exact ⟨rfl, rfl, rfl, by simp, fun k hk => setRow_other w _ k _ hk, fun a => by
        by_cases ha : a.block = ρ id
        · simp [World.frozen?, ha, hb, cellsOf, setRow_heap w (ρ id) _ _ _ _ hb]
        · simp [World.frozen?, setRow_other w (ρ id) a.block _ ha]⟩
    · rw [setRow_heap w (ρ id) _ _ _ _ hb]
      simp [cellsOf, Function.comp_def, SV.c, hn, List.map_take, List.map_drop]
def memOf : List (Nat × Blk) → Nat → Option Blk
  | [] => fun _ => none
  | (id, b) :: l => fun k => if k = id then some b else memOf l k
def memSet : List (Nat × Blk) → Nat → Blk → List (Nat × Blk)
  | [], id, b => [(id, b)]
  | (k, c) :: l, id, b => if k = id then (id, b) :: l else (k, c) :: memSet l id b
theorem memOf_set (l : List (Nat × Blk)) (id : Nat) (b : Blk) : memOf (memSet l id b) = memPut (memOf l) (.wr id b) := by
  induction l with
  | nil => rfl
  | cons x l ih =>
    obtain ⟨k, c⟩ := x
    funext j
    simp only [memSet]
    split
    · rename_i h; subst h
      simp only [memOf, memPut]; split <;> rfl
    · rename_i h
      simp only [memOf, ih, memPut]
      split
      · rename_i h2; subst h2; rw [if_neg h]
      · rfl
theorem put_n (fr : List SV) (m : Nat → Option Blk) (d : Option Nat) (x : SV) (rd : List Nat) : (⟨fr, m⟩ : VS).put d ⟨x, .none, rd⟩ = ⟨frPut fr d x, m⟩ := rfl
theorem put_new (fr : List SV) (l : List (Nat × Blk)) (d : Option Nat) (x : SV) (rd : List Nat) (id : Nat) (b : Blk) : (⟨fr, memOf l⟩ : VS).put d ⟨x, .new id b, rd⟩ = ⟨frPut fr d x, memOf ((id, b) :: l)⟩ := rfl
theorem put_wr (fr : List SV) (l : List (Nat × Blk)) (d : Option Nat) (x : SV) (rd : List Nat) (id : Nat) (b : Blk) : (⟨fr, memOf l⟩ : VS).put d ⟨x, .wr id b, rd⟩ = ⟨frPut fr d x, memOf (memSet l id b)⟩ := by
  simp only [VS.put, memOf_set]
theorem frPut_some (fr : List SV) (d : Nat) (x : SV) : frPut fr (some d) x = fr.set d x := rfl
theorem frPut_none (fr : List SV) (x : SV) : frPut fr none x = fr := rfl
theorem i64w {x : Int} (h0 : -9223372036854775808 ≤ x) (h1 : x ≤ 9223372036854775807) : IntKind.i64.wrap x = x := IntWalk.i64_in x (by omega)
def freshB (fr : List SV) (l : List (Nat × Blk)) (id : Nat) : Bool := fr.all (fun x => !x.has id) && l.all (fun x => x.1 != id && !x.2.1.any (SV.has id))
theorem fresh_of {fr : List SV} {l : List (Nat × Blk)} {id : Nat} (h : freshB fr l id = true) : Fresh id ⟨fr, memOf l⟩ := by
  simp only [freshB, Bool.and_eq_true] at h
  obtain ⟨h1, h2⟩ := h
  refine ⟨?_, fun x hx => by have := List.all_eq_true.1 h1 x hx; simpa using this, ?_⟩
  · simp only
    clear h1
    induction l with
    | nil => rfl
    | cons x l ih =>
      obtain ⟨k, c⟩ := x
      simp only [List.all_cons, Bool.and_eq_true] at h2
      simp only [memOf]
      rw [if_neg (by have := h2.1.1; intro e; rw [e] at this; simp at this)]
      exact ih h2.2
  · simp only
    clear h1
    induction l with
    | nil => intro k b hb; cases hb
    | cons x l ih =>
      obtain ⟨k, c⟩ := x
      simp only [List.all_cons, Bool.and_eq_true] at h2
      intro j b hb
      simp only [memOf] at hb
      split at hb
      · injection hb with hb; subst hb; have := h2.1.2; simpa using this
      · exact ih h2.2 j b hb
def freshAll (fr : List SV) (l : List (Nat × Blk)) (E : List Eff) : Bool := E.all fun e => match e.mw.newId with | some id => freshB fr l id | none => true
theorem fresh_all {fr : List SV} {l : List (Nat × Blk)} {E : List Eff} (h : freshAll fr l E = true) : ∀ e ∈ E, ∀ id, e.mw.newId = some id → Fresh id ⟨fr, memOf l⟩ := by
  intro e he id hid
  have := List.all_eq_true.1 h e he
  simp only [hid] at this
  exact fresh_of this
theorem vrd {id : Nat} {l : List Oper} {E : List Eff} {fr : List SV} {m : List (Nat × Blk)} {s' : VS} {Q : Exit → VS → Prop} (hm : P.follows .mixedOrders = true) (h : VE P l.toArray w0 l E ⟨fr, memOf m⟩ s')
    (hB : (veB l.toArray l E && freshAll fr m E) = true) (hQ : Q .normal s') : VOk P w0 ⟨fr, memOf m⟩ (.region id l.toArray true) Q := by
  rw [Bool.and_eq_true] at hB
  exact vregD hm h hB.1 (fresh_all hB.2) hQ
theorem vrp {id : Nat} {l : List Oper} {E : List Eff} {fr : List SV} {m : List (Nat × Blk)} {s' : VS} {Q : Exit → VS → Prop} (h : VE P l.toArray w0 l E ⟨fr, memOf m⟩ s')
    (hB : (l.all (fun o => !isSelect o.op) && plainB E && freshAll fr m E) = true) (hQ : Q .normal s') : VOk P w0 ⟨fr, memOf m⟩ (.region id l.toArray false) Q := by
  simp only [Bool.and_eq_true] at hB
  exact vregP h hB.1.1 hB.1.2 (fresh_all hB.2) hQ
theorem ve_go {c : Code} {l : List Value} {w : World} {R : Exit → Act → World → Prop} (h : VOk P w ⟨l.map .v, memOf []⟩ c fun e s' => ∀ ρ w', Rel w ρ s' w' → R e (s'.act ρ) w') : c.wp P R ⟨l.toArray, []⟩ w :=
  ve_start _ h fun _ ρ _ w' hq hr => hq ρ w' hr
theorem ev_index {ty : TypeId} {x ix : Operand} {id off n sz : Nat} {el : TypeId} {k : IntKind} {i : Int} (ho : o.op = .indexAddr ty x ix) (hgd : ∀ ρ, Region.wanted o (yielded ops (s.act ρ).tmps) = true) (hx : svEval s x = .p id off) (hi : svEval s ix = .v (.int k i))
    (hu : P.underlying ty = some (.array n el)) (hs : ∀ w, (Go.sizeOf el).run P w = .ok sz w) (h0 : 0 ≤ i) (h1 : i < n) : Ev P ops w0 o s ⟨.p id (off + i.toNat * sz), .none, []⟩ :=
  .run _ _ hgd fun ρ w _ => by
    have e1 := svEval_c s ρ x
    rw [hx] at e1
    have e2 := svEval_c s ρ ix
    rw [hi] at e2
    simp [execOp, ho, e1, e2, SV.c, Instr.indexAt, asIntOf, run_underlying hu, Instr.sureAddr, hs, h0, h1, add_at]
theorem ev_field {ty : TypeId} {x : Operand} {id off f n : Nat} {fs : Array Field} {fd : Field} (ho : o.op = .fieldAddr ty x f) (hgd : ∀ ρ, Region.wanted o (yielded ops (s.act ρ).tmps) = true) (hx : svEval s x = .p id off)
    (hu : P.underlying ty = some (.struct fs)) (hf : fs[f]? = some fd) (hs : ∀ w, (Go.sizeOf fd.type).run P w = .ok (n + 1) w) : Ev P ops w0 o s ⟨.p id (off + fd.offset), .none, []⟩ :=
  .run _ _ hgd fun ρ w _ => by
    have e1 := svEval_c s ρ x
    rw [hx] at e1
    simp [execOp, ho, e1, SV.c, Instr.fieldAt, run_underlying hu, hf, Instr.sureAddr, fieldPlace, hs, add_at]
theorem ev_fieldx {ty : TypeId} {x : Operand} {g off f n : Nat} {fs : Array Field} {fd : Field} (ho : o.op = .fieldAddr ty x f) (hgd : ∀ ρ, Region.wanted o (yielded ops (s.act ρ).tmps) = true) (hx : svEval s x = .v (.pointer (some ⟨g, off, none⟩)))
    (hu : P.underlying ty = some (.struct fs)) (hf : fs[f]? = some fd) (hs : ∀ w, (Go.sizeOf fd.type).run P w = .ok (n + 1) w) : Ev P ops w0 o s ⟨.v (.pointer (some ⟨g, off + fd.offset, none⟩)), .none, []⟩ :=
  .run _ _ hgd fun ρ w _ => by
    have e1 := svEval_c s ρ x
    rw [hx] at e1
    simp [execOp, ho, e1, SV.c, Instr.fieldAt, run_underlying hu, hf, Instr.sureAddr, fieldPlace, hs, add_at]
theorem ev_indexx {ty : TypeId} {x ix : Operand} {g off n sz : Nat} {el : TypeId} {k : IntKind} {i : Int} (ho : o.op = .indexAddr ty x ix) (hgd : ∀ ρ, Region.wanted o (yielded ops (s.act ρ).tmps) = true) (hx : svEval s x = .v (.pointer (some ⟨g, off, none⟩))) (hi : svEval s ix = .v (.int k i))
    (hu : P.underlying ty = some (.array n el)) (hs : ∀ w, (Go.sizeOf el).run P w = .ok sz w) (h0 : 0 ≤ i) (h1 : i < n) : Ev P ops w0 o s ⟨.v (.pointer (some ⟨g, off + i.toNat * sz, none⟩)), .none, []⟩ :=
  .run _ _ hgd fun ρ w _ => by
    have e1 := svEval_c s ρ x
    rw [hx] at e1
    have e2 := svEval_c s ρ ix
    rw [hi] at e2
    simp [execOp, ho, e1, e2, SV.c, Instr.indexAt, asIntOf, run_underlying hu, Instr.sureAddr, hs, h0, h1, add_at]
theorem ev_nil {x : Operand} {id off : Nat} (ho : o.op = .nilCheck x) (hgd : ∀ ρ, Region.wanted o (yielded ops (s.act ρ).tmps) = true) (hx : svEval s x = .p id off) : Ev P ops w0 o s ⟨.p id off, .none, []⟩ :=
  .run _ _ hgd fun ρ w _ => by
    have e1 := svEval_c s ρ x
    rw [hx] at e1
    simp [execOp, ho, e1, SV.c]
theorem ev_nilx {x : Operand} {a : Addr} (ho : o.op = .nilCheck x) (hgd : ∀ ρ, Region.wanted o (yielded ops (s.act ρ).tmps) = true) (hx : svEval s x = .v (.pointer (some a))) : Ev P ops w0 o s ⟨.v (.pointer (some a)), .none, []⟩ :=
  .run _ _ hgd fun ρ w _ => by
    have e1 := svEval_c s ρ x
    rw [hx] at e1
    simp [execOp, ho, e1, SV.c]
theorem args_c {xs : Array Operand} {vs : List Value} (h0 : unV (xs.toList.map (svEval s)) = some vs) (ρ : Nat → Nat) : xs.map (s.act ρ).eval = vs.toArray := by
  have h := unV_eq h0
  have h1 : xs.toList.map (s.act ρ).eval = vs := by
    have : xs.toList.map (s.act ρ).eval = (xs.toList.map (svEval s)).map (SV.c ρ) := by
      rw [List.map_map]; exact List.map_congr_left fun x _ => svEval_c s ρ x
    rw [this, h, List.map_map]
    simp [Function.comp_def, SV.c]
  rw [← Array.toList_map] at h1
  rw [← h1, Array.toArray_toList]
theorem ev_slice {ty : TypeId} {x hi : Operand} {id n sz : Nat} {el : TypeId} {k : Nat} (ho : o.op = .slice ty x none (some hi) none) (hgd : ∀ ρ, Region.wanted o (yielded ops (s.act ρ).tmps) = true) (hx : svEval s x = .p id 0) (hhi : svEval s hi = .v (.int .i64 (k : Nat)))
    (hu : P.underlying ty = some (.array n el)) (hs : ∀ w, (Go.sizeOf el).run P w = .ok sz w) (hk : k ≤ n) : Ev P ops w0 o s ⟨.s id 0 k n, .none, []⟩ :=
  .run _ _ hgd fun ρ w _ => by
    have e1 := svEval_c s ρ x
    rw [hx] at e1
    have e2 := svEval_c s ρ hi
    rw [hhi] at e2
    have hb : (Instr.sliceBound (.int .i64 (k : Nat)) n .sliceAlen).run P w = .ok k w := by
      unfold Instr.sliceBound
      rw [Sem.run_bind]
      simp only [asIntOf, Sem.run_pure, Result.andThen_ok]
      rw [if_pos ⟨by omega, by omega⟩]
      rfl
    simp [execOp, ho, e1, e2, SV.c, Instr.sliceAt, run_underlying hu, Instr.sureAddr, Instr.sliceBounds, hs, add_at, hb]
theorem ev_arr {ty : TypeId} {x : Operand} {id off len cap n : Nat} {el : TypeId} (ho : o.op = .sliceToArrayPointer ty x) (hgd : ∀ ρ, Region.wanted o (yielded ops (s.act ρ).tmps) = true) (hx : svEval s x = .s id off len cap)
    (hu : P.underlying ty = some (.array n el)) (hn : n ≤ len) : Ev P ops w0 o s ⟨.p id off, .none, []⟩ :=
  .run _ _ hgd fun ρ w _ => by
    have e1 := svEval_c s ρ x
    rw [hx] at e1
    have h1 : ¬ len < n := by omega
    simp [execOp, ho, e1, SV.c, Instr.arrayAt, run_underlying hu, h1]
theorem ev_lss {ty r : TypeId} {x y : Operand} {a b : Int} {p : Bool} (ho : o.op = .binOp .lss ty x y r) (hgd : ∀ ρ, Region.wanted o (yielded ops (s.act ρ).tmps) = true) (hx : svEval s x = .v (.int .i64 a)) (hy : svEval s y = .v (.int .i64 b)) (hp : decide (a < b) = p) :
    Ev P ops w0 o s ⟨.v (.bool p), .none, []⟩ :=
  .run _ _ hgd fun ρ w _ => by
    have e1 := svEval_c s ρ x
    rw [hx] at e1
    have e2 := svEval_c s ρ y
    rw [hy] at e2
    simp only [execOp, ho, e1, e2, SV.c]
    subst hp
    go_simp
theorem ev_geq {ty r : TypeId} {x y : Operand} {a b : Int} {p : Bool} (ho : o.op = .binOp .geq ty x y r) (hgd : ∀ ρ, Region.wanted o (yielded ops (s.act ρ).tmps) = true) (hx : svEval s x = .v (.int .i64 a)) (hy : svEval s y = .v (.int .i64 b)) (hp : decide (b ≤ a) = p) :
    Ev P ops w0 o s ⟨.v (.bool p), .none, []⟩ :=
  .run _ _ hgd fun ρ w _ => by
    have e1 := svEval_c s ρ x
    rw [hx] at e1
    have e2 := svEval_c s ρ y
    rw [hy] at e2
    simp only [execOp, ho, e1, e2, SV.c]
    subst hp
    go_simp
theorem ev_eql {ty r : TypeId} {k : IntKind} {x y : Operand} {a b : Int} {p : Bool} (ho : o.op = .binOp .eql ty x y r) (hgd : ∀ ρ, Region.wanted o (yielded ops (s.act ρ).tmps) = true) (hx : svEval s x = .v (.int k a)) (hy : svEval s y = .v (.int k b)) (hp : decide (a = b) = p) :
    Ev P ops w0 o s ⟨.v (.bool p), .none, []⟩ :=
  .run _ _ hgd fun ρ w _ => by
    have e1 := svEval_c s ρ x
    rw [hx] at e1
    have e2 := svEval_c s ρ y
    rw [hy] at e2
    simp only [execOp, ho, e1, e2, SV.c]
    subst hp
    go_simp
    by_cases h : a = b <;> simp [h]
theorem ev_add {ty r : TypeId} {k : IntKind} {x y : Operand} {a b c : Int} (ho : o.op = .binOp .add ty x y r) (hgd : ∀ ρ, Region.wanted o (yielded ops (s.act ρ).tmps) = true) (hx : svEval s x = .v (.int k a)) (hy : svEval s y = .v (.int k b)) (hp : k.wrap (a + b) = c) :
    Ev P ops w0 o s ⟨.v (.int k c), .none, []⟩ :=
  .run _ _ hgd fun ρ w _ => by
    have e1 := svEval_c s ρ x
    rw [hx] at e1
    have e2 := svEval_c s ρ y
    rw [hy] at e2
    simp only [execOp, ho, e1, e2, SV.c]
    subst hp
    go_simp
theorem ev_sub {ty r : TypeId} {k : IntKind} {x y : Operand} {a b c : Int} (ho : o.op = .binOp .sub ty x y r) (hgd : ∀ ρ, Region.wanted o (yielded ops (s.act ρ).tmps) = true) (hx : svEval s x = .v (.int k a)) (hy : svEval s y = .v (.int k b)) (hp : k.wrap (a - b) = c) :
    Ev P ops w0 o s ⟨.v (.int k c), .none, []⟩ :=
  .run _ _ hgd fun ρ w _ => by
    have e1 := svEval_c s ρ x
    rw [hx] at e1
    have e2 := svEval_c s ρ y
    rw [hy] at e2
    simp only [execOp, ho, e1, e2, SV.c]
    subst hp
    go_simp
theorem ev_indexv {ty : TypeId} {x ix : Operand} {vs : Array Value} {k n : Nat} {el : TypeId} {d : TypeDesc} {v : Value} (ho : o.op = .index ty x ix) (hgd : ∀ ρ, Region.wanted o (yielded ops (s.act ρ).tmps) = true) (hx : svEval s x = .v (.agg vs)) (hi : svEval s ix = .v (.int .i64 (k : Nat)))
    (hu : P.underlying ty = some (.array n el)) (hs : ∀ w, (Go.sizeOf el).run P w = .ok 1 w) (hue : P.underlying el = some d) (hd : isAggD d = false) (hk : k < n) (hv : vs.toList[k]? = some v) : Ev P ops w0 o s ⟨.v v, .none, []⟩ :=
  .run _ _ hgd fun ρ w _ => by
    have e1 := svEval_c s ρ x
    rw [hx] at e1
    have e2 := svEval_c s ρ ix
    rw [hi] at e2
    have h1 : vs[k]? = some v := by simpa using hv
    simp [execOp, ho, e1, e2, SV.c, Instr.index, run_underlying hu, asIntOf, hs, hk, part, run_isAgg hue, hd, h1]
theorem ev_call {f : FuncId} {xs : Array Operand} {ats : Array TypeId} {vs : List Value} {v : Value} (ho : o.op = .call { callee := .value (.func f), args := xs, argTypes := ats }) (hgd : ∀ ρ, Region.wanted o (yielded ops (s.act ρ).tmps) = true)
    (hx : unV (xs.toList.map (svEval s)) = some vs) (he : ∀ args w, (callFunc f args).run P w = .ok (.enter f args) w) (hc : ∀ w, Gw w0 w → Calls P f vs.toArray w fun e w' => e = .returned v ∧ Gw w w') : Ev P ops w0 o s ⟨.v v, .none, []⟩ :=
  .call f (fun _ => vs.toArray) (.v v) [] hgd (fun ρ w _ => by
    obtain ⟨dst, op, type, pos, after, guard⟩ := o
    simp only at ho
    subst ho
    rw [execOp_call_go, args_c hx]
    simpa using he vs.toArray w) fun _ w hs => hc w hs.1
theorem args_p (xs : Array Operand) (ρ : Nat → Nat) : xs.map (s.act ρ).eval = ((xs.toList.map (svEval s)).map (SV.c ρ)).toArray := by
  rw [← Array.toList_inj]
  simp only [Array.toList_map, List.map_map]
  exact List.map_congr_left fun x _ => svEval_c s ρ x
theorem ev_callp {f : FuncId} {xs : Array Operand} {ats : Array TypeId} {vs : List SV} {v : Value} (rd : List Nat) (ho : o.op = .call { callee := .value (.func f), args := xs, argTypes := ats }) (hgd : ∀ ρ, Region.wanted o (yielded ops (s.act ρ).tmps) = true)
    (hx : xs.toList.map (svEval s) = vs) (he : ∀ args w, (callFunc f args).run P w = .ok (.enter f args) w)
    (hc : ∀ ρ w, Sees w0 s rd ρ w → Calls P f (vs.map (SV.c ρ)).toArray w fun e w' => e = .returned v ∧ Gw w w') : Ev P ops w0 o s ⟨.v v, .none, rd⟩ :=
  .call f (fun ρ => (vs.map (SV.c ρ)).toArray) (.v v) rd hgd (fun ρ w _ => by
    obtain ⟨dst, op, type, pos, after, guard⟩ := o
    simp only at ho
    subst ho
    rw [execOp_call_go, args_p, hx]
    simpa using he (vs.map (SV.c ρ)).toArray w) hc
theorem ev_callnew {f : FuncId} {xs : Array Operand} {ats : Array TypeId} {vs : List Value} {y : Value} {id : Nat} (_hd : o.dst = some id) (ho : o.op = .call { callee := .value (.func f), args := xs, argTypes := ats }) (hgd : ∀ ρ, Region.wanted o (yielded ops (s.act ρ).tmps) = true)
    (hx : unV (xs.toList.map (svEval s)) = some vs) (he : ∀ args w, (callFunc f args).run P w = .ok (.enter f args) w) (cs : List Value) (ty : TypeId)
    (hc : ∀ w, Gw w0 w → Calls P f vs.toArray w fun e w' => ∃ g, w.heap.size ≤ g ∧ e = .returned (.tuple #[.pointer (some ⟨g, 0, none⟩), y]) ∧ w'.heap[g]? = some (.cells cs.toArray ty (0, 0)) ∧ Gw w w') :
    Ev P ops w0 o s ⟨.tp id 0 y, .new id (cs.map .v, ty), []⟩ :=
  .callnew f (fun _ => vs.toArray) (.tp id 0 y) [] id (cs.map .v, ty) hgd (by simp [SV.has]) (fun ρ w _ => by
    obtain ⟨dst, op, type, pos, after, guard⟩ := o
    simp only at ho
    subst ho
    rw [execOp_call_go, args_c hx]
    simpa using he vs.toArray w) fun ρ w hs => (hc w hs.1).mono fun e w' ⟨g, h1, h2, h3, h4⟩ => ⟨g, h1, by simp [h2, SV.c], by rw [h3]; simp [cellsOf, Function.comp_def, SV.c], h4⟩
theorem ev_extract_p {x : Operand} {id off : Nat} {y : Value} (ho : o.op = .extract x 0) (hgd : ∀ ρ, Region.wanted o (yielded ops (s.act ρ).tmps) = true) (hx : svEval s x = .tp id off y) : Ev P ops w0 o s ⟨.p id off, .none, []⟩ :=
  .run _ _ hgd fun ρ w _ => by
    have e1 := svEval_c s ρ x
    rw [hx] at e1
    simp [execOp, ho, e1, SV.c, Instr.extract]
theorem ev_extract_y {x : Operand} {id off : Nat} {y : Value} (ho : o.op = .extract x 1) (hgd : ∀ ρ, Region.wanted o (yielded ops (s.act ρ).tmps) = true) (hx : svEval s x = .tp id off y) : Ev P ops w0 o s ⟨.v y, .none, []⟩ :=
  .run _ _ hgd fun ρ w _ => by
    have e1 := svEval_c s ρ x
    rw [hx] at e1
    simp [execOp, ho, e1, SV.c, Instr.extract]
theorem ev_bin {op : BinOp} {ty r : TypeId} {x y : Operand} {a b c : Value} (ho : o.op = .binOp op ty x y r) (hgd : ∀ ρ, Region.wanted o (yielded ops (s.act ρ).tmps) = true) (hx : svEval s x = .v a) (hy : svEval s y = .v b)
    (h : ∀ w, (do eqGuard op ty x y a b; binOp op ty a b : Sem Value).run P w = .ok c w) : Ev P ops w0 o s ⟨.v c, .none, []⟩ :=
  .run _ _ hgd fun ρ w _ => by
    have e1 := svEval_c s ρ x
    rw [hx] at e1
    have e2 := svEval_c s ρ y
    rw [hy] at e2
    simp only [execOp, ho, e1, e2, SV.c]
    rw [Sem.run_bind, h w]
    rfl
theorem ev_conv {st dt : TypeId} {x : Operand} {a c : Value} (ho : o.op = .convert st dt x) (hgd : ∀ ρ, Region.wanted o (yielded ops (s.act ρ).tmps) = true) (hx : svEval s x = .v a) (h : ∀ w, (convert st dt a).run P w = .ok c w) : Ev P ops w0 o s ⟨.v c, .none, []⟩ :=
  .run _ _ hgd fun ρ w _ => by
    have e1 := svEval_c s ρ x
    rw [hx] at e1
    simp only [execOp, ho, e1, SV.c]
    rw [Sem.run_bind, h w]
    rfl
theorem ev_extern {f : FuncId} {xs : Array Operand} {ats : Array TypeId} {vs : List Value} {v : Value} (ho : o.op = .call { callee := .value (.func f), args := xs, argTypes := ats }) (hgd : ∀ ρ, Region.wanted o (yielded ops (s.act ρ).tmps) = true)
    (hx : unV (xs.toList.map (svEval s)) = some vs) (he : ∀ w, (callFunc f vs.toArray).run P w = .ok (.value v) w) : Ev P ops w0 o s ⟨.v v, .none, []⟩ :=
  .run _ _ hgd fun ρ w _ => by
    obtain ⟨dst, op, type, pos, after, guard⟩ := o
    simp only at ho
    subst ho
    rw [execOp_call_go, args_c hx]
    simpa [SV.c] using he w
theorem ev_extract {x : Operand} {i : Nat} {vs : Array Value} {v : Value} (ho : o.op = .extract x i) (hgd : ∀ ρ, Region.wanted o (yielded ops (s.act ρ).tmps) = true) (hx : svEval s x = .v (.tuple vs)) (hi0 : vs.toList[i]? = some v) : Ev P ops w0 o s ⟨.v v, .none, []⟩ :=
  .run _ _ hgd fun ρ w _ => by
    have e1 := svEval_c s ρ x
    rw [hx] at e1
    have hi : vs[i]? = some v := by simpa using hi0
    simp [execOp, ho, e1, SV.c, Instr.extract, hi]
theorem en_of {f : FuncId} {fn : Func} {c : Code} (hf : P.funcs[f]? = some fn) (hname : (fn.name == "runtime.NumGoroutine") = false) (hb : fn.body = some c) : ∀ (args : Array Value) (w : World), (callFunc f args).run P w = .ok (.enter f args) w := by
  intro args w
  have h1 : fn.name ≠ "runtime.NumGoroutine" := by simpa using hname
  simp [callFunc, hf, h1, hb, mark]
def bn (b : Bool) : Nat := if b then 1 else 0
theorem vset {x : Operand} {b b0 : Bool} {d : Nat} {c : Code} {s : VS} {Q : Exit → VS → Prop} (hx : svEval s x = .v (.bool b)) (hd : s.fr[d]? = some (.v (.int .u64 (bn b0 : Nat))))
    (h1 : ∀ Q : Exit → VS → Prop, Q .normal ⟨s.fr.set d (.v (.int .u64 1)), s.mem⟩ → VOk P w0 s c Q) (h : Q .normal ⟨s.fr.set d (.v (.int .u64 (bn (b0 || b) : Nat))), s.mem⟩) : VOk P w0 s (.cond x c .skip) Q := by
  cases b with
  | true => exact vcond_t hx (h1 _ (by simpa [bn] using h))
  | false =>
    refine vcond_f hx (vskip ?_)
    have h2 : s.fr.set d (.v (.int .u64 (bn (b0 || false) : Nat))) = s.fr := by
      apply List.ext_getElem?
      intro i
      by_cases e : d = i
      · subst e
        obtain ⟨hlt, _⟩ := List.getElem?_eq_some_iff.1 hd
        rw [List.getElem?_set_self hlt, hd]; simp
      · rw [List.getElem?_set_ne e]
    rw [h2] at h
    exact h
def forgetFr (keep : Nat → Bool) (f : Nat → Value) : Nat → List SV → List SV
  | _, [] => []
  | i, x :: l => (if keep i then x else .v (f i)) :: forgetFr keep f (i + 1) l
def VS.forget (keep : Nat → Bool) (drop : Nat) (f : Nat → Value) (s : VS) : VS := ⟨forgetFr keep f 0 s.fr, fun k => if k = drop then none else s.mem k⟩
theorem forgetFr_c (keep : Nat → Bool) (ρ : Nat → Nat) (f : Nat → Value) : ∀ (l : List SV) (i : Nat), (∀ j x, l[j]? = some x → f (i + j) = x.c ρ) → (forgetFr keep f i l).map (SV.c ρ) = l.map (SV.c ρ)
  | [], _, _ => rfl
  | x :: l, i, h => by
    simp only [forgetFr, List.map_cons]
    rw [forgetFr_c keep ρ f l (i + 1) (fun j y hj => by have := h (j + 1) y (by simpa using hj); rw [← this]; congr 1; omega)]
    congr 1
    split
    · rfl
    · simp only [SV.c]; exact h 0 x rfl
theorem vweak (keep : Nat → Bool) (drop : Nat) {c : Code} {s : VS} {Q : Exit → VS → Prop} (h : VOk P w0 s c fun e s' => ∀ f, Q e (s'.forget keep drop f)) : VOk P w0 s c Q := by
  intro ρ w R hr hQ
  refine h ρ w R hr ?_
  intro e ρ' s' w' hq hr'
  have h1 := hQ e ρ' (s'.forget keep drop fun i => ((s'.fr[i]?).getD (.v undef)).c ρ') w' (hq _) ⟨hr'.gw, fun id b hb => by
    simp only [VS.forget] at hb
    split at hb
    · cases hb
    · exact hr'.own id b hb, fun i j hi hj hij => by
    refine hr'.inj i j ?_ ?_ hij
    · simp only [VS.forget] at hi; split at hi
      · cases hi
      · exact hi
    · simp only [VS.forget] at hj; split at hj
      · cases hj
      · exact hj⟩
  have h2 : (s'.forget keep drop fun i => ((s'.fr[i]?).getD (.v undef)).c ρ').act ρ' = s'.act ρ' := by
    simp only [VS.act, VS.forget]
    rw [forgetFr_c keep ρ' _ s'.fr 0 (fun j x hj => by simp [hj])]
  rw [h2] at h1
  exact h1
theorem vforget (keep : Nat → Bool) (drop : Nat) {c : Code} {s : VS} {Q : Exit → VS → Prop} (h : ∀ f, VOk P w0 (s.forget keep drop f) c Q) : VOk P w0 s c Q := by
  intro ρ w R hr hQ
  have h1 := h (fun i => ((s.fr[i]?).getD (.v undef)).c ρ) ρ w R ⟨hr.gw, fun id b hb => by
    simp only [VS.forget] at hb
    split at hb
    · cases hb
    · exact hr.own id b hb, fun i j hi hj hij => by
    refine hr.inj i j ?_ ?_ hij
    · simp only [VS.forget] at hi; split at hi
      · cases hi
      · exact hi
    · simp only [VS.forget] at hj; split at hj
      · cases hj
      · exact hj⟩ hQ
  have h2 : (s.forget keep drop fun i => ((s.fr[i]?).getD (.v undef)).c ρ).act ρ = s.act ρ := by
    simp only [VS.act, VS.forget]
    rw [forgetFr_c keep ρ _ s.fr 0 (fun j x hj => by simp [hj])]
  rw [h2] at h1
  exact h1
theorem memOf_skip {d : Nat} {l : List (Nat × Blk)} (h : l.all (fun x => x.1 != d) = true) : (fun k => if k = d then none else memOf l k) = memOf l := by
  funext k
  by_cases e : k = d
  · subst e
    rw [if_pos rfl]
    induction l with
    | nil => rfl
    | cons x l ih =>
      obtain ⟨j, c⟩ := x
      simp only [List.all_cons, Bool.and_eq_true] at h
      simp only [memOf]
      rw [if_neg (by have := h.1; simp at this; exact fun e => this e.symm)]
      exact ih h.2
  · simp only [if_neg e]
theorem memOf_drop {d : Nat} {b : Blk} {l : List (Nat × Blk)} (h : l.all (fun x => x.1 != d) = true) : (fun k => if k = d then none else memOf ((d, b) :: l) k) = memOf l := by
  funext k
  by_cases e : k = d
  · subst e
    rw [if_pos rfl]
    induction l with
    | nil => rfl
    | cons x l ih =>
      obtain ⟨j, c⟩ := x
      simp only [List.all_cons, Bool.and_eq_true] at h
      simp only [memOf]
      rw [if_neg (by have := h.1; simp at this; exact fun e => this e.symm)]
      exact ih h.2
  · simp only [if_neg e, memOf]
theorem sees_cells {rd : List Nat} {ρ : Nat → Nat} {w : World} {id : Nat} {b : Blk} (hs : Sees w0 s rd ρ w) (hid : id ∈ rd) (hm : s.mem id = some b) (off : Nat) (l : List Value) (hl : unV ((b.1.drop off).take l.length) = some l) :
    ∀ (j : Nat) (v : Value), l[j]? = some v → w.cell? ⟨ρ id, off + j, none⟩ = some v := by
  intro j v hj
  obtain ⟨_, hb⟩ := hs.2 id b hid hm
  have hv := unV_eq hl
  have h2 : ((b.1.drop off).take l.length)[j]? = some (.v v) := by rw [hv]; simp [hj]
  have h3 : b.1[off + j]? = some (.v v) := by
    rw [List.getElem?_take] at h2
    split at h2
    · rwa [List.getElem?_drop] at h2
    · cases h2
  simp only [World.cell?, hb, cellsOf]
  simp [h3, SV.c]
theorem ev_un {op : UnOp} {ty : TypeId} {x : Operand} {a c : Value} (ho : o.op = .unOp op ty x) (hgd : ∀ ρ, Region.wanted o (yielded ops (s.act ρ).tmps) = true) (hx : svEval s x = .v a) (h : ∀ w, (Op.unary op a).run P w = .ok c w) : Ev P ops w0 o s ⟨.v c, .none, []⟩ :=
  .run _ _ hgd fun ρ w _ => by
    have e1 := svEval_c s ρ x
    rw [hx] at e1
    simp only [execOp, ho, e1, SV.c]
    rw [Sem.run_bind, h w]
    rfl
theorem post_ret {fn : Func} {R : Ending → World → Prop} {v : Value} (hv : ∀ ρ w, Rel w0 ρ s w → (results fn (s.act ρ).tmps).run P w = .ok v w) (hR : ∀ w, Gw w0 w → R (.returned v) w) :
    ∀ ρ w, Rel w0 ρ s w → bodyPost P fn R .ret (s.act ρ) w := fun ρ w hr => ⟨rfl, v, hv ρ w hr, hR w hr.gw⟩
theorem post_end {fn : Func} {R : Ending → World → Prop} {v : Value} (hv : ∀ ρ w, Rel w0 ρ s w → (results fn (s.act ρ).tmps).run P w = .ok v w) (hR : ∀ w, Gw w0 w → R (.returned v) w) :
    ∀ ρ w, Rel w0 ρ s w → bodyPost P fn R .normal (s.act ρ) w := fun ρ w hr => ⟨rfl, v, hv ρ w hr, hR w hr.gw⟩
theorem getD_act (t : Nat) (ρ : Nat → Nat) : (s.act ρ).tmps.getD t undef = (svEval s (.tmp t)).c ρ := svEval_c s ρ (.tmp t)
def rvRun (tmps : Array Value) : ResultVar → Sem Value
  | .tmp t => pure (tmps.getD t undef)
  | .cell p t => do loadVar t (← asAddr (tmps.getD p undef))
def RV (P : Program) (s : VS) (r : ResultVar) (v : Value) : Prop :=
  ∀ (ρ : Nat → Nat) (w : World), (∀ id b, s.mem id = some b → w.heap[ρ id]? = some (cellsOf ρ b)) → (rvRun (s.act ρ).tmps r).run P w = Result.ok v w
theorem rv_tmp {t : Nat} {v : Value} (h : svEval s (.tmp t) = .v v) : RV P s (.tmp t) v := fun ρ w _ => by
  simp only [rvRun, getD_act, h, SV.c]; rfl
theorem rv_cell {p ty id off n : Nat} {b : Blk} {d : TypeDesc} {vs : List Value} (h : svEval s (.tmp p) = .p id off) (hm : s.mem id = some b) (hu : P.underlying ty = some d) (hd : isAggD d = true) (hs : ∀ w, (Go.sizeOf ty).run P w = .ok n w)
    (hv0 : unV ((b.1.drop off).take n) = some vs) (hl : vs.length = n) : RV P s (.cell p ty) (.agg vs.toArray) := fun ρ w hw => by
  have hb := hw id b hm
  have hv := unV_eq hv0
  have hl' : (loadCells ⟨ρ id, off, none⟩ vs.length).run P w = .ok vs.toArray w := run_loadCells_list w _ vs fun j v hj => by
    rw [add_at]
    simp only [World.cell?, hb, cellsOf]
    have h2 : ((b.1.drop off).take n)[j]? = some (.v v) := by rw [hv]; simp [hj]
    have h3 : b.1[off + j]? = some (.v v) := by
      rw [List.getElem?_take] at h2
      split at h2
      · rwa [List.getElem?_drop] at h2
      · cases h2
    simp [h3, SV.c]
  rw [hl] at hl'
  simp only [rvRun, getD_act, h, SV.c]
  simp [asAddr, loadVar, run_isAgg hu, hd, hs, hl']
theorem results_eq (fn : Func) (tmps : Array Value) : results fn tmps = (do let vs ← fn.results.mapM (rvRun tmps); pure (if h : vs.size = 1 then vs[0] else .tuple vs)) := by
  unfold results
  congr 1
theorem res1 {fn : Func} {r : ResultVar} {v : Value} (hf : fn.results = #[r]) (h : RV P s r v) : ∀ ρ w, Rel w0 ρ s w → (results fn (s.act ρ).tmps).run P w = .ok v w := fun ρ w hr => by
  have h1 := h ρ w fun id b hb => (hr.own id b hb).2
  rw [results_eq, hf]
  simp [h1]
theorem res2 {fn : Func} {r r' : ResultVar} {v v' : Value} (hf : fn.results = #[r, r']) (h : RV P s r v) (h' : RV P s r' v') : ∀ ρ w, Rel w0 ρ s w → (results fn (s.act ρ).tmps).run P w = .ok (.tuple #[v, v']) w := fun ρ w hr => by
  have h1 := h ρ w fun id b hb => (hr.own id b hb).2
  have h2 := h' ρ w fun id b hb => (hr.own id b hb).2
  rw [results_eq, hf]
  simp [h1, h2]
theorem res0 {fn : Func} (hf : fn.results = #[]) : ∀ ρ w, Rel w0 ρ s w → (results fn (s.act ρ).tmps).run P w = .ok (.tuple #[]) w := fun _ _ _ => results_none hf _ _ _
theorem post_newp {fn : Func} {R : Ending → World → Prop} {a c id : Nat} {y : Value} {b : Blk} {cs : List Value} (hf : fn.results = #[.tmp a, .tmp c]) (ha : svEval s (.tmp a) = .p id 0) (hc : svEval s (.tmp c) = .v y) (hm : s.mem id = some b) (hb : unV b.1 = some cs)
    (hR : ∀ g w, w0.heap.size ≤ g → w.heap[g]? = some (.cells cs.toArray b.2 (0, 0)) → Gw w0 w → R (.returned (.tuple #[.pointer (some ⟨g, 0, none⟩), y])) w) : ∀ ρ w, Rel w0 ρ s w → bodyPost P fn R .ret (s.act ρ) w := fun ρ w hr => by
  obtain ⟨h1, h2⟩ := hr.own id b hm
  refine ⟨rfl, _, ?_, hR (ρ id) w h1 (by rw [h2]; simp [cellsOf, unV_eq hb, Function.comp_def, SV.c]) hr.gw⟩
  rw [results_eq, hf]
  have e1 : (rvRun (s.act ρ).tmps (.tmp a)).run P w = .ok (.pointer (some ⟨ρ id, 0, none⟩)) w := by simp only [rvRun, getD_act, ha, SV.c]; rfl
  have e2 : (rvRun (s.act ρ).tmps (.tmp c)).run P w = .ok y w := by simp only [rvRun, getD_act, hc, SV.c]; rfl
  simp [e1, e2]
theorem nm_tmp (fr : List SV) (m : Nat → Option Blk) (t : Nat) : svEval ⟨fr, m⟩ (.tmp t) = (fr[t]?).getD (.v undef) := rfl
theorem nm_const (s : VS) (v : Value) : svEval s (.const v) = .v v := rfl
theorem nm_global (s : VS) (g : Nat) : svEval s (.global g) = .v (.pointer (some ⟨g, 0, none⟩)) := rfl
theorem nm_func (s : VS) (f : FuncId) : svEval s (.func f) = .v (.func (.func f) #[] #[]) := rfl
theorem nm_ms0 (id : Nat) (b : Blk) : memSet [] id b = [(id, b)] := rfl
theorem nm_ms1 (k : Nat) (c : Blk) (l : List (Nat × Blk)) (id : Nat) (b : Blk) : memSet ((k, c) :: l) id b = if k = id then (id, b) :: l else (k, c) :: memSet l id b := rfl
theorem nm_agg (cs : Array Value) : Value.cells (.agg cs) = cs := rfl
theorem nm_int (k : IntKind) (n : Int) : Value.cells (.int k n) = #[.int k n] := rfl
theorem nm_bool (b : Bool) : Value.cells (.bool b) = #[.bool b] := rfl
theorem nm_ptr (a : Option Addr) : Value.cells (.pointer a) = #[.pointer a] := rfl
theorem nm_slice (a : Option Addr) (l c : Nat) : Value.cells (.slice a l c) = #[.slice a l c] := rfl
theorem nm : (type_of% (put_n)) ∧ (type_of% (put_new)) ∧ (type_of% (put_wr)) ∧ (type_of% (frPut_some)) ∧ (type_of% (frPut_none)) ∧ (type_of% (@List.set_cons_zero SV)) ∧ (type_of% (@List.set_cons_succ SV)) ∧ (type_of% (nm_tmp)) ∧ (type_of% (nm_const)) ∧ (type_of% (nm_global)) ∧ (type_of% (nm_func)) ∧ (type_of% (@List.getElem?_cons_zero SV)) ∧ (type_of% (@List.getElem?_cons_succ SV)) ∧ (type_of% (@List.getElem?_cons_zero Value)) ∧ (type_of% (@List.getElem?_cons_succ Value)) ∧ (type_of% (@Option.getD_some SV)) ∧ (type_of% (@List.take_succ_cons SV)) ∧ (type_of% (@List.take_zero SV)) ∧ (type_of% (@List.drop_succ_cons SV)) ∧ (type_of% (@List.drop_zero SV)) ∧ (type_of% (@List.cons_append SV)) ∧ (type_of% (@List.nil_append SV)) ∧ (type_of% (@List.append_nil SV)) ∧ (type_of% (@List.map_cons Value SV)) ∧ (type_of% (@List.map_nil Value SV)) ∧ (type_of% (nm_ms0)) ∧ (type_of% (nm_ms1)) ∧ (type_of% (nm_agg)) ∧ (type_of% (nm_int)) ∧ (type_of% (nm_bool)) ∧ (type_of% (nm_ptr)) ∧ (type_of% (nm_slice)) ∧ (type_of% (@Int.toNat_natCast)) ∧ (type_of% (@Nat.zero_add)) ∧ (type_of% (@Nat.add_zero)) ∧ (type_of% (@Nat.mul_one)) ∧ (type_of% (@i64w)) :=
  ⟨put_n, put_new, put_wr, frPut_some, frPut_none, @List.set_cons_zero SV, @List.set_cons_succ SV, nm_tmp, nm_const, nm_global, nm_func, @List.getElem?_cons_zero SV, @List.getElem?_cons_succ SV, @List.getElem?_cons_zero Value, @List.getElem?_cons_succ Value, @Option.getD_some SV, @List.take_succ_cons SV, @List.take_zero SV, @List.drop_succ_cons SV, @List.drop_zero SV, @List.cons_append SV, @List.nil_append SV, @List.append_nil SV, @List.map_cons Value SV, @List.map_nil Value SV, nm_ms0, nm_ms1, nm_agg, nm_int, nm_bool, nm_ptr, nm_slice, @Int.toNat_natCast, @Nat.zero_add, @Nat.add_zero, @Nat.mul_one, @i64w⟩
theorem gn (hg : o.guard = none) (ρ : Nat → Nat) : Region.wanted o (yielded ops (s.act ρ).tmps) = true := wanted_none hg _
end
end Go.Toll
end
section
namespace Go.Proofs.YtafbhakmkbehiaaDoor
open Go.RowKit Go.Toll
theorem wrap_nat (n : Nat) : IntKind.u64.wrap (n : Int) = ((n % 18446744073709551616 : Nat) : Int) := by rw [IntKind.wrap_u64]; omega
theorem b_add (x y : Nat) (p q : Operand) (w : World) : (do eqGuard .add 48 p q (.int .u64 (x : Nat)) (.int .u64 (y : Nat)); binOp .add 48 (.int .u64 (x : Nat)) (.int .u64 (y : Nat)) : Sem Value).run Tryd.prog w = .ok (.int .u64 ((x + y) % 18446744073709551616 : Nat)) w := by
  go_simp
  exact wrap_nat (x + y)
theorem b_mul (x y : Nat) (p q : Operand) (w : World) : (do eqGuard .mul 48 p q (.int .u64 (x : Nat)) (.int .u64 (y : Nat)); binOp .mul 48 (.int .u64 (x : Nat)) (.int .u64 (y : Nat)) : Sem Value).run Tryd.prog w = .ok (.int .u64 ((x * y) % 18446744073709551616 : Nat)) w := by
  go_simp
  exact wrap_nat (x * y)
theorem b_sub (x y : Nat) (p q : Operand) (w : World) : (do eqGuard .sub 48 p q (.int .u64 (x : Nat)) (.int .u64 (y : Nat)); binOp .sub 48 (.int .u64 (x : Nat)) (.int .u64 (y : Nat)) : Sem Value).run Tryd.prog w = .ok (.int .u64 (((x : Int) - (y : Int)) % 18446744073709551616).toNat) w := by
  go_simp
  rw [IntKind.wrap_u64]
  omega
theorem bits_or64 (x y : Nat) : bits .or .u64 (x : Int) (y : Int) = ((x % 18446744073709551616 ||| y % 18446744073709551616 : Nat) : Int) := by
  simp only [bits, BitVec.ofInt_natCast, BitVec.toNat_or, BitVec.toNat_ofNat]
  rw [show IntKind.u64.bits = 64 from rfl, show (2 : Nat) ^ 64 = 18446744073709551616 by decide, wrap_nat, Nat.mod_eq_of_lt]
  exact Nat.or_lt_two_pow (n := 64) (Nat.mod_lt _ (by decide)) (Nat.mod_lt _ (by decide))
theorem bits_and1 (x : Nat) : bits .and .u64 (x : Int) 1 = ((x % 2 : Nat) : Int) := by
  rw [show (1 : Int) = ((1 : Nat) : Int) from rfl]
  simp only [bits, BitVec.ofInt_natCast, BitVec.toNat_and, BitVec.toNat_ofNat]
  rw [show IntKind.u64.bits = 64 from rfl, show (1 : Nat) % 2 ^ 64 = 1 by decide, Nat.and_one_is_mod, wrap_nat]
  omega
theorem b_and (x : Nat) (p q : Operand) (w : World) : (do eqGuard .and 48 p q (.int .u64 (x : Nat)) (.int .u64 1); binOp .and 48 (.int .u64 (x : Nat)) (.int .u64 1) : Sem Value).run Tryd.prog w = .ok (.int .u64 (x % 2 : Nat)) w := by
  go_simp
  exact bits_and1 x
theorem b_or (x y : Nat) (p q : Operand) (w : World) : (do eqGuard .or 48 p q (.int .u64 (x : Nat)) (.int .u64 (y : Nat)); binOp .or 48 (.int .u64 (x : Nat)) (.int .u64 (y : Nat)) : Sem Value).run Tryd.prog w = .ok (.int .u64 (x % 18446744073709551616 ||| y % 18446744073709551616 : Nat)) w := by
  go_simp
  exact bits_or64 x y
theorem b_shr1 (x : Nat) (p q : Operand) (w : World) : (do eqGuard .shr 48 p q (.int .u64 (x : Nat)) (.int .u64 1); binOp .shr 48 (.int .u64 (x : Nat)) (.int .u64 1) : Sem Value).run Tryd.prog w = .ok (.int .u64 (x / 2 : Nat)) w := by
  go_simp
theorem b_shl63 (x : Nat) (p q : Operand) (w : World) : (do eqGuard .shl 48 p q (.int .u64 (x : Nat)) (.int .u64 63); binOp .shl 48 (.int .u64 (x : Nat)) (.int .u64 63) : Sem Value).run Tryd.prog w = .ok (.int .u64 (x * 9223372036854775808 % 18446744073709551616 : Nat)) w := by
  go_simp
  exact wrap_nat (x * 9223372036854775808)
theorem eq_arr {P : Program} {d t el : Nat} {k k' : IntKind} (ht : P.underlying t = some (.array 4 el)) (he : P.underlying el = some (.int k')) (hs : ∀ w, (Go.sizeOf el).run P w = .ok 1 w) (a0 a1 a2 a3 b0 b1 b2 b3 : Int) (w : World) :
    (Op.equalIn (d + 2) t (.agg #[.int k a0, .int k a1, .int k a2, .int k a3]) (.agg #[.int k b0, .int k b1, .int k b2, .int k b3])).run P w = .ok (a0 == b0 && a1 == b1 && a2 == b2 && a3 == b3) w := by
  have hi : ∀ a b : Int, (Op.equalIn (d + 1) el (.int k a) (.int k b)).run P w = .ok (a == b) w := fun a b => run_equalIn_int w d el k k' a b he
  have hp : ∀ (xs : Array Value) (i : Nat) (v : Value), xs[i]? = some v → (part el xs i).run P w = .ok v w := fun xs i v h => by
    simp [part, run_isAgg he, isAggD, h]
  rw [Op.equalIn]
  simp only [Sem.run_bind, run_underlying ht, Result.andThen_ok, hs]
  simp [List.range', hp, hi]
  by_cases h0 : a0 = b0 <;> by_cases h1 : a1 = b1 <;> by_cases h2 : a2 = b2 <;> by_cases h3 : a3 = b3 <;> simp [h0, h1, h2, h3]
theorem beq_nat (x y : Nat) : ((x : Int) == (y : Int)) = decide (x = y) := by
  by_cases h : x = y
  · simp [h]
  · simp [h]; omega
theorem eql_num (t : TypeId) (ht : t = 50 ∨ t = 49) (a0 a1 a2 a3 b0 b1 b2 b3 : Nat) (p q : Operand) (w : World) :
    (do eqGuard .eql t p q (.agg #[.int .u64 a0, .int .u64 a1, .int .u64 a2, .int .u64 a3]) (.agg #[.int .u64 b0, .int .u64 b1, .int .u64 b2, .int .u64 b3]); binOp .eql t (.agg #[.int .u64 a0, .int .u64 a1, .int .u64 a2, .int .u64 a3]) (.agg #[.int .u64 b0, .int .u64 b1, .int .u64 b2, .int .u64 b3]) : Sem Value).run Tryd.prog w =
      .ok (.bool (decide (a0 = b0 ∧ a1 = b1 ∧ a2 = b2 ∧ a3 = b3))) w := by
  rcases ht with rfl | rfl
  · go_simp
    rw [eq_arr Tryd.underlying50 Tryd.underlying48 Tryd.sizeOf48]
    simp only [Result.andThen, beq_nat]
    simp [Bool.and_assoc]
  · go_simp
    rw [eq_arr Tryd.underlying49 Tryd.underlying48 Tryd.sizeOf48]
    simp only [Result.andThen, beq_nat]
    simp [Bool.and_assoc]
theorem neq_num (a0 a1 a2 a3 b0 b1 b2 b3 : Nat) (p q : Operand) (w : World) :
    (do eqGuard .neq 50 p q (.agg #[.int .u64 a0, .int .u64 a1, .int .u64 a2, .int .u64 a3]) (.agg #[.int .u64 b0, .int .u64 b1, .int .u64 b2, .int .u64 b3]); binOp .neq 50 (.agg #[.int .u64 a0, .int .u64 a1, .int .u64 a2, .int .u64 a3]) (.agg #[.int .u64 b0, .int .u64 b1, .int .u64 b2, .int .u64 b3]) : Sem Value).run Tryd.prog w =
      .ok (.bool (!decide (a0 = b0 ∧ a1 = b1 ∧ a2 = b2 ∧ a3 = b3))) w := by
  go_simp
  rw [eq_arr Tryd.underlying50 Tryd.underlying48 Tryd.sizeOf48]
  simp only [Result.andThen, beq_nat]
  simp [Bool.and_assoc]
end Go.Proofs.YtafbhakmkbehiaaDoor
end
section
namespace Go.Proofs.YtafbhakmkbehiaaDoor
open Go.RowKit Go.Toll
set_option maxHeartbeats 4000000
set_option maxRecDepth 100000
def t_K (P : Program) (ops : Array Oper) (w0 : World) (l : List Oper) (s : VS) (R : List Eff → VS → Prop) : Prop := ∃ E s', VE P ops w0 l E s s' ∧ R E s'
theorem t_n {P : Program} {ops : Array Oper} {w0 : World} {s : VS} {R : List Eff → VS → Prop} (h : R [] s) : t_K P ops w0 [] s R := ⟨[], s, .nil s, h⟩
theorem t_c {P : Program} {ops : Array Oper} {w0 : World} {o : Oper} {l : List Oper} {s s1 : VS} {e : Eff} {R : List Eff → VS → Prop} (h : Ev P ops w0 o s e) (hs : s.put o.dst e = s1) (r : t_K P ops w0 l s1 (fun E s' => R (e :: E) s')) : t_K P ops w0 (o :: l) s R := by
  subst hs
  obtain ⟨E, s', h1, h2⟩ := r
  exact ⟨_, _, .cons h h1, h2⟩
theorem t_p {P : Program} {w0 : World} {id : Nat} {l : List Oper} {fr : List SV} {m : List (Nat × Blk)} {Q : Exit → VS → Prop} (h : t_K P l.toArray w0 l ⟨fr, memOf m⟩ fun E s' => (l.all (fun o => !isSelect o.op) && plainB E && freshAll fr m E) = true ∧ Q .normal s') : VOk P w0 ⟨fr, memOf m⟩ (.region id l.toArray false) Q := by
  obtain ⟨E, s', h1, h2, h3⟩ := h
  exact vrp h1 h2 h3
theorem t_d {P : Program} {w0 : World} {id : Nat} {l : List Oper} {fr : List SV} {m : List (Nat × Blk)} {Q : Exit → VS → Prop} (hm : P.follows .mixedOrders = true) (h : t_K P l.toArray w0 l ⟨fr, memOf m⟩ fun E s' => (veB l.toArray l E && freshAll fr m E) = true ∧ Q .normal s') : VOk P w0 ⟨fr, memOf m⟩ (.region id l.toArray true) Q := by
  obtain ⟨E, s', h1, h2, h3⟩ := h
  exact vrd hm h1 h2 h3
theorem t_s {P : Program} {ops : Array Oper} {w0 : World} {o : Oper} {l : List Oper} {s s1 : VS} {e : Eff} {R : List Eff → VS → Prop} (h : Ev P ops w0 o s e) (r : t_K P ops w0 l s1 (fun E s' => R (e :: E) s')) (hs : s.put o.dst e = s1 := by first | (simp only [nm, seval]; exact rfl) | exact rfl) : t_K P ops w0 (o :: l) s R := t_c h hs r
theorem t_s2 {P : Program} {ops : Array Oper} {w0 : World} {o : Oper} {l : List Oper} {s s1 : VS} {e : Eff} {R : List Eff → VS → Prop} (h : Ev P ops w0 o s e) (r : t_K P ops w0 l s1 (fun E s' => R (e :: E) s')) (hs : s.put o.dst e = s1 := by first | (simp only [nm2, seval]; exact rfl) | exact rfl) : t_K P ops w0 (o :: l) s R := t_c h hs r
theorem t_s3 {P : Program} {ops : Array Oper} {w0 : World} {o : Oper} {l : List Oper} {s s1 : VS} {e : Eff} {R : List Eff → VS → Prop} (h : Ev P ops w0 o s e) (r : t_K P ops w0 l s1 (fun E s' => R (e :: E) s')) (hs : s.put o.dst e = s1 := by first | (simp only [nm3, seval]; exact rfl) | exact rfl) : t_K P ops w0 (o :: l) s R := t_c h hs r
theorem t_0 {P : Program} {ops : Array Oper} {w0 : World} {o : Oper} {l : List Oper} {s s1 : VS} {e : Eff} {R : List Eff → VS → Prop} (r : t_K P ops w0 l s1 (fun E s' => R (e :: E) s')) (h : Ev P ops w0 o s e := by first | exact ev_load rfl (gn rfl) rfl rfl Tryd.underlying50 rfl Tryd.sizeOf50 rfl rfl | exact ev_loadx rfl (gn rfl) rfl Tryd.underlying50 rfl Tryd.sizeOf50 (by assumption) rfl) (hs : s.put o.dst e = s1 := by first | (simp only [nm2, seval]; exact rfl) | exact rfl) : t_K P ops w0 (o :: l) s R := t_c h hs r
theorem t_1 {P : Program} {ops : Array Oper} {w0 : World} {o : Oper} {l : List Oper} {s s1 : VS} {e : Eff} {R : List Eff → VS → Prop} (r : t_K P ops w0 l s1 (fun E s' => R (e :: E) s')) (h : Ev P ops w0 o s e := by refine ev_pure' (gn rfl) (fun ρ w => by simp only [VS.act, SV.c, List.map_cons, List.map_nil]; go_simp; exact rfl) (fun _ _ => rfl)) (hs : s.put o.dst e = s1 := by first | (simp only [nm, seval]; exact rfl) | exact rfl) : t_K P ops w0 (o :: l) s R := t_c h hs r
theorem t_2 {P : Program} {ops : Array Oper} {w0 : World} {o : Oper} {l : List Oper} {s s1 : VS} {e : Eff} {R : List Eff → VS → Prop} (r : t_K P ops w0 l s1 (fun E s' => R (e :: E) s')) (h : Ev P ops w0 o s e := by first | exact ev_load1 rfl (gn rfl) rfl rfl Tryd.underlying43 rfl rfl | exact ev_loadx1 rfl (gn rfl) rfl Tryd.underlying43 rfl (by first | assumption | exact hm 0 _ rfl | exact hm 1 _ rfl | exact hm 2 _ rfl | exact hm 3 _ rfl)) (hs : s.put o.dst e = s1 := by first | (simp only [nm2, seval]; exact rfl) | exact rfl) : t_K P ops w0 (o :: l) s R := t_c h hs r
theorem t_3 {P : Program} {ops : Array Oper} {w0 : World} {o : Oper} {l : List Oper} {s s1 : VS} {e : Eff} {R : List Eff → VS → Prop} (r : t_K P ops w0 l s1 (fun E s' => R (e :: E) s')) (h : Ev P ops w0 o s e := by first | exact ev_load rfl (gn rfl) rfl rfl Tryd.underlying50 rfl Tryd.sizeOf50 rfl rfl | exact ev_loadx rfl (gn rfl) rfl Tryd.underlying50 rfl Tryd.sizeOf50 (by assumption) rfl) (hs : s.put o.dst e = s1 := by first | (simp only [nm, seval]; exact rfl) | exact rfl) : t_K P ops w0 (o :: l) s R := t_c h hs r
theorem t_4 {P : Program} {ops : Array Oper} {w0 : World} {o : Oper} {l : List Oper} {s s1 : VS} {e : Eff} {R : List Eff → VS → Prop} (r : t_K P ops w0 l s1 (fun E s' => R (e :: E) s')) (h : Ev P ops w0 o s e := by first | exact ev_load1 rfl (gn rfl) rfl rfl Tryd.underlying48 rfl rfl | exact ev_loadx1 rfl (gn rfl) rfl Tryd.underlying48 rfl (by first | assumption | exact hm 0 _ rfl | exact hm 1 _ rfl | exact hm 2 _ rfl | exact hm 3 _ rfl)) (hs : s.put o.dst e = s1 := by first | (simp only [nm, seval]; exact rfl) | exact rfl) : t_K P ops w0 (o :: l) s R := t_c h hs r
theorem t_5 {P : Program} {ops : Array Oper} {w0 : World} {o : Oper} {l : List Oper} {s s1 : VS} {e : Eff} {R : List Eff → VS → Prop} (r : t_K P ops w0 l s1 (fun E s' => R (e :: E) s')) (h : Ev P ops w0 o s e := by first | exact ev_load rfl (gn rfl) rfl rfl Tryd.underlying49 rfl Tryd.sizeOf49 rfl rfl | exact ev_loadx rfl (gn rfl) rfl Tryd.underlying49 rfl Tryd.sizeOf49 (by assumption) rfl) (hs : s.put o.dst e = s1 := by first | (simp only [nm, seval]; exact rfl) | exact rfl) : t_K P ops w0 (o :: l) s R := t_c h hs r
theorem t_6 {P : Program} {ops : Array Oper} {w0 : World} {o : Oper} {l : List Oper} {s s1 : VS} {e : Eff} {R : List Eff → VS → Prop} (r : t_K P ops w0 l s1 (fun E s' => R (e :: E) s')) (h : Ev P ops w0 o s e := by first | exact ev_field rfl (gn rfl) rfl Tryd.underlying45 rfl Tryd.sizeOf43 | exact ev_fieldx rfl (gn rfl) rfl Tryd.underlying45 rfl Tryd.sizeOf43) (hs : s.put o.dst e = s1 := by first | (simp only [nm2, seval]; exact rfl) | exact rfl) : t_K P ops w0 (o :: l) s R := t_c h hs r
theorem t_7 {P : Program} {ops : Array Oper} {w0 : World} {o : Oper} {l : List Oper} {s s1 : VS} {e : Eff} {R : List Eff → VS → Prop} (r : t_K P ops w0 l s1 (fun E s' => R (e :: E) s')) (h : Ev P ops w0 o s e := by first | exact ev_field rfl (gn rfl) rfl Tryd.underlying70 rfl Tryd.sizeOf50 | exact ev_fieldx rfl (gn rfl) rfl Tryd.underlying70 rfl Tryd.sizeOf50) (hs : s.put o.dst e = s1 := by first | (simp only [nm2, seval]; exact rfl) | exact rfl) : t_K P ops w0 (o :: l) s R := t_c h hs r
theorem t_8 {P : Program} {ops : Array Oper} {w0 : World} {o : Oper} {l : List Oper} {s s1 : VS} {e : Eff} {R : List Eff → VS → Prop} (r : t_K P ops w0 l s1 (fun E s' => R (e :: E) s')) (h : Ev P ops w0 o s e := by first | exact ev_index rfl (gn rfl) rfl rfl Tryd.underlying50 Tryd.sizeOf48 (by decide) (by decide) | exact ev_indexx rfl (gn rfl) rfl rfl Tryd.underlying50 Tryd.sizeOf48 (by decide) (by decide)) (hs : s.put o.dst e = s1 := by first | (simp only [nm, seval]; exact rfl) | exact rfl) : t_K P ops w0 (o :: l) s R := t_c h hs r
theorem t_9 {P : Program} {ops : Array Oper} {w0 : World} {o : Oper} {l : List Oper} {s s1 : VS} {e : Eff} {R : List Eff → VS → Prop} (r : t_K P ops w0 l s1 (fun E s' => R (e :: E) s')) (h : Ev P ops w0 o s e := by exact ev_store rfl (gn rfl) rfl rfl rfl Tryd.sizeOf50 rfl (by simp) rfl) (hs : s.put o.dst e = s1 := by first | (simp only [nm, seval]; exact rfl) | exact rfl) : t_K P ops w0 (o :: l) s R := t_c h hs r
theorem t_10 {P : Program} {ops : Array Oper} {w0 : World} {o : Oper} {l : List Oper} {s s1 : VS} {e : Eff} {R : List Eff → VS → Prop} (r : t_K P ops w0 l s1 (fun E s' => R (e :: E) s')) (h : Ev P ops w0 o s e := by first | exact ev_index rfl (gn rfl) rfl rfl Tryd.underlying49 Tryd.sizeOf48 (by decide) (by decide) | exact ev_indexx rfl (gn rfl) rfl rfl Tryd.underlying49 Tryd.sizeOf48 (by decide) (by decide)) (hs : s.put o.dst e = s1 := by first | (simp only [nm, seval]; exact rfl) | exact rfl) : t_K P ops w0 (o :: l) s R := t_c h hs r
theorem t_11 {P : Program} {ops : Array Oper} {w0 : World} {o : Oper} {l : List Oper} {s s1 : VS} {e : Eff} {R : List Eff → VS → Prop} (r : t_K P ops w0 l s1 (fun E s' => R (e :: E) s')) (h : Ev P ops w0 o s e := by exact ev_store rfl (gn rfl) rfl rfl rfl Tryd.sizeOf50 rfl (by simp) rfl) (hs : s.put o.dst e = s1 := by first | (simp only [nm2, seval]; exact rfl) | exact rfl) : t_K P ops w0 (o :: l) s R := t_c h hs r
theorem t_12 {P : Program} {ops : Array Oper} {w0 : World} {o : Oper} {l : List Oper} {s s1 : VS} {e : Eff} {R : List Eff → VS → Prop} (r : t_K P ops w0 l s1 (fun E s' => R (e :: E) s')) (h : Ev P ops w0 o s e := by first | exact ev_index rfl (gn rfl) rfl rfl Tryd.underlying95 Tryd.sizeOf48 (by decide) (by decide) | exact ev_indexx rfl (gn rfl) rfl rfl Tryd.underlying95 Tryd.sizeOf48 (by decide) (by decide)) (hs : s.put o.dst e = s1 := by first | (simp only [nm, seval]; exact rfl) | exact rfl) : t_K P ops w0 (o :: l) s R := t_c h hs r
theorem t_13 {P : Program} {ops : Array Oper} {w0 : World} {o : Oper} {l : List Oper} {s s1 : VS} {e : Eff} {R : List Eff → VS → Prop} (r : t_K P ops w0 l s1 (fun E s' => R (e :: E) s')) (h : Ev P ops w0 o s e := by exact ev_alloc rfl rfl (gn rfl) Tryd.zeroValue50) (hs : s.put o.dst e = s1 := by first | (simp only [nm2, seval]; exact rfl) | exact rfl) : t_K P ops w0 (o :: l) s R := t_c h hs r
theorem t_14 {P : Program} {ops : Array Oper} {w0 : World} {o : Oper} {l : List Oper} {s s1 : VS} {e : Eff} {R : List Eff → VS → Prop} (r : t_K P ops w0 l s1 (fun E s' => R (e :: E) s')) (h : Ev P ops w0 o s e := by first | exact Ev.skip (fun _ => rfl) | refine ev_pure' (fun _ => rfl) (fun ρ w => by simp only [VS.act, SV.c, List.map_cons, List.map_nil]; go_simp; exact rfl) (fun _ _ => rfl)) (hs : s.put o.dst e = s1 := by first | (simp only [nm, seval]; exact rfl) | exact rfl) : t_K P ops w0 (o :: l) s R := t_c h hs r
theorem t_15 {P : Program} {ops : Array Oper} {w0 : World} {o : Oper} {l : List Oper} {s s1 : VS} {e : Eff} {R : List Eff → VS → Prop} (r : t_K P ops w0 l s1 (fun E s' => R (e :: E) s')) (h : Ev P ops w0 o s e := by exact ev_store rfl (gn rfl) rfl rfl rfl Tryd.sizeOf49 rfl (by simp) rfl) (hs : s.put o.dst e = s1 := by first | (simp only [nm, seval]; exact rfl) | exact rfl) : t_K P ops w0 (o :: l) s R := t_c h hs r
theorem t_16 {P : Program} {ops : Array Oper} {w0 : World} {o : Oper} {l : List Oper} {s s1 : VS} {e : Eff} {R : List Eff → VS → Prop} (r : t_K P ops w0 l s1 (fun E s' => R (e :: E) s')) (h : Ev P ops w0 o s e := by first | exact ev_load rfl (gn rfl) rfl rfl Tryd.underlying45 rfl Tryd.sizeOf45 rfl rfl | exact ev_loadx rfl (gn rfl) rfl Tryd.underlying45 rfl Tryd.sizeOf45 (by assumption) rfl) (hs : s.put o.dst e = s1 := by first | (simp only [nm2, seval]; exact rfl) | exact rfl) : t_K P ops w0 (o :: l) s R := t_c h hs r
theorem t_17 {P : Program} {ops : Array Oper} {w0 : World} {o : Oper} {l : List Oper} {s s1 : VS} {e : Eff} {R : List Eff → VS → Prop} (r : t_K P ops w0 l s1 (fun E s' => R (e :: E) s')) (h : Ev P ops w0 o s e := by exact ev_alloc rfl rfl (gn rfl) Tryd.zeroValue50) (hs : s.put o.dst e = s1 := by first | (simp only [nm, seval]; exact rfl) | exact rfl) : t_K P ops w0 (o :: l) s R := t_c h hs r
theorem t_18 {P : Program} {ops : Array Oper} {w0 : World} {o : Oper} {l : List Oper} {s s1 : VS} {e : Eff} {R : List Eff → VS → Prop} (r : t_K P ops w0 l s1 (fun E s' => R (e :: E) s')) (h : Ev P ops w0 o s e := by first | exact ev_field rfl (gn rfl) rfl Tryd.underlying80 rfl Tryd.sizeOf50 | exact ev_fieldx rfl (gn rfl) rfl Tryd.underlying80 rfl Tryd.sizeOf50) (hs : s.put o.dst e = s1 := by first | (simp only [nm, seval]; exact rfl) | exact rfl) : t_K P ops w0 (o :: l) s R := t_c h hs r
theorem t_19 {P : Program} {ops : Array Oper} {w0 : World} {o : Oper} {l : List Oper} {s s1 : VS} {e : Eff} {R : List Eff → VS → Prop} (r : t_K P ops w0 l s1 (fun E s' => R (e :: E) s')) (h : Ev P ops w0 o s e := by first | exact ev_load rfl (gn rfl) rfl rfl Tryd.underlying23 rfl Tryd.sizeOf23 rfl rfl | exact ev_loadx rfl (gn rfl) rfl Tryd.underlying23 rfl Tryd.sizeOf23 (by assumption) rfl) (hs : s.put o.dst e = s1 := by first | (simp only [nm2, seval]; exact rfl) | exact rfl) : t_K P ops w0 (o :: l) s R := t_c h hs r
theorem t_20 {P : Program} {ops : Array Oper} {w0 : World} {o : Oper} {l : List Oper} {s s1 : VS} {e : Eff} {R : List Eff → VS → Prop} (r : t_K P ops w0 l s1 (fun E s' => R (e :: E) s')) (h : Ev P ops w0 o s e := by first | exact Ev.skip (fun _ => rfl) | exact ev_load rfl (fun _ => rfl) rfl rfl Tryd.underlying50 rfl Tryd.sizeOf50 rfl rfl | exact ev_loadx rfl (fun _ => rfl) rfl Tryd.underlying50 rfl Tryd.sizeOf50 (by assumption) rfl) (hs : s.put o.dst e = s1 := by first | (simp only [nm2, seval]; exact rfl) | exact rfl) : t_K P ops w0 (o :: l) s R := t_c h hs r
theorem t_21 {P : Program} {ops : Array Oper} {w0 : World} {o : Oper} {l : List Oper} {s s1 : VS} {e : Eff} {R : List Eff → VS → Prop} (r : t_K P ops w0 l s1 (fun E s' => R (e :: E) s')) (h : Ev P ops w0 o s e := by first | exact ev_load rfl (gn rfl) rfl rfl Tryd.underlying70 rfl Tryd.sizeOf70 rfl rfl | exact ev_loadx rfl (gn rfl) rfl Tryd.underlying70 rfl Tryd.sizeOf70 (by assumption) rfl) (hs : s.put o.dst e = s1 := by first | (simp only [nm2, seval]; exact rfl) | exact rfl) : t_K P ops w0 (o :: l) s R := t_c h hs r
theorem t_22 {P : Program} {ops : Array Oper} {w0 : World} {o : Oper} {l : List Oper} {s s1 : VS} {e : Eff} {R : List Eff → VS → Prop} (r : t_K P ops w0 l s1 (fun E s' => R (e :: E) s')) (h : Ev P ops w0 o s e := by first | exact Ev.skip (fun _ => rfl) | exact ev_load rfl (fun _ => rfl) rfl rfl Tryd.underlying49 rfl Tryd.sizeOf49 rfl rfl | exact ev_loadx rfl (fun _ => rfl) rfl Tryd.underlying49 rfl Tryd.sizeOf49 (by assumption) rfl) (hs : s.put o.dst e = s1 := by first | (simp only [nm, seval]; exact rfl) | exact rfl) : t_K P ops w0 (o :: l) s R := t_c h hs r
theorem t_23 {P : Program} {ops : Array Oper} {w0 : World} {o : Oper} {l : List Oper} {s s1 : VS} {e : Eff} {R : List Eff → VS → Prop} (r : t_K P ops w0 l s1 (fun E s' => R (e :: E) s')) (h : Ev P ops w0 o s e := by first | exact ev_field rfl (gn rfl) rfl Tryd.underlying26 rfl Tryd.sizeOf23 | exact ev_fieldx rfl (gn rfl) rfl Tryd.underlying26 rfl Tryd.sizeOf23) (hs : s.put o.dst e = s1 := by first | (simp only [nm2, seval]; exact rfl) | exact rfl) : t_K P ops w0 (o :: l) s R := t_c h hs r
theorem t_24 {P : Program} {ops : Array Oper} {w0 : World} {o : Oper} {l : List Oper} {s s1 : VS} {e : Eff} {R : List Eff → VS → Prop} (r : t_K P ops w0 l s1 (fun E s' => R (e :: E) s')) (h : Ev P ops w0 o s e := by exact ev_store rfl (gn rfl) rfl rfl rfl Tryd.sizeOf48 rfl (by simp) rfl) (hs : s.put o.dst e = s1 := by first | (simp only [nm, seval]; exact rfl) | exact rfl) : t_K P ops w0 (o :: l) s R := t_c h hs r
theorem t_25 {P : Program} {ops : Array Oper} {w0 : World} {o : Oper} {l : List Oper} {s s1 : VS} {e : Eff} {R : List Eff → VS → Prop} (r : t_K P ops w0 l s1 (fun E s' => R (e :: E) s')) (h : Ev P ops w0 o s e := by refine ev_pure' (gn rfl) (fun ρ w => by simp only [VS.act, SV.c, List.map_cons, List.map_nil]; go_simp; exact rfl) (fun _ _ => rfl)) (hs : s.put o.dst e = s1 := by first | (simp only [nm3, seval]; exact rfl) | exact rfl) : t_K P ops w0 (o :: l) s R := t_c h hs r
theorem t_26 {P : Program} {ops : Array Oper} {w0 : World} {o : Oper} {l : List Oper} {s s1 : VS} {e : Eff} {R : List Eff → VS → Prop} (r : t_K P ops w0 l s1 (fun E s' => R (e :: E) s')) (h : Ev P ops w0 o s e := by exact ev_alloc rfl rfl (gn rfl) Tryd.zeroValue49) (hs : s.put o.dst e = s1 := by first | (simp only [nm, seval]; exact rfl) | exact rfl) : t_K P ops w0 (o :: l) s R := t_c h hs r
theorem t_27 {P : Program} {ops : Array Oper} {w0 : World} {o : Oper} {l : List Oper} {s s1 : VS} {e : Eff} {R : List Eff → VS → Prop} (r : t_K P ops w0 l s1 (fun E s' => R (e :: E) s')) (h : Ev P ops w0 o s e := by exact ev_store rfl (gn rfl) rfl rfl rfl Tryd.sizeOf70 rfl (by simp) rfl) (hs : s.put o.dst e = s1 := by first | (simp only [nm2, seval]; exact rfl) | exact rfl) : t_K P ops w0 (o :: l) s R := t_c h hs r
theorem t_28 {P : Program} {ops : Array Oper} {w0 : World} {o : Oper} {l : List Oper} {s s1 : VS} {e : Eff} {R : List Eff → VS → Prop} (r : t_K P ops w0 l s1 (fun E s' => R (e :: E) s')) (h : Ev P ops w0 o s e := by first | exact ev_load rfl (gn rfl) rfl rfl Tryd.underlying26 rfl Tryd.sizeOf26 rfl rfl | exact ev_loadx rfl (gn rfl) rfl Tryd.underlying26 rfl Tryd.sizeOf26 (by assumption) rfl) (hs : s.put o.dst e = s1 := by first | (simp only [nm2, seval]; exact rfl) | exact rfl) : t_K P ops w0 (o :: l) s R := t_c h hs r
theorem t_29 {P : Program} {ops : Array Oper} {w0 : World} {o : Oper} {l : List Oper} {s s1 : VS} {e : Eff} {R : List Eff → VS → Prop} (r : t_K P ops w0 l s1 (fun E s' => R (e :: E) s')) (h : Ev P ops w0 o s e := by first | exact ev_bin rfl (gn rfl) rfl rfl (fun w => hmm _ _ _ _ w) | exact ev_bin rfl (gn rfl) rfl rfl (fun w => hmm1 _ _ _ w)) (hs : s.put o.dst e = s1 := by first | (simp only [nm, seval]; exact rfl) | exact rfl) : t_K P ops w0 (o :: l) s R := t_c h hs r
theorem t_30 {P : Program} {ops : Array Oper} {w0 : World} {o : Oper} {l : List Oper} {s s1 : VS} {e : Eff} {R : List Eff → VS → Prop} (r : t_K P ops w0 l s1 (fun E s' => R (e :: E) s')) (h : Ev P ops w0 o s e := by first | exact ev_bin rfl (gn rfl) rfl rfl (fun w => hmu _ _ _ w) | exact ev_bin rfl (gn rfl) rfl rfl (fun w => hmu1 _ _ w)) (hs : s.put o.dst e = s1 := by first | (simp only [nm, seval]; exact rfl) | exact rfl) : t_K P ops w0 (o :: l) s R := t_c h hs r
theorem t_31 {P : Program} {ops : Array Oper} {w0 : World} {o : Oper} {l : List Oper} {s s1 : VS} {e : Eff} {R : List Eff → VS → Prop} (r : t_K P ops w0 l s1 (fun E s' => R (e :: E) s')) (h : Ev P ops w0 o s e := by exact ev_build rfl (gn rfl) rfl (built59_0)) (hs : s.put o.dst e = s1 := by first | (simp only [nm2, seval]; exact rfl) | exact rfl) : t_K P ops w0 (o :: l) s R := t_c h hs r
theorem t_32 {P : Program} {ops : Array Oper} {w0 : World} {o : Oper} {l : List Oper} {s s1 : VS} {e : Eff} {R : List Eff → VS → Prop} (r : t_K P ops w0 l s1 (fun E s' => R (e :: E) s')) (h : Ev P ops w0 o s e := by exact ev_index rfl (gn rfl) rfl rfl Tryd.underlying49 Tryd.sizeOf48 (Int.natCast_nonneg _) (by have := hq4 k hk; omega)) (hs : s.put o.dst e = s1 := by first | (simp only [nm, seval]; exact rfl) | exact rfl) : t_K P ops w0 (o :: l) s R := t_c h hs r
theorem t_33 {P : Program} {ops : Array Oper} {w0 : World} {o : Oper} {l : List Oper} {s s1 : VS} {e : Eff} {R : List Eff → VS → Prop} (r : t_K P ops w0 l s1 (fun E s' => R (e :: E) s')) (h : Ev P ops w0 o s e := by first | exact Ev.skip (fun _ => rfl) | exact ev_move rfl (fun _ => rfl)) (hs : s.put o.dst e = s1 := by first | (simp only [nm, seval]; exact rfl) | exact rfl) : t_K P ops w0 (o :: l) s R := t_c h hs r
theorem t_34 {P : Program} {ops : Array Oper} {w0 : World} {o : Oper} {l : List Oper} {s s1 : VS} {e : Eff} {R : List Eff → VS → Prop} (r : t_K P ops w0 l s1 (fun E s' => R (e :: E) s')) (h : Ev P ops w0 o s e := by exact ev_loadap rfl (gn rfl) rfl rfl Tryd.underlying45 rfl Tryd.sizeOf45 rfl) (hs : s.put o.dst e = s1 := by first | (simp only [nm2, seval]; exact rfl) | exact rfl) : t_K P ops w0 (o :: l) s R := t_c h hs r
theorem t_35 {P : Program} {ops : Array Oper} {w0 : World} {o : Oper} {l : List Oper} {s s1 : VS} {e : Eff} {R : List Eff → VS → Prop} (r : t_K P ops w0 l s1 (fun E s' => R (e :: E) s')) (h : Ev P ops w0 o s e := by first | exact Ev.skip (fun _ => rfl) | exact ev_load rfl (fun _ => rfl) rfl rfl Tryd.underlying50 rfl Tryd.sizeOf50 rfl rfl | exact ev_loadx rfl (fun _ => rfl) rfl Tryd.underlying50 rfl Tryd.sizeOf50 (by assumption) rfl) (hs : s.put o.dst e = s1 := by first | (simp only [nm, seval]; exact rfl) | exact rfl) : t_K P ops w0 (o :: l) s R := t_c h hs r
theorem t_36 {P : Program} {ops : Array Oper} {w0 : World} {o : Oper} {l : List Oper} {s s1 : VS} {e : Eff} {R : List Eff → VS → Prop} (r : t_K P ops w0 l s1 (fun E s' => R (e :: E) s')) (h : Ev P ops w0 o s e := by exact ev_alloc rfl rfl (gn rfl) Tryd.zeroValue70) (hs : s.put o.dst e = s1 := by first | (simp only [nm2, seval]; exact rfl) | exact rfl) : t_K P ops w0 (o :: l) s R := t_c h hs r
theorem t_37 {P : Program} {ops : Array Oper} {w0 : World} {o : Oper} {l : List Oper} {s s1 : VS} {e : Eff} {R : List Eff → VS → Prop} (r : t_K P ops w0 l s1 (fun E s' => R (e :: E) s')) (h : Ev P ops w0 o s e := by first | exact Ev.skip (fun _ => rfl) | exact ev_field rfl (fun _ => rfl) rfl Tryd.underlying70 rfl Tryd.sizeOf50 | exact ev_fieldx rfl (fun _ => rfl) rfl Tryd.underlying70 rfl Tryd.sizeOf50) (hs : s.put o.dst e = s1 := by first | (simp only [nm2, seval]; exact rfl) | exact rfl) : t_K P ops w0 (o :: l) s R := t_c h hs r
theorem t_38 {P : Program} {ops : Array Oper} {w0 : World} {o : Oper} {l : List Oper} {s s1 : VS} {e : Eff} {R : List Eff → VS → Prop} (r : t_K P ops w0 l s1 (fun E s' => R (e :: E) s')) (h : Ev P ops w0 o s e := by first | exact ev_bin rfl (gn rfl) rfl rfl (fun w => n3 _ _ w) | exact ev_bin rfl (gn rfl) rfl rfl (fun w => n2 _ _ w) | exact ev_bin rfl (gn rfl) rfl rfl (fun w => n1 _ _ w) | exact ev_bin rfl (gn rfl) rfl rfl (fun w => n0 _ _ w)) (hs : s.put o.dst e = s1 := by first | (simp only [nm, seval]; exact rfl) | exact rfl) : t_K P ops w0 (o :: l) s R := t_c h hs r
theorem t_39 {P : Program} {ops : Array Oper} {w0 : World} {o : Oper} {l : List Oper} {s s1 : VS} {e : Eff} {R : List Eff → VS → Prop} (r : t_K P ops w0 l s1 (fun E s' => R (e :: E) s')) (h : Ev P ops w0 o s e := by exact ev_call rfl (gn rfl) rfl (en_of Tryd.func48 (by kernel_rfl) rfl) hs) (hs : s.put o.dst e = s1 := by first | (simp only [nm, seval]; exact rfl) | exact rfl) : t_K P ops w0 (o :: l) s R := t_c h hs r
theorem t_40 {P : Program} {ops : Array Oper} {w0 : World} {o : Oper} {l : List Oper} {s s1 : VS} {e : Eff} {R : List Eff → VS → Prop} (r : t_K P ops w0 l s1 (fun E s' => R (e :: E) s')) (h : Ev P ops w0 o s e := by exact ev_load1 rfl (gn rfl) rfl rfl Tryd.underlying48 rfl (hle k hk)) (hs : s.put o.dst e = s1 := by first | (simp only [nm, seval]; exact rfl) | exact rfl) : t_K P ops w0 (o :: l) s R := t_c h hs r
theorem t_41 {P : Program} {ops : Array Oper} {w0 : World} {o : Oper} {l : List Oper} {s s1 : VS} {e : Eff} {R : List Eff → VS → Prop} (r : t_K P ops w0 l s1 (fun E s' => R (e :: E) s')) (h : Ev P ops w0 o s e := by first | exact ev_index rfl (gn rfl) rfl rfl Tryd.underlying23 Tryd.sizeOf5 (by decide) (by decide) | exact ev_indexx rfl (gn rfl) rfl rfl Tryd.underlying23 Tryd.sizeOf5 (by decide) (by decide)) (hs : s.put o.dst e = s1 := by first | (simp only [nm, seval]; exact rfl) | exact rfl) : t_K P ops w0 (o :: l) s R := t_c h hs r
theorem t_42 {P : Program} {ops : Array Oper} {w0 : World} {o : Oper} {l : List Oper} {s s1 : VS} {e : Eff} {R : List Eff → VS → Prop} (r : t_K P ops w0 l s1 (fun E s' => R (e :: E) s')) (h : Ev P ops w0 o s e := by first | exact Ev.skip (fun _ => rfl) | exact ev_geq (p := false) rfl (fun _ => rfl) rfl rfl h1) (hs : s.put o.dst e = s1 := by first | (simp only [nm, seval]; exact rfl) | exact rfl) : t_K P ops w0 (o :: l) s R := t_c h hs r
theorem t_43 {P : Program} {ops : Array Oper} {w0 : World} {o : Oper} {l : List Oper} {s s1 : VS} {e : Eff} {R : List Eff → VS → Prop} (r : t_K P ops w0 l s1 (fun E s' => R (e :: E) s')) (h : Ev P ops w0 o s e := by exact ev_call rfl (gn rfl) rfl (en_of Tryd.func23 (by kernel_rfl) rfl) h2) (hs : s.put o.dst e = s1 := by first | (simp only [nm, seval]; exact rfl) | exact rfl) : t_K P ops w0 (o :: l) s R := t_c h hs r
theorem t_44 {P : Program} {ops : Array Oper} {w0 : World} {o : Oper} {l : List Oper} {s s1 : VS} {e : Eff} {R : List Eff → VS → Prop} (r : t_K P ops w0 l s1 (fun E s' => R (e :: E) s')) (h : Ev P ops w0 o s e := by exact ev_store rfl (gn rfl) rfl rfl rfl Tryd.sizeOf26 rfl (by simp) rfl) (hs : s.put o.dst e = s1 := by first | (simp only [nm2, seval]; exact rfl) | exact rfl) : t_K P ops w0 (o :: l) s R := t_c h hs r
theorem t_45 {P : Program} {ops : Array Oper} {w0 : World} {o : Oper} {l : List Oper} {s s1 : VS} {e : Eff} {R : List Eff → VS → Prop} (r : t_K P ops w0 l s1 (fun E s' => R (e :: E) s')) (h : Ev P ops w0 o s e := by exact ev_bin rfl (gn rfl) rfl rfl (fun w => zeq_f hz _ _ w)) (hs : s.put o.dst e = s1 := by first | (simp only [nm2, seval]; exact rfl) | exact rfl) : t_K P ops w0 (o :: l) s R := t_c h hs r
theorem t_46 {P : Program} {ops : Array Oper} {w0 : World} {o : Oper} {l : List Oper} {s s1 : VS} {e : Eff} {R : List Eff → VS → Prop} (r : t_K P ops w0 l s1 (fun E s' => R (e :: E) s')) (h : Ev P ops w0 o s e := by first | exact ev_load rfl (gn rfl) rfl rfl Tryd.underlying23 rfl Tryd.sizeOf23 rfl rfl | exact ev_loadx rfl (gn rfl) rfl Tryd.underlying23 rfl Tryd.sizeOf23 (by assumption) rfl) (hs : s.put o.dst e = s1 := by first | (simp only [nm, seval]; exact rfl) | exact rfl) : t_K P ops w0 (o :: l) s R := t_c h hs r
theorem t_47 {P : Program} {ops : Array Oper} {w0 : World} {o : Oper} {l : List Oper} {s s1 : VS} {e : Eff} {R : List Eff → VS → Prop} (r : t_K P ops w0 l s1 (fun E s' => R (e :: E) s')) (h : Ev P ops w0 o s e := by first | exact Ev.skip (fun _ => rfl) | refine ev_pure' (fun _ => rfl) (fun ρ w => by simp only [VS.act, SV.c, List.map_cons, List.map_nil]; go_simp; exact rfl) (fun _ _ => rfl)) (hs : s.put o.dst e = s1 := by first | (simp only [nm2, seval]; exact rfl) | exact rfl) : t_K P ops w0 (o :: l) s R := t_c h hs r
theorem t_48 {P : Program} {ops : Array Oper} {w0 : World} {o : Oper} {l : List Oper} {s s1 : VS} {e : Eff} {R : List Eff → VS → Prop} (r : t_K P ops w0 l s1 (fun E s' => R (e :: E) s')) (h : Ev P ops w0 o s e := by exact ev_call rfl (gn rfl) rfl (en_of Tryd.func56 (by kernel_rfl) rfl) (hsq _ _ hk hRn)) (hs : s.put o.dst e = s1 := by first | (simp only [nm, seval]; exact rfl) | exact rfl) : t_K P ops w0 (o :: l) s R := t_c h hs r
theorem t_49 {P : Program} {ops : Array Oper} {w0 : World} {o : Oper} {l : List Oper} {s s1 : VS} {e : Eff} {R : List Eff → VS → Prop} (r : t_K P ops w0 l s1 (fun E s' => R (e :: E) s')) (h : Ev P ops w0 o s e := by exact ev_bin rfl (gn rfl) rfl rfl (fun w => hq _ hk _ _ w)) (hs : s.put o.dst e = s1 := by first | (simp only [nm, seval]; exact rfl) | exact rfl) : t_K P ops w0 (o :: l) s R := t_c h hs r
theorem t_50 {P : Program} {ops : Array Oper} {w0 : World} {o : Oper} {l : List Oper} {s s1 : VS} {e : Eff} {R : List Eff → VS → Prop} (r : t_K P ops w0 l s1 (fun E s' => R (e :: E) s')) (h : Ev P ops w0 o s e := by exact ev_bin rfl (gn rfl) rfl rfl (fun w => hs2b _  _ _ w)) (hs : s.put o.dst e = s1 := by first | (simp only [nm, seval]; exact rfl) | exact rfl) : t_K P ops w0 (o :: l) s R := t_c h hs r
theorem t_51 {P : Program} {ops : Array Oper} {w0 : World} {o : Oper} {l : List Oper} {s s1 : VS} {e : Eff} {R : List Eff → VS → Prop} (r : t_K P ops w0 l s1 (fun E s' => R (e :: E) s')) (h : Ev P ops w0 o s e := by exact ev_bin rfl (gn rfl) rfl rfl (fun w => hsr _  _ _ w)) (hs : s.put o.dst e = s1 := by first | (simp only [nm, seval]; exact rfl) | exact rfl) : t_K P ops w0 (o :: l) s R := t_c h hs r
theorem t_52 {P : Program} {ops : Array Oper} {w0 : World} {o : Oper} {l : List Oper} {s s1 : VS} {e : Eff} {R : List Eff → VS → Prop} (r : t_K P ops w0 l s1 (fun E s' => R (e :: E) s')) (h : Ev P ops w0 o s e := by exact ev_bin rfl (gn rfl) rfl rfl (fun w => hr2 _  _ _ w)) (hs : s.put o.dst e = s1 := by first | (simp only [nm, seval]; exact rfl) | exact rfl) : t_K P ops w0 (o :: l) s R := t_c h hs r
theorem t_53 {P : Program} {ops : Array Oper} {w0 : World} {o : Oper} {l : List Oper} {s s1 : VS} {e : Eff} {R : List Eff → VS → Prop} (r : t_K P ops w0 l s1 (fun E s' => R (e :: E) s')) (h : Ev P ops w0 o s e := by exact ev_bin rfl (gn rfl) rfl rfl (fun w => hr _  _ _ w)) (hs : s.put o.dst e = s1 := by first | (simp only [nm, seval]; exact rfl) | exact rfl) : t_K P ops w0 (o :: l) s R := t_c h hs r
theorem t_54 {P : Program} {ops : Array Oper} {w0 : World} {o : Oper} {l : List Oper} {s s1 : VS} {e : Eff} {R : List Eff → VS → Prop} (r : t_K P ops w0 l s1 (fun E s' => R (e :: E) s')) (h : Ev P ops w0 o s e := by exact ev_call rfl (gn rfl) rfl (en_of Tryd.func43 (by kernel_rfl) rfl) (fun w' hw' => addF _ _ w' (ha.gw hw'))) (hs : s.put o.dst e = s1 := by first | (simp only [nm2, seval]; exact rfl) | exact rfl) : t_K P ops w0 (o :: l) s R := t_c h hs r
theorem t_55 {P : Program} {ops : Array Oper} {w0 : World} {o : Oper} {l : List Oper} {s s1 : VS} {e : Eff} {R : List Eff → VS → Prop} (r : t_K P ops w0 l s1 (fun E s' => R (e :: E) s')) (h : Ev P ops w0 o s e := by exact ev_call rfl (gn rfl) rfl (en_of Tryd.func21 (by kernel_rfl) rfl) (fun w' hw' => mulE e37 w' (ha.gw hw'))) (hs : s.put o.dst e = s1 := by first | (simp only [nm2, seval]; exact rfl) | exact rfl) : t_K P ops w0 (o :: l) s R := t_c h hs r
theorem t_56 {P : Program} {ops : Array Oper} {w0 : World} {o : Oper} {l : List Oper} {s s1 : VS} {e : Eff} {R : List Eff → VS → Prop} (r : t_K P ops w0 l s1 (fun E s' => R (e :: E) s')) (h : Ev P ops w0 o s e := by exact ev_call rfl (gn rfl) rfl (en_of Tryd.func21 (by kernel_rfl) rfl) (fun w' hw' => mulE e44 w' (ha.gw hw'))) (hs : s.put o.dst e = s1 := by first | (simp only [nm2, seval]; exact rfl) | exact rfl) : t_K P ops w0 (o :: l) s R := t_c h hs r
theorem t_57 {P : Program} {ops : Array Oper} {w0 : World} {o : Oper} {l : List Oper} {s s1 : VS} {e : Eff} {R : List Eff → VS → Prop} (r : t_K P ops w0 l s1 (fun E s' => R (e :: E) s')) (h : Ev P ops w0 o s e := by exact ev_call rfl (gn rfl) rfl (en_of Tryd.func21 (by kernel_rfl) rfl) (fun w' hw' => mulE e50 w' (ha.gw hw'))) (hs : s.put o.dst e = s1 := by first | (simp only [nm2, seval]; exact rfl) | exact rfl) : t_K P ops w0 (o :: l) s R := t_c h hs r
theorem t_58 {P : Program} {ops : Array Oper} {w0 : World} {o : Oper} {l : List Oper} {s s1 : VS} {e : Eff} {R : List Eff → VS → Prop} (r : t_K P ops w0 l s1 (fun E s' => R (e :: E) s')) (h : Ev P ops w0 o s e := by exact ev_call rfl (gn rfl) rfl (en_of Tryd.func21 (by kernel_rfl) rfl) (fun w' hw' => mulE e56 w' (ha.gw hw'))) (hs : s.put o.dst e = s1 := by first | (simp only [nm2, seval]; exact rfl) | exact rfl) : t_K P ops w0 (o :: l) s R := t_c h hs r
theorem t_59 {P : Program} {ops : Array Oper} {w0 : World} {o : Oper} {l : List Oper} {s s1 : VS} {e : Eff} {R : List Eff → VS → Prop} (r : t_K P ops w0 l s1 (fun E s' => R (e :: E) s')) (h : Ev P ops w0 o s e := by exact ev_call rfl (gn rfl) rfl (en_of Tryd.func21 (by kernel_rfl) rfl) (fun w' hw' => mulE e66 w' (ha.gw hw'))) (hs : s.put o.dst e = s1 := by first | (simp only [nm2, seval]; exact rfl) | exact rfl) : t_K P ops w0 (o :: l) s R := t_c h hs r
theorem t_60 {P : Program} {ops : Array Oper} {w0 : World} {o : Oper} {l : List Oper} {s s1 : VS} {e : Eff} {R : List Eff → VS → Prop} (r : t_K P ops w0 l s1 (fun E s' => R (e :: E) s')) (h : Ev P ops w0 o s e := by exact ev_call rfl (gn rfl) rfl (en_of Tryd.func21 (by kernel_rfl) rfl) (fun w' hw' => mulE e67 w' (ha.gw hw'))) (hs : s.put o.dst e = s1 := by first | (simp only [nm2, seval]; exact rfl) | exact rfl) : t_K P ops w0 (o :: l) s R := t_c h hs r
theorem t_61 {P : Program} {ops : Array Oper} {w0 : World} {o : Oper} {l : List Oper} {s s1 : VS} {e : Eff} {R : List Eff → VS → Prop} (r : t_K P ops w0 l s1 (fun E s' => R (e :: E) s')) (h : Ev P ops w0 o s e := by exact ev_call rfl (gn rfl) rfl (en_of Tryd.func21 (by kernel_rfl) rfl) (fun w' hw' => mulE e77 w' (ha.gw hw'))) (hs : s.put o.dst e = s1 := by first | (simp only [nm2, seval]; exact rfl) | exact rfl) : t_K P ops w0 (o :: l) s R := t_c h hs r
theorem t_62 {P : Program} {ops : Array Oper} {w0 : World} {o : Oper} {l : List Oper} {s s1 : VS} {e : Eff} {R : List Eff → VS → Prop} (r : t_K P ops w0 l s1 (fun E s' => R (e :: E) s')) (h : Ev P ops w0 o s e := by exact ev_call rfl (gn rfl) rfl (en_of Tryd.func21 (by kernel_rfl) rfl) (fun w' hw' => mulE e78 w' (ha.gw hw'))) (hs : s.put o.dst e = s1 := by first | (simp only [nm2, seval]; exact rfl) | exact rfl) : t_K P ops w0 (o :: l) s R := t_c h hs r
theorem t_63 {P : Program} {ops : Array Oper} {w0 : World} {o : Oper} {l : List Oper} {s s1 : VS} {e : Eff} {R : List Eff → VS → Prop} (r : t_K P ops w0 l s1 (fun E s' => R (e :: E) s')) (h : Ev P ops w0 o s e := by exact ev_call rfl (gn rfl) rfl (en_of Tryd.func44 (by kernel_rfl) rfl) (fun w' hw' => subE e83 w' (ha.gw hw'))) (hs : s.put o.dst e = s1 := by first | (simp only [nm2, seval]; exact rfl) | exact rfl) : t_K P ops w0 (o :: l) s R := t_c h hs r
theorem t_64 {P : Program} {ops : Array Oper} {w0 : World} {o : Oper} {l : List Oper} {s s1 : VS} {e : Eff} {R : List Eff → VS → Prop} (r : t_K P ops w0 l s1 (fun E s' => R (e :: E) s')) (h : Ev P ops w0 o s e := by exact ev_call rfl (gn rfl) rfl (en_of Tryd.func44 (by kernel_rfl) rfl) (fun w' hw' => subE e88 w' (ha.gw hw'))) (hs : s.put o.dst e = s1 := by first | (simp only [nm2, seval]; exact rfl) | exact rfl) : t_K P ops w0 (o :: l) s R := t_c h hs r
theorem t_65 {P : Program} {ops : Array Oper} {w0 : World} {o : Oper} {l : List Oper} {s s1 : VS} {e : Eff} {R : List Eff → VS → Prop} (r : t_K P ops w0 l s1 (fun E s' => R (e :: E) s')) (h : Ev P ops w0 o s e := by exact ev_call rfl (gn rfl) rfl (en_of Tryd.func21 (by kernel_rfl) rfl) (fun w' hw' => mulF _ _ w' (ha.gw hw'))) (hs : s.put o.dst e = s1 := by first | (simp only [nm2, seval]; exact rfl) | exact rfl) : t_K P ops w0 (o :: l) s R := t_c h hs r
theorem t_66 {P : Program} {ops : Array Oper} {w0 : World} {o : Oper} {l : List Oper} {s s1 : VS} {e : Eff} {R : List Eff → VS → Prop} (r : t_K P ops w0 l s1 (fun E s' => R (e :: E) s')) (h : Ev P ops w0 o s e := by exact ev_callp [21] rfl (gn rfl) rfl (en_of Tryd.func59 (by kernel_rfl) rfl) (fun ρ w' hs' => hsh _ _ _ hlt hRn w' (ρ 21) (sees_cells hs' (by simp) rfl 0 _ rfl))) (hs : s.put o.dst e = s1 := by first | (simp only [nm, seval]; exact rfl) | exact rfl) : t_K P ops w0 (o :: l) s R := t_c h hs r
theorem t_67 {P : Program} {ops : Array Oper} {w0 : World} {o : Oper} {l : List Oper} {s s1 : VS} {e : Eff} {R : List Eff → VS → Prop} (r : t_K P ops w0 l s1 (fun E s' => R (e :: E) s')) (h : Ev P ops w0 o s e := by exact ev_loadx rfl (gn rfl) rfl Tryd.underlying50 rfl Tryd.sizeOf50 (hL.pp) rfl) (hs : s.put o.dst e = s1 := by first | (simp only [nm2, seval]; exact rfl) | exact rfl) : t_K P ops w0 (o :: l) s R := t_c h hs r
theorem t_68 {P : Program} {ops : Array Oper} {w0 : World} {o : Oper} {l : List Oper} {s s1 : VS} {e : Eff} {R : List Eff → VS → Prop} (r : t_K P ops w0 l s1 (fun E s' => R (e :: E) s')) (h : Ev P ops w0 o s e := by exact ev_bin rfl (gn rfl) rfl rfl (fun w => (hnz _ _ _ w).trans (by rw [hz]))) (hs : s.put o.dst e = s1 := by first | (simp only [nm, seval]; exact rfl) | exact rfl) : t_K P ops w0 (o :: l) s R := t_c h hs r
theorem t_69 {P : Program} {ops : Array Oper} {w0 : World} {o : Oper} {l : List Oper} {s s1 : VS} {e : Eff} {R : List Eff → VS → Prop} (r : t_K P ops w0 l s1 (fun E s' => R (e :: E) s')) (h : Ev P ops w0 o s e := by exact ev_geq (p := true) rfl (gn rfl) rfl rfl hge) (hs : s.put o.dst e = s1 := by first | (simp only [nm, seval]; exact rfl) | exact rfl) : t_K P ops w0 (o :: l) s R := t_c h hs r
theorem t_70 {P : Program} {ops : Array Oper} {w0 : World} {o : Oper} {l : List Oper} {s s1 : VS} {e : Eff} {R : List Eff → VS → Prop} (r : t_K P ops w0 l s1 (fun E s' => R (e :: E) s')) (h : Ev P ops w0 o s e := by exact ev_call rfl (gn rfl) rfl (en_of Tryd.func23 (by kernel_rfl) rfl) h1) (hs : s.put o.dst e = s1 := by first | (simp only [nm, seval]; exact rfl) | exact rfl) : t_K P ops w0 (o :: l) s R := t_c h hs r
theorem t_71 {P : Program} {ops : Array Oper} {w0 : World} {o : Oper} {l : List Oper} {s s1 : VS} {e : Eff} {R : List Eff → VS → Prop} (r : t_K P ops w0 l s1 (fun E s' => R (e :: E) s')) (h : Ev P ops w0 o s e := by exact ev_call rfl (gn rfl) rfl (en_of Tryd.func55 (by kernel_rfl) rfl) h3) (hs : s.put o.dst e = s1 := by first | (simp only [nm, seval]; exact rfl) | exact rfl) : t_K P ops w0 (o :: l) s R := t_c h hs r
theorem t_72 {P : Program} {ops : Array Oper} {w0 : World} {o : Oper} {l : List Oper} {s s1 : VS} {e : Eff} {R : List Eff → VS → Prop} (r : t_K P ops w0 l s1 (fun E s' => R (e :: E) s')) (h : Ev P ops w0 o s e := by first | exact Ev.skip (fun _ => rfl) | exact ev_build rfl (fun _ => rfl) rfl (built59_0)) (hs : s.put o.dst e = s1 := by first | (simp only [nm2, seval]; exact rfl) | exact rfl) : t_K P ops w0 (o :: l) s R := t_c h hs r
theorem t_73 {P : Program} {ops : Array Oper} {w0 : World} {o : Oper} {l : List Oper} {s s1 : VS} {e : Eff} {R : List Eff → VS → Prop} (r : t_K P ops w0 l s1 (fun E s' => R (e :: E) s')) (h : Ev P ops w0 o s e := by exact ev_eql (p := false) rfl (gn rfl) rfl rfl he) (hs : s.put o.dst e = s1 := by first | (simp only [nm, seval]; exact rfl) | exact rfl) : t_K P ops w0 (o :: l) s R := t_c h hs r
theorem t_74 {P : Program} {ops : Array Oper} {w0 : World} {o : Oper} {l : List Oper} {s s1 : VS} {e : Eff} {R : List Eff → VS → Prop} (r : t_K P ops w0 l s1 (fun E s' => R (e :: E) s')) (h : Ev P ops w0 o s e := by exact ev_lss (p := false) rfl (gn rfl) rfl rfl h0) (hs : s.put o.dst e = s1 := by first | (simp only [nm, seval]; exact rfl) | exact rfl) : t_K P ops w0 (o :: l) s R := t_c h hs r
theorem t_75 {P : Program} {ops : Array Oper} {w0 : World} {o : Oper} {l : List Oper} {s s1 : VS} {e : Eff} {R : List Eff → VS → Prop} (r : t_K P ops w0 l s1 (fun E s' => R (e :: E) s')) (h : Ev P ops w0 o s e := by exact ev_alloc rfl rfl (gn rfl) Tryd.zeroValue26) (hs : s.put o.dst e = s1 := by first | (simp only [nm2, seval]; exact rfl) | exact rfl) : t_K P ops w0 (o :: l) s R := t_c h hs r
theorem t_76 {P : Program} {ops : Array Oper} {w0 : World} {o : Oper} {l : List Oper} {s s1 : VS} {e : Eff} {R : List Eff → VS → Prop} (r : t_K P ops w0 l s1 (fun E s' => R (e :: E) s')) (h : Ev P ops w0 o s e := by exact ev_sub rfl (gn rfl) rfl rfl hdn) (hs : s.put o.dst e = s1 := by first | (simp only [nm, seval]; exact rfl) | exact rfl) : t_K P ops w0 (o :: l) s R := t_c h hs r
theorem t_77 {P : Program} {ops : Array Oper} {w0 : World} {o : Oper} {l : List Oper} {s s1 : VS} {e : Eff} {R : List Eff → VS → Prop} (r : t_K P ops w0 l s1 (fun E s' => R (e :: E) s')) (h : Ev P ops w0 o s e := by exact ev_bin rfl (gn rfl) rfl rfl (fun w => hq  _ _ w)) (hs : s.put o.dst e = s1 := by first | (simp only [nm, seval]; exact rfl) | exact rfl) : t_K P ops w0 (o :: l) s R := t_c h hs r
theorem t_78 {P : Program} {ops : Array Oper} {w0 : World} {o : Oper} {l : List Oper} {s s1 : VS} {e : Eff} {R : List Eff → VS → Prop} (r : t_K P ops w0 l s1 (fun E s' => R (e :: E) s')) (h : Ev P ops w0 o s e := by exact ev_bin rfl (gn rfl) rfl rfl (fun w => hr  _ _ w)) (hs : s.put o.dst e = s1 := by first | (simp only [nm, seval]; exact rfl) | exact rfl) : t_K P ops w0 (o :: l) s R := t_c h hs r
theorem t_79 {P : Program} {ops : Array Oper} {w0 : World} {o : Oper} {l : List Oper} {s s1 : VS} {e : Eff} {R : List Eff → VS → Prop} (r : t_K P ops w0 l s1 (fun E s' => R (e :: E) s')) (h : Ev P ops w0 o s e := by exact ev_bin rfl (gn rfl) rfl rfl (fun w => hs  _ _ w)) (hs : s.put o.dst e = s1 := by first | (simp only [nm, seval]; exact rfl) | exact rfl) : t_K P ops w0 (o :: l) s R := t_c h hs r
theorem t_80 {P : Program} {ops : Array Oper} {w0 : World} {o : Oper} {l : List Oper} {s s1 : VS} {e : Eff} {R : List Eff → VS → Prop} (r : t_K P ops w0 l s1 (fun E s' => R (e :: E) s')) (h : Ev P ops w0 o s e := by exact ev_bin rfl (gn rfl) rfl rfl (fun w => ha  _ _ w)) (hs : s.put o.dst e = s1 := by first | (simp only [nm, seval]; exact rfl) | exact rfl) : t_K P ops w0 (o :: l) s R := t_c h hs r
theorem t_k {P Q : Prop} (h : Q) (c : Q → P := by
  intro h'q
  first
  | (refine t_s (by first | exact ev_move rfl (gn rfl) | exact ev_assign rfl (gn rfl) | exact ev_box rfl rfl (gn rfl) rfl | exact ev_extract rfl (gn rfl) rfl rfl | exact ev_nil rfl (gn rfl) rfl | exact ev_nilx rfl (gn rfl) rfl) ?_; exact h'q)
  | (refine t_n ⟨by kernel_rfl, ?_⟩; (try change VOk _ _ _ _ _); exact h'q)
  | (refine vseq ?_; exact h'q)
  | (refine t_p ?_; exact h'q)
  | (refine t_d (by kernel_rfl) ?_; exact h'q)
  | (refine vskip ?_; (try change VOk _ _ _ _ _); exact h'q)
  | (refine vblock ?_; exact h'q)
  | (refine vcond_t rfl ?_; exact h'q)
  | (refine vcond_f rfl ?_; exact h'q)) : P := c h
theorem t_k2 {P Q : Prop} (h : Q) (c : Q → P := by
  intro h'q
  first
  | (refine t_s2 (by first | exact ev_move rfl (gn rfl) | exact ev_assign rfl (gn rfl) | exact ev_box rfl rfl (gn rfl) rfl | exact ev_extract rfl (gn rfl) rfl rfl | exact ev_pick_t rfl (gn rfl) rfl rfl | exact ev_pick_f rfl (gn rfl) rfl rfl | exact ev_not rfl (gn rfl) rfl) ?_; exact h'q)
  | (refine t_n ⟨by kernel_rfl, ?_⟩; (try change VOk _ _ _ _ _); exact h'q)
  | (refine vseq ?_; exact h'q)
  | (refine t_p ?_; exact h'q)
  | (refine t_d (by kernel_rfl) ?_; exact h'q)
  | (refine vskip ?_; (try change VOk _ _ _ _ _); exact h'q)
  | (refine vblock ?_; exact h'q)
  | (refine vcond_t rfl ?_; exact h'q)
  | (refine vcond_f rfl ?_; exact h'q)) : P := c h
theorem t_k3 {P Q : Prop} (h : Q) (c : Q → P := by
  intro h'q
  first
  | (refine t_s3 (by first | exact ev_move rfl (gn rfl) | exact ev_assign rfl (gn rfl) | exact ev_box rfl rfl (gn rfl) rfl) ?_; exact h'q)
  | (refine t_n ⟨by kernel_rfl, ?_⟩; (try change VOk _ _ _ _ _); exact h'q)
  | (refine vseq ?_; exact h'q)
  | (refine t_p ?_; exact h'q)
  | (refine t_d (by kernel_rfl) ?_; exact h'q)
  | (refine vskip ?_; (try change VOk _ _ _ _ _); exact h'q)
  | (refine vblock ?_; exact h'q)
  | (refine vcond_t rfl ?_; exact h'q)
  | (refine vcond_f rfl ?_; exact h'q)) : P := c h
end Go.Proofs.YtafbhakmkbehiaaDoor
end
