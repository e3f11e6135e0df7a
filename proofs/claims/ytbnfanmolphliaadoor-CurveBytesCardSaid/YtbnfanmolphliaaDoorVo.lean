import Derived.Test.YtbnfanmolphliaaDoorVe
import Derived.Laws.CopyRow
/-! Code over states; what single operations make. -/
namespace Go.Toll
open Go.RowKit

section
variable {P : Program} {w0 : World}
def SeqQ (P : Program) (w0 : World) (d : Code) (Q : Exit → VS → Prop) : Exit → VS → Prop
  | .normal, s => VOk P w0 s d Q
  | e, s => Q e s
theorem vseq {c d : Code} {s : VS} {Q : Exit → VS → Prop} (h : VOk P w0 s c (SeqQ P w0 d Q)) : VOk P w0 s (.seq c d) Q := by
  intro ρ w R hr hQ
  refine wp_seq (h ρ w _ hr ?_)
  intro e ρ' s' w' hq hr'
  cases e with
  | normal => exact hq ρ' w' R hr' hQ
  | _ => exact hQ _ _ _ _ hq hr'
def BlockQ (id : Nat) (Q : Exit → VS → Prop) : Exit → VS → Prop
  | .exit k, s => if k = id then Q .normal s else Q (.exit k) s
  | e, s => Q e s
theorem vblock {id : Nat} {c : Code} {s : VS} {Q : Exit → VS → Prop} (h : VOk P w0 s c (BlockQ id Q)) : VOk P w0 s (.block id c) Q := by
  intro ρ w R hr hQ
  refine wp_block (h ρ w _ hr ?_)
  intro e ρ' s' w' hq hr'
  cases e with
  | exit k =>
    simp only [BlockQ] at hq
    simp only [Exit.inBlock]
    split
    · rename_i hk; rw [if_pos hk] at hq; exact hQ _ _ _ _ hq hr'
    · rename_i hk; rw [if_neg hk] at hq; exact hQ _ _ _ _ hq hr'
  | _ => exact hQ _ _ _ _ hq hr'
theorem vskip {s : VS} {Q : Exit → VS → Prop} (h : Q .normal s) : VOk P w0 s .skip Q := fun _ _ _ hr hQ => wp_skip (hQ _ _ _ _ h hr)
theorem vret {s : VS} {Q : Exit → VS → Prop} (h : Q .ret s) : VOk P w0 s .ret Q := fun _ _ _ hr hQ => wp_ret (hQ _ _ _ _ h hr)
theorem vexit {id : Nat} {s : VS} {Q : Exit → VS → Prop} (h : Q (.exit id) s) : VOk P w0 s (.exit id) Q := fun _ _ _ hr hQ => wp_exit (hQ _ _ _ _ h hr)
theorem vcond {x : Operand} {b : Bool} {c d : Code} {s : VS} {Q : Exit → VS → Prop} (hx : svEval s x = .v (.bool b)) (h : VOk P w0 s (if b then c else d) Q) : VOk P w0 s (.cond x c d) Q :=
  fun ρ w R hr hQ => wp_cond (by rw [svEval_c, hx]; rfl) (h ρ w R hr hQ)
theorem vcond_t {x : Operand} {c d : Code} {s : VS} {Q : Exit → VS → Prop} (hx : svEval s x = .v (.bool true)) (h : VOk P w0 s c Q) : VOk P w0 s (.cond x c d) Q := vcond hx h
theorem vcond_f {x : Operand} {c d : Code} {s : VS} {Q : Exit → VS → Prop} (hx : svEval s x = .v (.bool false)) (h : VOk P w0 s d Q) : VOk P w0 s (.cond x c d) Q := vcond hx h
theorem vregD {id : Nat} {l : List Oper} {E : List Eff} {s s' : VS} {Q : Exit → VS → Prop} (hm : P.follows .mixedOrders = true) (h : VE P l.toArray w0 l E s s') (hB : veB l.toArray l E = true)
    (hfr : ∀ e ∈ E, ∀ id, e.mw.newId = some id → Fresh id s) (hQ : Q .normal s') : VOk P w0 s (.region id l.toArray true) Q :=
  fun _ _ _ hr hR => ve_region hm h hB hfr (fun _ _ hr' => hR _ _ _ _ hQ hr') hr
theorem vregP {id : Nat} {l : List Oper} {E : List Eff} {s s' : VS} {Q : Exit → VS → Prop} (h : VE P l.toArray w0 l E s s') (hsel : l.all (fun o => !isSelect o.op) = true) (hB : plainB E = true)
    (hfr : ∀ e ∈ E, ∀ id, e.mw.newId = some id → Fresh id s) (hQ : Q .normal s') : VOk P w0 s (.region id l.toArray false) Q :=
  fun _ _ _ hr hR => ve_plain h hsel hB hfr (fun _ _ hr' => hR _ _ _ _ hQ hr') hr
/-- so many rounds. -/
def VRounds (P : Program) (w0 : World) (c : Code) (Q : Exit → VS → Prop) : Nat → VS → Prop
  | 0, _ => False
  | n + 1, s => VOk P w0 s c fun e s' => match e with | .normal => VRounds P w0 c Q n s' | e => Q e s'
theorem vloop {c : Code} {s : VS} {Q : Exit → VS → Prop} (n : Nat) (h : VRounds P w0 c Q n s) : VOk P w0 s (.loop c) Q := by
  intro ρ w R hr hQ
  refine wp_loop_rounds n ?_
  induction n generalizing s ρ w with
  | zero => exact h.elim
  | succ n ih =>
    rw [rounds_succ]
    refine h ρ w _ hr ?_
    intro e ρ' s' w' hq hr'
    cases e with
    | normal => exact ih hq ρ' w' hr'
    | _ => exact hQ _ _ _ _ hq hr'
/-- a loop whose every round lowers a number. -/
theorem vloop_inv {c : Code} {Q : Exit → VS → Prop} (I : Nat → VS → Prop) (step : ∀ n s, I n s → VOk P w0 s c fun e s' => match e with | .normal => ∃ m, m < n ∧ I m s' | e => Q e s')
    {s : VS} (n : Nat) (h : I n s) : VOk P w0 s (.loop c) Q := by
  refine vloop (n + 1) ?_
  have key : ∀ N n s, n ≤ N → I n s → VRounds P w0 c Q (N + 1) s := by
    intro N
    induction N with
    | zero =>
      intro n s hn hI ρ w R hr hQ
      refine step n s hI ρ w R hr ?_
      intro e ρ' s' w' hq hr'
      cases e with
      | normal => obtain ⟨m, hm, _⟩ := hq; omega
      | _ => exact hQ _ _ _ _ hq hr'
    | succ N ih =>
      intro n s hn hI ρ w R hr hQ
      refine step n s hI ρ w R hr ?_
      intro e ρ' s' w' hq hr'
      cases e with
      | normal => obtain ⟨m, hm, hI'⟩ := hq; exact hQ _ _ _ _ (ih m s' (by omega) hI') hr'
      | _ => exact hQ _ _ _ _ hq hr'
  exact key n n s (Nat.le_refl _) h
theorem ve_start {c : Code} {l : List Value} {w : World} {R : Exit → Act → World → Prop} (Q : Exit → VS → Prop) (h : VOk P w ⟨l.map .v, fun _ => none⟩ c Q)
    (hQ : ∀ e ρ s' w', Q e s' → Rel w ρ s' w' → R e (s'.act ρ) w') : c.wp P R ⟨l.toArray, []⟩ w := by
  have h1 : (⟨l.toArray, []⟩ : Act) = (⟨l.map .v, fun _ => none⟩ : VS).act (fun _ => 0) := by
    simp [VS.act, SV.c, Function.comp_def]
  rw [h1]
  exact h _ w R ⟨Gw.refl w, fun _ _ hh => (by cases hh), fun _ _ hh => (by cases hh)⟩ hQ

/-! ### single operations -/
variable {ops : Array Oper} {o : Oper} {s : VS}
theorem wanted_none (hg : o.guard = none) (t : Array Value) : Region.wanted o (yielded ops t) = true := by simp [Region.wanted, hg]
theorem ev_move {x : Operand} (ho : o.op = .move x) (hgd : ∀ ρ, Region.wanted o (yielded ops (s.act ρ).tmps) = true) : Ev P ops w0 o s ⟨svEval s x, .none, []⟩ :=
  .run _ _ hgd fun ρ w _ => by simp only [execOp, ho]; rw [svEval_c]; rfl
theorem ev_assign {x : Operand} (ho : o.op = .assign x) (hgd : ∀ ρ, Region.wanted o (yielded ops (s.act ρ).tmps) = true) : Ev P ops w0 o s ⟨svEval s x, .none, []⟩ :=
  .run _ _ hgd fun ρ w _ => by simp only [execOp, ho]; rw [svEval_c]; rfl
/-- what reads no memory and makes none. -/
theorem ev_pure (v : Value) (hgd : ∀ ρ, Region.wanted o (yielded ops (s.act ρ).tmps) = true) (h : ∀ ρ w, (execOp (s.act ρ).eval o).run P w = .ok (.value v) w) : Ev P ops w0 o s ⟨.v v, .none, []⟩ :=
  .run _ _ hgd fun ρ w _ => h ρ w
theorem ev_pure' {v : Value} {r : (Nat → Nat) → World → Result Next} (hgd : ∀ ρ, Region.wanted o (yielded ops (s.act ρ).tmps) = true) (h : ∀ ρ w, (execOp (s.act ρ).eval o).run P w = r ρ w) (h2 : ∀ ρ w, r ρ w = .ok (.value v) w) : Ev P ops w0 o s ⟨.v v, .none, []⟩ :=
  ev_pure v hgd fun ρ w => (h ρ w).trans (h2 ρ w)
theorem ev_alloc {ty : TypeId} {z : Value} {id : Nat} (_hd : o.dst = some id) (ho : o.op = .alloc ty) (hgd : ∀ ρ, Region.wanted o (yielded ops (s.act ρ).tmps) = true) (hz : ∀ w, (zeroValue ty).run P w = .ok z w) :
    Ev P ops w0 o s ⟨.p id 0, .new id (z.cells.toList.map .v, ty), []⟩ :=
  .new id _ hgd (by simp [SV.has]) fun ρ w _ => by
    simp [execOp, ho, Instr.alloc, newVar, newRow, newObj, Sem.run_bind, hz, Result.andThen, cellsOf, Function.comp_def, SV.c]
    rfl
theorem ev_box {ty : TypeId} {x : Operand} {v : Value} {id : Nat} (_hd : o.dst = some id) (ho : o.op = .box ty x) (hgd : ∀ ρ, Region.wanted o (yielded ops (s.act ρ).tmps) = true) (hx : svEval s x = .v v) :
    Ev P ops w0 o s ⟨.p id 0, .new id (v.cells.toList.map .v, ty), []⟩ :=
  .new id _ hgd (by simp [SV.has]) fun ρ w _ => by
    have h1 := svEval_c s ρ x
    rw [hx] at h1
    simp [execOp, ho, h1, Instr.box, newVar, newRow, newObj, Result.andThen, cellsOf, Function.comp_def, SV.c]
    rfl

/-- what a type says of its cells. -/
def isAggD : TypeDesc → Bool
  | .struct _ => true
  | .array _ _ => true
  | _ => false
theorem run_isAgg {t : TypeId} {d : TypeDesc} (hu : P.underlying t = some d) (w : World) : (isAgg t).run P w = .ok (isAggD d) w := by
  unfold isAgg
  rw [Sem.run_bind, run_underlying hu w]
  cases d <;> simp [isAggD, Result.andThen]
theorem add_at (g off j : Nat) : (⟨g, off, none⟩ : Addr).add j = ⟨g, off + j, none⟩ := by unfold Addr.add; split <;> simp_all

def unV : List SV → Option (List Value)
  | [] => some []
  | .v x :: l => match unV l with | some r => some (x :: r) | none => none
  | .p _ _ :: _ => none
  | .s _ _ _ _ :: _ => none
  | .tp _ _ _ :: _ => none
  | .ap _ _ :: _ => none
theorem unV_eq : ∀ {l : List SV} {r : List Value}, unV l = some r → l = r.map .v
  | [], r, h => by simp [unV] at h; subst h; rfl
  | .v x :: l, r, h => by
    simp only [unV] at h
    cases hl : unV l with
    | none => rw [hl] at h; cases h
    | some q => rw [hl] at h; simp only [Option.some.injEq] at h; subst h; rw [unV_eq hl]; rfl
  | .p _ _ :: _, _, h => by simp [unV] at h
  | .s _ _ _ _ :: _, _, h => by simp [unV] at h
  | .tp _ _ _ :: _, _, h => by simp [unV] at h
  | .ap _ _ :: _, _, h => by simp [unV] at h
/-- a load of an array or struct that lies in a block of the call's own. -/
theorem ev_load {ty : TypeId} {x : Operand} {id off n : Nat} {b : Blk} {d : TypeDesc} {vs : List Value} (ho : o.op = .load ty x) (hgd : ∀ ρ, Region.wanted o (yielded ops (s.act ρ).tmps) = true) (hx : svEval s x = .p id off) (hm : s.mem id = some b)
    (hu : P.underlying ty = some d) (hd : isAggD d = true) (hs : ∀ w, (Go.sizeOf ty).run P w = .ok n w) (hv0 : unV ((b.1.drop off).take n) = some vs) (hl : vs.length = n) : Ev P ops w0 o s ⟨.v (.agg vs.toArray), .none, [id]⟩ :=
  .run _ _ hgd fun ρ w hw => by
    have h1 := svEval_c s ρ x
    rw [hx] at h1
    obtain ⟨_, hb⟩ := hw.2 id b (by simp) hm
    have hv := unV_eq hv0
    have hl' : (loadCells ⟨ρ id, off, none⟩ vs.length).run P w = .ok vs.toArray w := run_loadCells_list w _ vs fun j v hj => by
      rw [add_at]
      simp only [World.cell?, hb, cellsOf]
      have h2 : ((b.1.drop off).take n)[j]? = some (.v v) := by rw [hv]; simp [hj]
      have h3 : b.1[off + j]? = some (.v v) := by
        rw [List.getElem?_take] at h2
        split at h2
        · rwa [List.getElem?_drop] at h2
        · cases h2
      simp [h3, SV.c]
    rw [hl] at hl'
    simp [execOp, ho, h1, SV.c, Instr.loadAt, Instr.sureAddr, loadVar, run_isAgg hu, hd, hs, hl']
/-- a load of one cell that lies in a block of the call's own. -/
theorem ev_load1 {ty : TypeId} {x : Operand} {id off : Nat} {b : Blk} {d : TypeDesc} {v : Value} (ho : o.op = .load ty x) (hgd : ∀ ρ, Region.wanted o (yielded ops (s.act ρ).tmps) = true) (hx : svEval s x = .p id off) (hm : s.mem id = some b)
    (hu : P.underlying ty = some d) (hd : isAggD d = false) (hv : b.1[off]? = some (.v v)) : Ev P ops w0 o s ⟨.v v, .none, [id]⟩ :=
  .run _ _ hgd fun ρ w hw => by
    have h1 := svEval_c s ρ x
    rw [hx] at h1
    obtain ⟨_, hb⟩ := hw.2 id b (by simp) hm
    have hc : w.cell? ⟨ρ id, off, none⟩ = some v := by simp [World.cell?, hb, cellsOf, hv, SV.c]
    simp [execOp, ho, h1, SV.c, Instr.loadAt, Instr.sureAddr, loadVar, run_isAgg hu, hd, hc]
/-- a load of an array or struct that was there before. -/
theorem ev_loadx {ty : TypeId} {x : Operand} {g off n : Nat} {d : TypeDesc} {vs : List Value} (ho : o.op = .load ty x) (hgd : ∀ ρ, Region.wanted o (yielded ops (s.act ρ).tmps) = true) (hx : svEval s x = .v (.pointer (some ⟨g, off, none⟩)))
    (hu : P.underlying ty = some d) (hd : isAggD d = true) (hs : ∀ w, (Go.sizeOf ty).run P w = .ok n w) (hc : ∀ j v, vs[j]? = some v → w0.cell? ⟨g, off + j, none⟩ = some v) (hl : vs.length = n) : Ev P ops w0 o s ⟨.v (.agg vs.toArray), .none, []⟩ :=
  .run _ _ hgd fun ρ w hw => by
    have h1 := svEval_c s ρ x
    rw [hx] at h1
    have hl' : (loadCells ⟨g, off, none⟩ vs.length).run P w = .ok vs.toArray w := run_loadCells_list w _ vs fun j v hj => by
      rw [add_at]; exact hw.1.cell (hc j v hj)
    rw [hl] at hl'
    simp [execOp, ho, h1, SV.c, Instr.loadAt, Instr.sureAddr, loadVar, run_isAgg hu, hd, hs, hl']
theorem ev_loadx1 {ty : TypeId} {x : Operand} {a : Addr} {d : TypeDesc} {v : Value} (ho : o.op = .load ty x) (hgd : ∀ ρ, Region.wanted o (yielded ops (s.act ρ).tmps) = true) (hx : svEval s x = .v (.pointer (some a)))
    (hu : P.underlying ty = some d) (hd : isAggD d = false) (hc : w0.cell? a = some v) : Ev P ops w0 o s ⟨.v v, .none, []⟩ :=
  .run _ _ hgd fun ρ w hw => by
    have h1 := svEval_c s ρ x
    rw [hx] at h1
    simp [execOp, ho, h1, SV.c, Instr.loadAt, Instr.sureAddr, loadVar, run_isAgg hu, hd, hw.1.cell hc]

/-- a store into a block of the call's own. -/
theorem ev_store {ty : TypeId} {x y : Operand} {id off n : Nat} {b : Blk} {v : Value} (ho : o.op = .store ty x y) (hgd : ∀ ρ, Region.wanted o (yielded ops (s.act ρ).tmps) = true) (hx : svEval s x = .p id off) (hm : s.mem id = some b) (hy : svEval s y = .v v)
    (hs : ∀ w, (Go.sizeOf ty).run P w = .ok n w) (hn : v.cells.size = n) (hfit : off + n ≤ b.1.length) (h1 : v.cells.toList.all (·.oneCell') = true) :
    Ev P ops w0 o s ⟨.v undef, .wr id (b.1.take off ++ v.cells.toList.map .v ++ b.1.drop (off + n), b.2), [id]⟩ :=
  .wr id _ hgd (by rw [hm]; rfl) fun ρ w hw => by
    have e1 := svEval_c s ρ x
    rw [hx] at e1
    have e2 := svEval_c s ρ y
    rw [hy] at e2
    obtain ⟨_, hb⟩ := hw.2 id b (by simp) hm
    have hst := run_storeCells_at P (ρ id) off b.2 v.cells.toList 0 (b.1.map (SV.c ρ)).toArray w hb (by simp; omega) (fun u hu => List.all_eq_true.1 h1 u hu)
    refine ⟨w.setRow (ρ id) ((b.1.map (SV.c ρ)).toArray.toList.take (off + 0) ++ v.cells.toList ++ (b.1.map (SV.c ρ)).toArray.toList.drop (off + 0 + v.cells.toList.length)).toArray, ?_, ?_, ?_⟩
    · simp only [execOp, ho, e1, e2, SV.c, Instr.storeAt, Instr.sureAddr, storeVar]
      rw [Sem.run_bind, Sem.run_bind, Sem.run_pure, Result.andThen_ok, Sem.run_bind, hs, Result.andThen_ok, if_neg (by rw [hn]; simp), hst]
      rfl
    · exact ⟨rfl, rfl, rfl, by simp, fun k hk => setRow_other w _ k _ hk, fun a => by
        by_cases ha : a.block = ρ id
        · simp [World.frozen?, ha, hb, cellsOf, setRow_heap w (ρ id) _ _ _ _ hb]
        · simp [World.frozen?, setRow_other w (ρ id) a.block _ ha]⟩
    · rw [setRow_heap w (ρ id) _ _ _ _ hb]
      simp [cellsOf, Function.comp_def, SV.c, hn, List.map_take, List.map_drop]

/-- the memory, written out. -/
def memOf : List (Nat × Blk) → Nat → Option Blk
  | [] => fun _ => none
  | (id, b) :: l => fun k => if k = id then some b else memOf l k
def memSet : List (Nat × Blk) → Nat → Blk → List (Nat × Blk)
  | [], id, b => [(id, b)]
  | (k, c) :: l, id, b => if k = id then (id, b) :: l else (k, c) :: memSet l id b
theorem memOf_set (l : List (Nat × Blk)) (id : Nat) (b : Blk) : memOf (memSet l id b) = memPut (memOf l) (.wr id b) := by
  induction l with
  | nil => rfl
  | cons x l ih =>
    obtain ⟨k, c⟩ := x
    funext j
    simp only [memSet]
    split
    · rename_i h; subst h
      simp only [memOf, memPut]; split <;> rfl
    · rename_i h
      simp only [memOf, ih, memPut]
      split
      · rename_i h2; subst h2; rw [if_neg h]
      · rfl
theorem put_n (fr : List SV) (m : Nat → Option Blk) (d : Option Nat) (x : SV) (rd : List Nat) : (⟨fr, m⟩ : VS).put d ⟨x, .none, rd⟩ = ⟨frPut fr d x, m⟩ := rfl
theorem put_new (fr : List SV) (l : List (Nat × Blk)) (d : Option Nat) (x : SV) (rd : List Nat) (id : Nat) (b : Blk) : (⟨fr, memOf l⟩ : VS).put d ⟨x, .new id b, rd⟩ = ⟨frPut fr d x, memOf ((id, b) :: l)⟩ := rfl
theorem put_wr (fr : List SV) (l : List (Nat × Blk)) (d : Option Nat) (x : SV) (rd : List Nat) (id : Nat) (b : Blk) : (⟨fr, memOf l⟩ : VS).put d ⟨x, .wr id b, rd⟩ = ⟨frPut fr d x, memOf (memSet l id b)⟩ := by
  simp only [VS.put, memOf_set]
theorem frPut_some (fr : List SV) (d : Nat) (x : SV) : frPut fr (some d) x = fr.set d x := rfl
theorem frPut_none (fr : List SV) (x : SV) : frPut fr none x = fr := rfl
theorem i64w {x : Int} (h0 : -9223372036854775808 ≤ x) (h1 : x ≤ 9223372036854775807) : IntKind.i64.wrap x = x := IntWalk.i64_in x (by omega)
/-- nothing bears the name. -/
def freshB (fr : List SV) (l : List (Nat × Blk)) (id : Nat) : Bool := fr.all (fun x => !x.has id) && l.all (fun x => x.1 != id && !x.2.1.any (SV.has id))
theorem fresh_of {fr : List SV} {l : List (Nat × Blk)} {id : Nat} (h : freshB fr l id = true) : Fresh id ⟨fr, memOf l⟩ := by
  simp only [freshB, Bool.and_eq_true] at h
  obtain ⟨h1, h2⟩ := h
  refine ⟨?_, fun x hx => by have := List.all_eq_true.1 h1 x hx; simpa using this, ?_⟩
  · simp only
    clear h1
    induction l with
    | nil => rfl
    | cons x l ih =>
      obtain ⟨k, c⟩ := x
      simp only [List.all_cons, Bool.and_eq_true] at h2
      simp only [memOf]
      rw [if_neg (by have := h2.1.1; intro e; rw [e] at this; simp at this)]
      exact ih h2.2
  · simp only
    clear h1
    induction l with
    | nil => intro k b hb; cases hb
    | cons x l ih =>
      obtain ⟨k, c⟩ := x
      simp only [List.all_cons, Bool.and_eq_true] at h2
      intro j b hb
      simp only [memOf] at hb
      split at hb
      · injection hb with hb; subst hb; have := h2.1.2; simpa using this
      · exact ih h2.2 j b hb
/-- all names that a region makes are new. -/
def freshAll (fr : List SV) (l : List (Nat × Blk)) (E : List Eff) : Bool := E.all fun e => match e.mw.newId with | some id => freshB fr l id | none => true
theorem fresh_all {fr : List SV} {l : List (Nat × Blk)} {E : List Eff} (h : freshAll fr l E = true) : ∀ e ∈ E, ∀ id, e.mw.newId = some id → Fresh id ⟨fr, memOf l⟩ := by
  intro e he id hid
  have := List.all_eq_true.1 h e he
  simp only [hid] at this
  exact fresh_of this
theorem vrd {id : Nat} {l : List Oper} {E : List Eff} {fr : List SV} {m : List (Nat × Blk)} {s' : VS} {Q : Exit → VS → Prop} (hm : P.follows .mixedOrders = true) (h : VE P l.toArray w0 l E ⟨fr, memOf m⟩ s')
    (hB : (veB l.toArray l E && freshAll fr m E) = true) (hQ : Q .normal s') : VOk P w0 ⟨fr, memOf m⟩ (.region id l.toArray true) Q := by
  rw [Bool.and_eq_true] at hB
  exact vregD hm h hB.1 (fresh_all hB.2) hQ
theorem vrp {id : Nat} {l : List Oper} {E : List Eff} {fr : List SV} {m : List (Nat × Blk)} {s' : VS} {Q : Exit → VS → Prop} (h : VE P l.toArray w0 l E ⟨fr, memOf m⟩ s')
    (hB : (l.all (fun o => !isSelect o.op) && plainB E && freshAll fr m E) = true) (hQ : Q .normal s') : VOk P w0 ⟨fr, memOf m⟩ (.region id l.toArray false) Q := by
  simp only [Bool.and_eq_true] at hB
  exact vregP h hB.1.1 hB.1.2 (fresh_all hB.2) hQ
theorem ve_go {c : Code} {l : List Value} {w : World} {R : Exit → Act → World → Prop} (h : VOk P w ⟨l.map .v, memOf []⟩ c fun e s' => ∀ ρ w', Rel w ρ s' w' → R e (s'.act ρ) w') : c.wp P R ⟨l.toArray, []⟩ w :=
  ve_start _ h fun _ ρ _ w' hq hr => hq ρ w' hr

/-! ### more operations -/
theorem ev_index {ty : TypeId} {x ix : Operand} {id off n sz : Nat} {el : TypeId} {k : IntKind} {i : Int} (ho : o.op = .indexAddr ty x ix) (hgd : ∀ ρ, Region.wanted o (yielded ops (s.act ρ).tmps) = true) (hx : svEval s x = .p id off) (hi : svEval s ix = .v (.int k i))
    (hu : P.underlying ty = some (.array n el)) (hs : ∀ w, (Go.sizeOf el).run P w = .ok sz w) (h0 : 0 ≤ i) (h1 : i < n) : Ev P ops w0 o s ⟨.p id (off + i.toNat * sz), .none, []⟩ :=
  .run _ _ hgd fun ρ w _ => by
    have e1 := svEval_c s ρ x
    rw [hx] at e1
    have e2 := svEval_c s ρ ix
    rw [hi] at e2
    simp [execOp, ho, e1, e2, SV.c, Instr.indexAt, asIntOf, run_underlying hu, Instr.sureAddr, hs, h0, h1, add_at]
theorem ev_field {ty : TypeId} {x : Operand} {id off f n : Nat} {fs : Array Field} {fd : Field} (ho : o.op = .fieldAddr ty x f) (hgd : ∀ ρ, Region.wanted o (yielded ops (s.act ρ).tmps) = true) (hx : svEval s x = .p id off)
    (hu : P.underlying ty = some (.struct fs)) (hf : fs[f]? = some fd) (hs : ∀ w, (Go.sizeOf fd.type).run P w = .ok (n + 1) w) : Ev P ops w0 o s ⟨.p id (off + fd.offset), .none, []⟩ :=
  .run _ _ hgd fun ρ w _ => by
    have e1 := svEval_c s ρ x
    rw [hx] at e1
    simp [execOp, ho, e1, SV.c, Instr.fieldAt, run_underlying hu, hf, Instr.sureAddr, fieldPlace, hs, add_at]
theorem ev_fieldx {ty : TypeId} {x : Operand} {g off f n : Nat} {fs : Array Field} {fd : Field} (ho : o.op = .fieldAddr ty x f) (hgd : ∀ ρ, Region.wanted o (yielded ops (s.act ρ).tmps) = true) (hx : svEval s x = .v (.pointer (some ⟨g, off, none⟩)))
    (hu : P.underlying ty = some (.struct fs)) (hf : fs[f]? = some fd) (hs : ∀ w, (Go.sizeOf fd.type).run P w = .ok (n + 1) w) : Ev P ops w0 o s ⟨.v (.pointer (some ⟨g, off + fd.offset, none⟩)), .none, []⟩ :=
  .run _ _ hgd fun ρ w _ => by
    have e1 := svEval_c s ρ x
    rw [hx] at e1
    simp [execOp, ho, e1, SV.c, Instr.fieldAt, run_underlying hu, hf, Instr.sureAddr, fieldPlace, hs, add_at]
theorem ev_indexx {ty : TypeId} {x ix : Operand} {g off n sz : Nat} {el : TypeId} {k : IntKind} {i : Int} (ho : o.op = .indexAddr ty x ix) (hgd : ∀ ρ, Region.wanted o (yielded ops (s.act ρ).tmps) = true) (hx : svEval s x = .v (.pointer (some ⟨g, off, none⟩))) (hi : svEval s ix = .v (.int k i))
    (hu : P.underlying ty = some (.array n el)) (hs : ∀ w, (Go.sizeOf el).run P w = .ok sz w) (h0 : 0 ≤ i) (h1 : i < n) : Ev P ops w0 o s ⟨.v (.pointer (some ⟨g, off + i.toNat * sz, none⟩)), .none, []⟩ :=
  .run _ _ hgd fun ρ w _ => by
    have e1 := svEval_c s ρ x
    rw [hx] at e1
    have e2 := svEval_c s ρ ix
    rw [hi] at e2
    simp [execOp, ho, e1, e2, SV.c, Instr.indexAt, asIntOf, run_underlying hu, Instr.sureAddr, hs, h0, h1, add_at]
theorem ev_nil {x : Operand} {id off : Nat} (ho : o.op = .nilCheck x) (hgd : ∀ ρ, Region.wanted o (yielded ops (s.act ρ).tmps) = true) (hx : svEval s x = .p id off) : Ev P ops w0 o s ⟨.p id off, .none, []⟩ :=
  .run _ _ hgd fun ρ w _ => by
    have e1 := svEval_c s ρ x
    rw [hx] at e1
    simp [execOp, ho, e1, SV.c]
theorem ev_nilx {x : Operand} {a : Addr} (ho : o.op = .nilCheck x) (hgd : ∀ ρ, Region.wanted o (yielded ops (s.act ρ).tmps) = true) (hx : svEval s x = .v (.pointer (some a))) : Ev P ops w0 o s ⟨.v (.pointer (some a)), .none, []⟩ :=
  .run _ _ hgd fun ρ w _ => by
    have e1 := svEval_c s ρ x
    rw [hx] at e1
    simp [execOp, ho, e1, SV.c]
theorem args_c {xs : Array Operand} {vs : List Value} (h0 : unV (xs.toList.map (svEval s)) = some vs) (ρ : Nat → Nat) : xs.map (s.act ρ).eval = vs.toArray := by
  have h := unV_eq h0
  have h1 : xs.toList.map (s.act ρ).eval = vs := by
    have : xs.toList.map (s.act ρ).eval = (xs.toList.map (svEval s)).map (SV.c ρ) := by
      rw [List.map_map]; exact List.map_congr_left fun x _ => svEval_c s ρ x
    rw [this, h, List.map_map]
    simp [Function.comp_def, SV.c]
  rw [← Array.toList_map] at h1
  rw [← h1, Array.toArray_toList]
/-- the head of an own array, as a slice, and back as an array. -/
theorem ev_slice {ty : TypeId} {x hi : Operand} {id n sz : Nat} {el : TypeId} {k : Nat} (ho : o.op = .slice ty x none (some hi) none) (hgd : ∀ ρ, Region.wanted o (yielded ops (s.act ρ).tmps) = true) (hx : svEval s x = .p id 0) (hhi : svEval s hi = .v (.int .i64 (k : Nat)))
    (hu : P.underlying ty = some (.array n el)) (hs : ∀ w, (Go.sizeOf el).run P w = .ok sz w) (hk : k ≤ n) : Ev P ops w0 o s ⟨.s id 0 k n, .none, []⟩ :=
  .run _ _ hgd fun ρ w _ => by
    have e1 := svEval_c s ρ x
    rw [hx] at e1
    have e2 := svEval_c s ρ hi
    rw [hhi] at e2
    have hb : (Instr.sliceBound (.int .i64 (k : Nat)) n .sliceAlen).run P w = .ok k w := by
      unfold Instr.sliceBound
      rw [Sem.run_bind]
      simp only [asIntOf, Sem.run_pure, Result.andThen_ok]
      rw [if_pos ⟨by omega, by omega⟩]
      rfl
    simp [execOp, ho, e1, e2, SV.c, Instr.sliceAt, run_underlying hu, Instr.sureAddr, Instr.sliceBounds, hs, add_at, hb]
theorem ev_arr {ty : TypeId} {x : Operand} {id off len cap n : Nat} {el : TypeId} (ho : o.op = .sliceToArrayPointer ty x) (hgd : ∀ ρ, Region.wanted o (yielded ops (s.act ρ).tmps) = true) (hx : svEval s x = .s id off len cap)
    (hu : P.underlying ty = some (.array n el)) (hn : n ≤ len) : Ev P ops w0 o s ⟨.p id off, .none, []⟩ :=
  .run _ _ hgd fun ρ w _ => by
    have e1 := svEval_c s ρ x
    rw [hx] at e1
    have h1 : ¬ len < n := by omega
    simp [execOp, ho, e1, SV.c, Instr.arrayAt, run_underlying hu, h1]
/-- an order of two numbers. -/
theorem ev_lss {ty r : TypeId} {x y : Operand} {a b : Int} {p : Bool} (ho : o.op = .binOp .lss ty x y r) (hgd : ∀ ρ, Region.wanted o (yielded ops (s.act ρ).tmps) = true) (hx : svEval s x = .v (.int .i64 a)) (hy : svEval s y = .v (.int .i64 b)) (hp : decide (a < b) = p) :
    Ev P ops w0 o s ⟨.v (.bool p), .none, []⟩ :=
  .run _ _ hgd fun ρ w _ => by
    have e1 := svEval_c s ρ x
    rw [hx] at e1
    have e2 := svEval_c s ρ y
    rw [hy] at e2
    simp only [execOp, ho, e1, e2, SV.c]
    subst hp
    go_simp
theorem ev_geq {ty r : TypeId} {x y : Operand} {a b : Int} {p : Bool} (ho : o.op = .binOp .geq ty x y r) (hgd : ∀ ρ, Region.wanted o (yielded ops (s.act ρ).tmps) = true) (hx : svEval s x = .v (.int .i64 a)) (hy : svEval s y = .v (.int .i64 b)) (hp : decide (b ≤ a) = p) :
    Ev P ops w0 o s ⟨.v (.bool p), .none, []⟩ :=
  .run _ _ hgd fun ρ w _ => by
    have e1 := svEval_c s ρ x
    rw [hx] at e1
    have e2 := svEval_c s ρ y
    rw [hy] at e2
    simp only [execOp, ho, e1, e2, SV.c]
    subst hp
    go_simp
theorem ev_eql {ty r : TypeId} {k : IntKind} {x y : Operand} {a b : Int} {p : Bool} (ho : o.op = .binOp .eql ty x y r) (hgd : ∀ ρ, Region.wanted o (yielded ops (s.act ρ).tmps) = true) (hx : svEval s x = .v (.int k a)) (hy : svEval s y = .v (.int k b)) (hp : decide (a = b) = p) :
    Ev P ops w0 o s ⟨.v (.bool p), .none, []⟩ :=
  .run _ _ hgd fun ρ w _ => by
    have e1 := svEval_c s ρ x
    rw [hx] at e1
    have e2 := svEval_c s ρ y
    rw [hy] at e2
    simp only [execOp, ho, e1, e2, SV.c]
    subst hp
    go_simp
    by_cases h : a = b <;> simp [h]
/-- a sum or a difference of two numbers that the kind holds. -/
theorem ev_add {ty r : TypeId} {k : IntKind} {x y : Operand} {a b c : Int} (ho : o.op = .binOp .add ty x y r) (hgd : ∀ ρ, Region.wanted o (yielded ops (s.act ρ).tmps) = true) (hx : svEval s x = .v (.int k a)) (hy : svEval s y = .v (.int k b)) (hp : k.wrap (a + b) = c) :
    Ev P ops w0 o s ⟨.v (.int k c), .none, []⟩ :=
  .run _ _ hgd fun ρ w _ => by
    have e1 := svEval_c s ρ x
    rw [hx] at e1
    have e2 := svEval_c s ρ y
    rw [hy] at e2
    simp only [execOp, ho, e1, e2, SV.c]
    subst hp
    go_simp
theorem ev_sub {ty r : TypeId} {k : IntKind} {x y : Operand} {a b c : Int} (ho : o.op = .binOp .sub ty x y r) (hgd : ∀ ρ, Region.wanted o (yielded ops (s.act ρ).tmps) = true) (hx : svEval s x = .v (.int k a)) (hy : svEval s y = .v (.int k b)) (hp : k.wrap (a - b) = c) :
    Ev P ops w0 o s ⟨.v (.int k c), .none, []⟩ :=
  .run _ _ hgd fun ρ w _ => by
    have e1 := svEval_c s ρ x
    rw [hx] at e1
    have e2 := svEval_c s ρ y
    rw [hy] at e2
    simp only [execOp, ho, e1, e2, SV.c]
    subst hp
    go_simp
/-- an element of an array that is a value of one cell an element. -/
theorem ev_indexv {ty : TypeId} {x ix : Operand} {vs : Array Value} {k n : Nat} {el : TypeId} {d : TypeDesc} {v : Value} (ho : o.op = .index ty x ix) (hgd : ∀ ρ, Region.wanted o (yielded ops (s.act ρ).tmps) = true) (hx : svEval s x = .v (.agg vs)) (hi : svEval s ix = .v (.int .i64 (k : Nat)))
    (hu : P.underlying ty = some (.array n el)) (hs : ∀ w, (Go.sizeOf el).run P w = .ok 1 w) (hue : P.underlying el = some d) (hd : isAggD d = false) (hk : k < n) (hv : vs.toList[k]? = some v) : Ev P ops w0 o s ⟨.v v, .none, []⟩ :=
  .run _ _ hgd fun ρ w _ => by
    have e1 := svEval_c s ρ x
    rw [hx] at e1
    have e2 := svEval_c s ρ ix
    rw [hi] at e2
    have h1 : vs[k]? = some v := by simpa using hv
    simp [execOp, ho, e1, e2, SV.c, Instr.index, run_underlying hu, asIntOf, hs, hk, part, run_isAgg hue, hd, h1]
/-- a call of a Go function, by its contract. -/
theorem ev_call {f : FuncId} {xs : Array Operand} {ats : Array TypeId} {vs : List Value} {v : Value} (ho : o.op = .call { callee := .value (.func f), args := xs, argTypes := ats }) (hgd : ∀ ρ, Region.wanted o (yielded ops (s.act ρ).tmps) = true)
    (hx : unV (xs.toList.map (svEval s)) = some vs) (he : ∀ args w, (callFunc f args).run P w = .ok (.enter f args) w) (hc : ∀ w, Gw w0 w → Calls P f vs.toArray w fun e w' => e = .returned v ∧ Gw w w') : Ev P ops w0 o s ⟨.v v, .none, []⟩ :=
  .call f (fun _ => vs.toArray) (.v v) [] hgd (fun ρ w _ => by
    obtain ⟨dst, op, type, pos, after, guard⟩ := o
    simp only at ho
    subst ho
    rw [execOp_call_go, args_c hx]
    simpa using he vs.toArray w) fun _ w hs => hc w hs.1
theorem args_p (xs : Array Operand) (ρ : Nat → Nat) : xs.map (s.act ρ).eval = ((xs.toList.map (svEval s)).map (SV.c ρ)).toArray := by
  rw [← Array.toList_inj]
  simp only [Array.toList_map, List.map_map]
  exact List.map_congr_left fun x _ => svEval_c s ρ x
/-- a call that takes pointers to blocks of the caller's own. -/
theorem ev_callp {f : FuncId} {xs : Array Operand} {ats : Array TypeId} {vs : List SV} {v : Value} (rd : List Nat) (ho : o.op = .call { callee := .value (.func f), args := xs, argTypes := ats }) (hgd : ∀ ρ, Region.wanted o (yielded ops (s.act ρ).tmps) = true)
    (hx : xs.toList.map (svEval s) = vs) (he : ∀ args w, (callFunc f args).run P w = .ok (.enter f args) w)
    (hc : ∀ ρ w, Sees w0 s rd ρ w → Calls P f (vs.map (SV.c ρ)).toArray w fun e w' => e = .returned v ∧ Gw w w') : Ev P ops w0 o s ⟨.v v, .none, rd⟩ :=
  .call f (fun ρ => (vs.map (SV.c ρ)).toArray) (.v v) rd hgd (fun ρ w _ => by
    obtain ⟨dst, op, type, pos, after, guard⟩ := o
    simp only at ho
    subst ho
    rw [execOp_call_go, args_p, hx]
    simpa using he (vs.map (SV.c ρ)).toArray w) hc
/-- a call that makes a block, and answers with a pointer to it and a value. -/
theorem ev_callnew {f : FuncId} {xs : Array Operand} {ats : Array TypeId} {vs : List Value} {y : Value} {id : Nat} (_hd : o.dst = some id) (ho : o.op = .call { callee := .value (.func f), args := xs, argTypes := ats }) (hgd : ∀ ρ, Region.wanted o (yielded ops (s.act ρ).tmps) = true)
    (hx : unV (xs.toList.map (svEval s)) = some vs) (he : ∀ args w, (callFunc f args).run P w = .ok (.enter f args) w) (cs : List Value) (ty : TypeId)
    (hc : ∀ w, Gw w0 w → Calls P f vs.toArray w fun e w' => ∃ g, w.heap.size ≤ g ∧ e = .returned (.tuple #[.pointer (some ⟨g, 0, none⟩), y]) ∧ w'.heap[g]? = some (.cells cs.toArray ty (0, 0)) ∧ Gw w w') :
    Ev P ops w0 o s ⟨.tp id 0 y, .new id (cs.map .v, ty), []⟩ :=
  .callnew f (fun _ => vs.toArray) (.tp id 0 y) [] id (cs.map .v, ty) hgd (by simp [SV.has]) (fun ρ w _ => by
    obtain ⟨dst, op, type, pos, after, guard⟩ := o
    simp only at ho
    subst ho
    rw [execOp_call_go, args_c hx]
    simpa using he vs.toArray w) fun ρ w hs => (hc w hs.1).mono fun e w' ⟨g, h1, h2, h3, h4⟩ => ⟨g, h1, by simp [h2, SV.c], by rw [h3]; simp [cellsOf, Function.comp_def, SV.c], h4⟩
theorem ev_extract_p {x : Operand} {id off : Nat} {y : Value} (ho : o.op = .extract x 0) (hgd : ∀ ρ, Region.wanted o (yielded ops (s.act ρ).tmps) = true) (hx : svEval s x = .tp id off y) : Ev P ops w0 o s ⟨.p id off, .none, []⟩ :=
  .run _ _ hgd fun ρ w _ => by
    have e1 := svEval_c s ρ x
    rw [hx] at e1
    simp [execOp, ho, e1, SV.c, Instr.extract]
theorem ev_extract_y {x : Operand} {id off : Nat} {y : Value} (ho : o.op = .extract x 1) (hgd : ∀ ρ, Region.wanted o (yielded ops (s.act ρ).tmps) = true) (hx : svEval s x = .tp id off y) : Ev P ops w0 o s ⟨.v y, .none, []⟩ :=
  .run _ _ hgd fun ρ w _ => by
    have e1 := svEval_c s ρ x
    rw [hx] at e1
    simp [execOp, ho, e1, SV.c, Instr.extract]
/-- any operation of two operands. -/
theorem ev_bin {op : BinOp} {ty r : TypeId} {x y : Operand} {a b c : Value} (ho : o.op = .binOp op ty x y r) (hgd : ∀ ρ, Region.wanted o (yielded ops (s.act ρ).tmps) = true) (hx : svEval s x = .v a) (hy : svEval s y = .v b)
    (h : ∀ w, (do eqGuard op ty x y a b; binOp op ty a b : Sem Value).run P w = .ok c w) : Ev P ops w0 o s ⟨.v c, .none, []⟩ :=
  .run _ _ hgd fun ρ w _ => by
    have e1 := svEval_c s ρ x
    rw [hx] at e1
    have e2 := svEval_c s ρ y
    rw [hy] at e2
    simp only [execOp, ho, e1, e2, SV.c]
    rw [Sem.run_bind, h w]
    rfl
theorem ev_conv {st dt : TypeId} {x : Operand} {a c : Value} (ho : o.op = .convert st dt x) (hgd : ∀ ρ, Region.wanted o (yielded ops (s.act ρ).tmps) = true) (hx : svEval s x = .v a) (h : ∀ w, (convert st dt a).run P w = .ok c w) : Ev P ops w0 o s ⟨.v c, .none, []⟩ :=
  .run _ _ hgd fun ρ w _ => by
    have e1 := svEval_c s ρ x
    rw [hx] at e1
    simp only [execOp, ho, e1, SV.c]
    rw [Sem.run_bind, h w]
    rfl
/-- a call that the model answers at once. -/
theorem ev_extern {f : FuncId} {xs : Array Operand} {ats : Array TypeId} {vs : List Value} {v : Value} (ho : o.op = .call { callee := .value (.func f), args := xs, argTypes := ats }) (hgd : ∀ ρ, Region.wanted o (yielded ops (s.act ρ).tmps) = true)
    (hx : unV (xs.toList.map (svEval s)) = some vs) (he : ∀ w, (callFunc f vs.toArray).run P w = .ok (.value v) w) : Ev P ops w0 o s ⟨.v v, .none, []⟩ :=
  .run _ _ hgd fun ρ w _ => by
    obtain ⟨dst, op, type, pos, after, guard⟩ := o
    simp only at ho
    subst ho
    rw [execOp_call_go, args_c hx]
    simpa [SV.c] using he w
theorem ev_extract {x : Operand} {i : Nat} {vs : Array Value} {v : Value} (ho : o.op = .extract x i) (hgd : ∀ ρ, Region.wanted o (yielded ops (s.act ρ).tmps) = true) (hx : svEval s x = .v (.tuple vs)) (hi0 : vs.toList[i]? = some v) : Ev P ops w0 o s ⟨.v v, .none, []⟩ :=
  .run _ _ hgd fun ρ w _ => by
    have e1 := svEval_c s ρ x
    rw [hx] at e1
    have hi : vs[i]? = some v := by simpa using hi0
    simp [execOp, ho, e1, SV.c, Instr.extract, hi]
theorem en_of {f : FuncId} {fn : Func} {c : Code} (hf : P.funcs[f]? = some fn) (hname : (fn.name == "runtime.NumGoroutine") = false) (hb : fn.body = some c) : ∀ (args : Array Value) (w : World), (callFunc f args).run P w = .ok (.enter f args) w := by
  intro args w
  have h1 : fn.name ≠ "runtime.NumGoroutine" := by simpa using hname
  simp [callFunc, hf, h1, hb, mark]

/-! ### a flag that a condition sets -/
def bn (b : Bool) : Nat := if b then 1 else 0
theorem vset {x : Operand} {b b0 : Bool} {d : Nat} {c : Code} {s : VS} {Q : Exit → VS → Prop} (hx : svEval s x = .v (.bool b)) (hd : s.fr[d]? = some (.v (.int .u64 (bn b0 : Nat))))
    (h1 : ∀ Q : Exit → VS → Prop, Q .normal ⟨s.fr.set d (.v (.int .u64 1)), s.mem⟩ → VOk P w0 s c Q) (h : Q .normal ⟨s.fr.set d (.v (.int .u64 (bn (b0 || b) : Nat))), s.mem⟩) : VOk P w0 s (.cond x c .skip) Q := by
  cases b with
  | true => exact vcond_t hx (h1 _ (by simpa [bn] using h))
  | false =>
    refine vcond_f hx (vskip ?_)
    have h2 : s.fr.set d (.v (.int .u64 (bn (b0 || false) : Nat))) = s.fr := by
      apply List.ext_getElem?
      intro i
      by_cases e : d = i
      · subst e
        obtain ⟨hlt, _⟩ := List.getElem?_eq_some_iff.1 hd
        rw [List.getElem?_set_self hlt, hd]; simp
      · rw [List.getElem?_set_ne e]
    rw [h2] at h
    exact h

theorem ev_eqnil {ty r : TypeId} {x y : Operand} {id off : Nat} (ho : o.op = .binOp .eql ty x y r) (hgd : ∀ ρ, Region.wanted o (yielded ops (s.act ρ).tmps) = true) (hx : svEval s x = .p id off) (hy : svEval s y = .v (.pointer none))
    (h : ∀ g w, (do eqGuard .eql ty x y (.pointer (some ⟨g, off, none⟩)) (.pointer none); binOp .eql ty (.pointer (some ⟨g, off, none⟩)) (.pointer none) : Sem Value).run P w = .ok (.bool false) w) : Ev P ops w0 o s ⟨.v (.bool false), .none, []⟩ :=
  .run _ _ hgd fun ρ w _ => by
    have e1 := svEval_c s ρ x
    rw [hx] at e1
    have e2 := svEval_c s ρ y
    rw [hy] at e2
    simp only [execOp, ho, e1, e2, SV.c]
    rw [Sem.run_bind, h]
    rfl
/-! ### what a loop forgets -/
def forgetFr (keep : Nat → Bool) (f : Nat → Value) : Nat → List SV → List SV
  | _, [] => []
  | i, x :: l => (if keep i then x else .v (f i)) :: forgetFr keep f (i + 1) l
def VS.forget (keep : Nat → Bool) (drop : Nat) (f : Nat → Value) (s : VS) : VS := ⟨forgetFr keep f 0 s.fr, fun k => if k = drop then none else s.mem k⟩
theorem forgetFr_c (keep : Nat → Bool) (ρ : Nat → Nat) (f : Nat → Value) : ∀ (l : List SV) (i : Nat), (∀ j x, l[j]? = some x → f (i + j) = x.c ρ) → (forgetFr keep f i l).map (SV.c ρ) = l.map (SV.c ρ)
  | [], _, _ => rfl
  | x :: l, i, h => by
    simp only [forgetFr, List.map_cons]
    rw [forgetFr_c keep ρ f l (i + 1) (fun j y hj => by have := h (j + 1) y (by simpa using hj); rw [← this]; congr 1; omega)]
    congr 1
    split
    · rfl
    · simp only [SV.c]; exact h 0 x rfl
theorem vweak (keep : Nat → Bool) (drop : Nat) {c : Code} {s : VS} {Q : Exit → VS → Prop} (h : VOk P w0 s c fun e s' => ∀ f, Q e (s'.forget keep drop f)) : VOk P w0 s c Q := by
  intro ρ w R hr hQ
  refine h ρ w R hr ?_
  intro e ρ' s' w' hq hr'
  have h1 := hQ e ρ' (s'.forget keep drop fun i => ((s'.fr[i]?).getD (.v undef)).c ρ') w' (hq _) ⟨hr'.gw, fun id b hb => by
    simp only [VS.forget] at hb
    split at hb
    · cases hb
    · exact hr'.own id b hb, fun i j hi hj hij => by
    refine hr'.inj i j ?_ ?_ hij
    · simp only [VS.forget] at hi; split at hi
      · cases hi
      · exact hi
    · simp only [VS.forget] at hj; split at hj
      · cases hj
      · exact hj⟩
  have h2 : (s'.forget keep drop fun i => ((s'.fr[i]?).getD (.v undef)).c ρ').act ρ' = s'.act ρ' := by
    simp only [VS.act, VS.forget]
    rw [forgetFr_c keep ρ' _ s'.fr 0 (fun j x hj => by simp [hj])]
  rw [h2] at h1
  exact h1
theorem vforget (keep : Nat → Bool) (drop : Nat) {c : Code} {s : VS} {Q : Exit → VS → Prop} (h : ∀ f, VOk P w0 (s.forget keep drop f) c Q) : VOk P w0 s c Q := by
  intro ρ w R hr hQ
  have h1 := h (fun i => ((s.fr[i]?).getD (.v undef)).c ρ) ρ w R ⟨hr.gw, fun id b hb => by
    simp only [VS.forget] at hb
    split at hb
    · cases hb
    · exact hr.own id b hb, fun i j hi hj hij => by
    refine hr.inj i j ?_ ?_ hij
    · simp only [VS.forget] at hi; split at hi
      · cases hi
      · exact hi
    · simp only [VS.forget] at hj; split at hj
      · cases hj
      · exact hj⟩ hQ
  have h2 : (s.forget keep drop fun i => ((s.fr[i]?).getD (.v undef)).c ρ).act ρ = s.act ρ := by
    simp only [VS.act, VS.forget]
    rw [forgetFr_c keep ρ _ s.fr 0 (fun j x hj => by simp [hj])]
  rw [h2] at h1
  exact h1
theorem memOf_skip {d : Nat} {l : List (Nat × Blk)} (h : l.all (fun x => x.1 != d) = true) : (fun k => if k = d then none else memOf l k) = memOf l := by
  funext k
  by_cases e : k = d
  · subst e
    rw [if_pos rfl]
    induction l with
    | nil => rfl
    | cons x l ih =>
      obtain ⟨j, c⟩ := x
      simp only [List.all_cons, Bool.and_eq_true] at h
      simp only [memOf]
      rw [if_neg (by have := h.1; simp at this; exact fun e => this e.symm)]
      exact ih h.2
  · simp only [if_neg e]
theorem memOf_drop {d : Nat} {b : Blk} {l : List (Nat × Blk)} (h : l.all (fun x => x.1 != d) = true) : (fun k => if k = d then none else memOf ((d, b) :: l) k) = memOf l := by
  funext k
  by_cases e : k = d
  · subst e
    rw [if_pos rfl]
    induction l with
    | nil => rfl
    | cons x l ih =>
      obtain ⟨j, c⟩ := x
      simp only [List.all_cons, Bool.and_eq_true] at h
      simp only [memOf]
      rw [if_neg (by have := h.1; simp at this; exact fun e => this e.symm)]
      exact ih h.2
  · simp only [if_neg e, memOf]
theorem sees_cells {rd : List Nat} {ρ : Nat → Nat} {w : World} {id : Nat} {b : Blk} (hs : Sees w0 s rd ρ w) (hid : id ∈ rd) (hm : s.mem id = some b) (off : Nat) (l : List Value) (hl : unV ((b.1.drop off).take l.length) = some l) :
    ∀ (j : Nat) (v : Value), l[j]? = some v → w.cell? ⟨ρ id, off + j, none⟩ = some v := by
  intro j v hj
  obtain ⟨_, hb⟩ := hs.2 id b hid hm
  have hv := unV_eq hl
  have h2 : ((b.1.drop off).take l.length)[j]? = some (.v v) := by rw [hv]; simp [hj]
  have h3 : b.1[off + j]? = some (.v v) := by
    rw [List.getElem?_take] at h2
    split at h2
    · rwa [List.getElem?_drop] at h2
    · cases h2
  simp only [World.cell?, hb, cellsOf]
  simp [h3, SV.c]
theorem ev_un {op : UnOp} {ty : TypeId} {x : Operand} {a c : Value} (ho : o.op = .unOp op ty x) (hgd : ∀ ρ, Region.wanted o (yielded ops (s.act ρ).tmps) = true) (hx : svEval s x = .v a) (h : ∀ w, (Op.unary op a).run P w = .ok c w) : Ev P ops w0 o s ⟨.v c, .none, []⟩ :=
  .run _ _ hgd fun ρ w _ => by
    have e1 := svEval_c s ρ x
    rw [hx] at e1
    simp only [execOp, ho, e1, SV.c]
    rw [Sem.run_bind, h w]
    rfl
theorem ev_assign_p {x : Operand} (ho : o.op = .assign x) (hgd : ∀ ρ, Region.wanted o (yielded ops (s.act ρ).tmps) = true) : Ev P ops w0 o s ⟨svEval s x, .none, []⟩ := ev_assign ho hgd

/-! ### the end of a function -/
theorem post_ret {fn : Func} {R : Ending → World → Prop} {v : Value} (hv : ∀ ρ w, Rel w0 ρ s w → (results fn (s.act ρ).tmps).run P w = .ok v w) (hR : ∀ w, Gw w0 w → R (.returned v) w) :
    ∀ ρ w, Rel w0 ρ s w → bodyPost P fn R .ret (s.act ρ) w := fun ρ w hr => ⟨rfl, v, hv ρ w hr, hR w hr.gw⟩
theorem post_end {fn : Func} {R : Ending → World → Prop} {v : Value} (hv : ∀ ρ w, Rel w0 ρ s w → (results fn (s.act ρ).tmps).run P w = .ok v w) (hR : ∀ w, Gw w0 w → R (.returned v) w) :
    ∀ ρ w, Rel w0 ρ s w → bodyPost P fn R .normal (s.act ρ) w := fun ρ w hr => ⟨rfl, v, hv ρ w hr, hR w hr.gw⟩
theorem getD_act (t : Nat) (ρ : Nat → Nat) : (s.act ρ).tmps.getD t undef = (svEval s (.tmp t)).c ρ := svEval_c s ρ (.tmp t)
/-- what a result's variable holds. -/
def rvRun (tmps : Array Value) : ResultVar → Sem Value
  | .tmp t => pure (tmps.getD t undef)
  | .cell p t => do loadVar t (← asAddr (tmps.getD p undef))
def RV (P : Program) (s : VS) (r : ResultVar) (v : Value) : Prop :=
  ∀ (ρ : Nat → Nat) (w : World), (∀ id b, s.mem id = some b → w.heap[ρ id]? = some (cellsOf ρ b)) → (rvRun (s.act ρ).tmps r).run P w = Result.ok v w
theorem rv_tmp {t : Nat} {v : Value} (h : svEval s (.tmp t) = .v v) : RV P s (.tmp t) v := fun ρ w _ => by
  simp only [rvRun, getD_act, h, SV.c]; rfl
theorem rv_cell {p ty id off n : Nat} {b : Blk} {d : TypeDesc} {vs : List Value} (h : svEval s (.tmp p) = .p id off) (hm : s.mem id = some b) (hu : P.underlying ty = some d) (hd : isAggD d = true) (hs : ∀ w, (Go.sizeOf ty).run P w = .ok n w)
    (hv0 : unV ((b.1.drop off).take n) = some vs) (hl : vs.length = n) : RV P s (.cell p ty) (.agg vs.toArray) := fun ρ w hw => by
  have hb := hw id b hm
  have hv := unV_eq hv0
  have hl' : (loadCells ⟨ρ id, off, none⟩ vs.length).run P w = .ok vs.toArray w := run_loadCells_list w _ vs fun j v hj => by
    rw [add_at]
    simp only [World.cell?, hb, cellsOf]
    have h2 : ((b.1.drop off).take n)[j]? = some (.v v) := by rw [hv]; simp [hj]
    have h3 : b.1[off + j]? = some (.v v) := by
      rw [List.getElem?_take] at h2
      split at h2
      · rwa [List.getElem?_drop] at h2
      · cases h2
    simp [h3, SV.c]
  rw [hl] at hl'
  simp only [rvRun, getD_act, h, SV.c]
  simp [asAddr, loadVar, run_isAgg hu, hd, hs, hl']
theorem rv_cell1 {p ty id off : Nat} {b : Blk} {d : TypeDesc} {v : Value} (h : svEval s (.tmp p) = .p id off) (hm : s.mem id = some b) (hu : P.underlying ty = some d) (hd : isAggD d = false)
    (hv : b.1[off]? = some (.v v)) : RV P s (.cell p ty) v := fun ρ w hw => by
  have hb := hw id b hm
  have hc : w.cell? ⟨ρ id, off, none⟩ = some v := by simp [World.cell?, hb, cellsOf, hv, SV.c]
  simp only [rvRun, getD_act, h, SV.c]
  simp [asAddr, loadVar, run_isAgg hu, hd, hc]
theorem results_eq (fn : Func) (tmps : Array Value) : results fn tmps = (do let vs ← fn.results.mapM (rvRun tmps); pure (if h : vs.size = 1 then vs[0] else .tuple vs)) := by
  unfold results
  congr 1
theorem res1 {fn : Func} {r : ResultVar} {v : Value} (hf : fn.results = #[r]) (h : RV P s r v) : ∀ ρ w, Rel w0 ρ s w → (results fn (s.act ρ).tmps).run P w = .ok v w := fun ρ w hr => by
  have h1 := h ρ w fun id b hb => (hr.own id b hb).2
  rw [results_eq, hf]
  simp [h1]
theorem res2 {fn : Func} {r r' : ResultVar} {v v' : Value} (hf : fn.results = #[r, r']) (h : RV P s r v) (h' : RV P s r' v') : ∀ ρ w, Rel w0 ρ s w → (results fn (s.act ρ).tmps).run P w = .ok (.tuple #[v, v']) w := fun ρ w hr => by
  have h1 := h ρ w fun id b hb => (hr.own id b hb).2
  have h2 := h' ρ w fun id b hb => (hr.own id b hb).2
  rw [results_eq, hf]
  simp [h1, h2]
theorem res0 {fn : Func} (hf : fn.results = #[]) : ∀ ρ w, Rel w0 ρ s w → (results fn (s.act ρ).tmps).run P w = .ok (.tuple #[]) w := fun _ _ _ => results_none hf _ _ _
theorem post_newp {fn : Func} {R : Ending → World → Prop} {a c id : Nat} {y : Value} {b : Blk} {cs : List Value} (hf : fn.results = #[.tmp a, .tmp c]) (ha : svEval s (.tmp a) = .p id 0) (hc : svEval s (.tmp c) = .v y) (hm : s.mem id = some b) (hb : unV b.1 = some cs)
    (hR : ∀ g w, w0.heap.size ≤ g → w.heap[g]? = some (.cells cs.toArray b.2 (0, 0)) → Gw w0 w → R (.returned (.tuple #[.pointer (some ⟨g, 0, none⟩), y])) w) : ∀ ρ w, Rel w0 ρ s w → bodyPost P fn R .ret (s.act ρ) w := fun ρ w hr => by
  obtain ⟨h1, h2⟩ := hr.own id b hm
  refine ⟨rfl, _, ?_, hR (ρ id) w h1 (by rw [h2]; simp [cellsOf, unV_eq hb, Function.comp_def, SV.c]) hr.gw⟩
  rw [results_eq, hf]
  have e1 : (rvRun (s.act ρ).tmps (.tmp a)).run P w = .ok (.pointer (some ⟨ρ id, 0, none⟩)) w := by simp only [rvRun, getD_act, ha, SV.c]; rfl
  have e2 : (rvRun (s.act ρ).tmps (.tmp c)).run P w = .ok y w := by simp only [rvRun, getD_act, hc, SV.c]; rfl
  simp [e1, e2]
/-! ### the walk's normal form, as one name -/
theorem nm_tmp (fr : List SV) (m : Nat → Option Blk) (t : Nat) : svEval ⟨fr, m⟩ (.tmp t) = (fr[t]?).getD (.v undef) := rfl
theorem nm_const (s : VS) (v : Value) : svEval s (.const v) = .v v := rfl
theorem nm_global (s : VS) (g : Nat) : svEval s (.global g) = .v (.pointer (some ⟨g, 0, none⟩)) := rfl
theorem nm_func (s : VS) (f : FuncId) : svEval s (.func f) = .v (.func (.func f) #[] #[]) := rfl
theorem nm_ms0 (id : Nat) (b : Blk) : memSet [] id b = [(id, b)] := rfl
theorem nm_ms1 (k : Nat) (c : Blk) (l : List (Nat × Blk)) (id : Nat) (b : Blk) : memSet ((k, c) :: l) id b = if k = id then (id, b) :: l else (k, c) :: memSet l id b := rfl
theorem nm_agg (cs : Array Value) : Value.cells (.agg cs) = cs := rfl
theorem nm_int (k : IntKind) (n : Int) : Value.cells (.int k n) = #[.int k n] := rfl
theorem nm_bool (b : Bool) : Value.cells (.bool b) = #[.bool b] := rfl
theorem nm_ptr (a : Option Addr) : Value.cells (.pointer a) = #[.pointer a] := rfl
theorem nm_slice (a : Option Addr) (l c : Nat) : Value.cells (.slice a l c) = #[.slice a l c] := rfl
theorem nm : (type_of% (put_n)) ∧ (type_of% (put_new)) ∧ (type_of% (put_wr)) ∧ (type_of% (frPut_some)) ∧ (type_of% (frPut_none)) ∧ (type_of% (@List.set_cons_zero SV)) ∧ (type_of% (@List.set_cons_succ SV)) ∧ (type_of% (nm_tmp)) ∧ (type_of% (nm_const)) ∧ (type_of% (nm_global)) ∧ (type_of% (nm_func)) ∧ (type_of% (@List.getElem?_cons_zero SV)) ∧ (type_of% (@List.getElem?_cons_succ SV)) ∧ (type_of% (@List.getElem?_cons_zero Value)) ∧ (type_of% (@List.getElem?_cons_succ Value)) ∧ (type_of% (@Option.getD_some SV)) ∧ (type_of% (@List.take_succ_cons SV)) ∧ (type_of% (@List.take_zero SV)) ∧ (type_of% (@List.drop_succ_cons SV)) ∧ (type_of% (@List.drop_zero SV)) ∧ (type_of% (@List.cons_append SV)) ∧ (type_of% (@List.nil_append SV)) ∧ (type_of% (@List.append_nil SV)) ∧ (type_of% (@List.map_cons Value SV)) ∧ (type_of% (@List.map_nil Value SV)) ∧ (type_of% (nm_ms0)) ∧ (type_of% (nm_ms1)) ∧ (type_of% (nm_agg)) ∧ (type_of% (nm_int)) ∧ (type_of% (nm_bool)) ∧ (type_of% (nm_ptr)) ∧ (type_of% (nm_slice)) ∧ (type_of% (@Int.toNat_natCast)) ∧ (type_of% (@Nat.zero_add)) ∧ (type_of% (@Nat.add_zero)) ∧ (type_of% (@Nat.mul_one)) ∧ (type_of% (@i64w)) :=
  ⟨put_n, put_new, put_wr, frPut_some, frPut_none, @List.set_cons_zero SV, @List.set_cons_succ SV, nm_tmp, nm_const, nm_global, nm_func, @List.getElem?_cons_zero SV, @List.getElem?_cons_succ SV, @List.getElem?_cons_zero Value, @List.getElem?_cons_succ Value, @Option.getD_some SV, @List.take_succ_cons SV, @List.take_zero SV, @List.drop_succ_cons SV, @List.drop_zero SV, @List.cons_append SV, @List.nil_append SV, @List.append_nil SV, @List.map_cons Value SV, @List.map_nil Value SV, nm_ms0, nm_ms1, nm_agg, nm_int, nm_bool, nm_ptr, nm_slice, @Int.toNat_natCast, @Nat.zero_add, @Nat.add_zero, @Nat.mul_one, @i64w⟩
theorem gn (hg : o.guard = none) (ρ : Nat → Nat) : Region.wanted o (yielded ops (s.act ρ).tmps) = true := wanted_none hg _
end
end Go.Toll
