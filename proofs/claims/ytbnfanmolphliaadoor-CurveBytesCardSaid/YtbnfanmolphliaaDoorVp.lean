import Derived.Test.YtbnfanmolphliaaDoorVo
import Derived.Laws.Tables
/-! More operations over states: building, picking, denying; aggregates that hold a pointer to a block of the call's own. -/
namespace Go.Toll
open Go.RowKit
section
variable {P : Program} {w0 : World} {ops : Array Oper} {o : Oper} {s : VS}
def unVP : List (Nat × SV) → Option (List (Nat × Value))
  | [] => some []
  | (i, .v x) :: l => match unVP l with | some r => some ((i, x) :: r) | none => none
  | _ :: _ => none
theorem unVP_eq : ∀ {l : List (Nat × SV)} {r : List (Nat × Value)}, unVP l = some r → ∀ ρ, l.map (fun x => (x.1, x.2.c ρ)) = r
  | [], r, h, _ => by simp [unVP] at h; subst h; rfl
  | (i, .v x) :: l, r, h, ρ => by
    simp only [unVP] at h
    cases hl : unVP l with
    | none => rw [hl] at h; cases h
    | some q => rw [hl] at h; simp only [Option.some.injEq] at h; subst h; exact congrArg _ (unVP_eq hl ρ)
  | (_, .p _ _) :: _, _, h, _ => by simp [unVP] at h
  | (_, .s _ _ _ _) :: _, _, h, _ => by simp [unVP] at h
  | (_, .tp _ _ _) :: _, _, h, _ => by simp [unVP] at h
  | (_, .ap _ _) :: _, _, h, _ => by simp [unVP] at h
theorem ev_build {ty : TypeId} {parts : Array (Nat × Operand)} {pl : List (Nat × Value)} {cells : Array Value} (ho : o.op = .build ty parts) (hgd : ∀ ρ, Region.wanted o (yielded ops (s.act ρ).tmps) = true)
    (hx : unVP (parts.toList.map fun x => (x.1, svEval s x.2)) = some pl) (hb : P.built ty pl = some cells) : Ev P ops w0 o s ⟨.v (.agg cells), .none, []⟩ :=
  .run _ _ hgd fun ρ w _ => by
    have h1 : (parts.map fun (i, x) => (i, (s.act ρ).eval x)).toList = pl := by
      rw [← unVP_eq hx ρ]
      simp only [Array.toList_map, List.map_map]
      exact List.map_congr_left fun x _ => by simp only [Function.comp_apply, svEval_c]
    have h2 := run_build w ty (parts.map fun (i, x) => (i, (s.act ρ).eval x)) cells (by rw [h1]; exact hb)
    simp only [execOp, ho, SV.c]
    rw [Sem.run_bind, h2]
    rfl
theorem ev_pick_t {c a b : Operand} {v : Value} (ho : o.op = .pick c a b) (hgd : ∀ ρ, Region.wanted o (yielded ops (s.act ρ).tmps) = true) (hc : svEval s c = .v (.bool true)) (ha : svEval s a = .v v) : Ev P ops w0 o s ⟨.v v, .none, []⟩ :=
  .run _ _ hgd fun ρ w _ => by
    have e1 := svEval_c s ρ c
    rw [hc] at e1
    have e2 := svEval_c s ρ a
    rw [ha] at e2
    simp [execOp, ho, e1, e2, SV.c, asBool]
theorem ev_pick_f {c a b : Operand} {v : Value} (ho : o.op = .pick c a b) (hgd : ∀ ρ, Region.wanted o (yielded ops (s.act ρ).tmps) = true) (hc : svEval s c = .v (.bool false)) (hb : svEval s b = .v v) : Ev P ops w0 o s ⟨.v v, .none, []⟩ :=
  .run _ _ hgd fun ρ w _ => by
    have e1 := svEval_c s ρ c
    rw [hc] at e1
    have e2 := svEval_c s ρ b
    rw [hb] at e2
    simp [execOp, ho, e1, e2, SV.c, asBool]
theorem ev_not {ty : TypeId} {x : Operand} {p : Bool} (ho : o.op = .unOp .not ty x) (hgd : ∀ ρ, Region.wanted o (yielded ops (s.act ρ).tmps) = true) (hx : svEval s x = .v (.bool p)) : Ev P ops w0 o s ⟨.v (.bool (!p)), .none, []⟩ :=
  ev_un ho hgd hx fun w => by simp [Op.unary]
/-! ### a struct of one pointer, to a block of the call's own -/
theorem ev_buildap {ty : TypeId} {x : Operand} {i id off : Nat} (ho : o.op = .build ty #[(i, x)]) (hgd : ∀ ρ, Region.wanted o (yielded ops (s.act ρ).tmps) = true) (hx : svEval s x = .p id off)
    (hb : ∀ g, P.built ty [(i, .pointer (some ⟨g, off, none⟩))] = some #[.pointer (some ⟨g, off, none⟩)]) : Ev P ops w0 o s ⟨.ap id off, .none, []⟩ :=
  .run _ _ hgd fun ρ w _ => by
    have e1 := svEval_c s ρ x
    rw [hx] at e1
    have h2 := run_build w ty #[(i, (s.act ρ).eval x)] _ (by rw [e1]; exact hb (ρ id))
    simp only [execOp, ho, SV.c]
    rw [Sem.run_bind]
    have h3 : (#[(i, x)] : Array (Nat × Operand)).map (fun (i, x) => (i, (s.act ρ).eval x)) = #[(i, (s.act ρ).eval x)] := by simp
    rw [h3, h2]
    rfl
theorem ev_storeap {ty : TypeId} {x y : Operand} {id off id2 off2 : Nat} {b : Blk} (ho : o.op = .store ty x y) (hgd : ∀ ρ, Region.wanted o (yielded ops (s.act ρ).tmps) = true) (hx : svEval s x = .p id off) (hm : s.mem id = some b) (hy : svEval s y = .ap id2 off2)
    (hs : ∀ w, (Go.sizeOf ty).run P w = .ok 1 w) (hfit : off + 1 ≤ b.1.length) :
    Ev P ops w0 o s ⟨.v undef, .wr id (b.1.take off ++ [.p id2 off2] ++ b.1.drop (off + 1), b.2), [id]⟩ :=
  .wr id _ hgd (by rw [hm]; rfl) fun ρ w hw => by
    have e1 := svEval_c s ρ x
    rw [hx] at e1
    have e2 := svEval_c s ρ y
    rw [hy] at e2
    obtain ⟨_, hb⟩ := hw.2 id b (by simp) hm
    have hst := run_storeCells_at P (ρ id) off b.2 [.pointer (some ⟨ρ id2, off2, none⟩)] 0 (b.1.map (SV.c ρ)).toArray w hb (by simp; omega) (fun u hu => by simp at hu; subst hu; rfl)
    refine ⟨w.setRow (ρ id) ((b.1.map (SV.c ρ)).toArray.toList.take (off + 0) ++ [Value.pointer (some ⟨ρ id2, off2, none⟩)] ++ (b.1.map (SV.c ρ)).toArray.toList.drop (off + 0 + 1)).toArray, ?_, ?_, ?_⟩
    · simp only [execOp, ho, e1, e2, SV.c, Instr.storeAt, Instr.sureAddr, storeVar]
      rw [Sem.run_bind, Sem.run_bind, Sem.run_pure, Result.andThen_ok, Sem.run_bind, hs, Result.andThen_ok, if_neg (by simp [Value.cells])]
      have hst' := hst
      simp only [Value.cells] at hst' ⊢
      rw [hst']
      rfl
    · exact ⟨rfl, rfl, rfl, by simp, fun k hk => setRow_other w _ k _ hk, fun a => by
        by_cases ha : a.block = ρ id
        · simp [World.frozen?, ha, hb, cellsOf, setRow_heap w (ρ id) _ _ _ _ hb]
        · simp [World.frozen?, setRow_other w (ρ id) a.block _ ha]⟩
    · rw [setRow_heap w (ρ id) _ _ _ _ hb]
      simp [cellsOf, SV.c, List.map_take, List.map_drop]
theorem ev_loadap {ty : TypeId} {x : Operand} {id off id2 off2 : Nat} {b : Blk} {d : TypeDesc} (ho : o.op = .load ty x) (hgd : ∀ ρ, Region.wanted o (yielded ops (s.act ρ).tmps) = true) (hx : svEval s x = .p id off) (hm : s.mem id = some b)
    (hu : P.underlying ty = some d) (hd : isAggD d = true) (hs : ∀ w, (Go.sizeOf ty).run P w = .ok 1 w) (hv : b.1[off]? = some (.p id2 off2)) : Ev P ops w0 o s ⟨.ap id2 off2, .none, [id]⟩ :=
  .run _ _ hgd fun ρ w hw => by
    have h1 := svEval_c s ρ x
    rw [hx] at h1
    obtain ⟨_, hb⟩ := hw.2 id b (by simp) hm
    have hl' : (loadCells ⟨ρ id, off, none⟩ 1).run P w = .ok #[.pointer (some ⟨ρ id2, off2, none⟩)] w := run_loadCells_list w _ [.pointer (some ⟨ρ id2, off2, none⟩)] fun j v hj => by
      rw [add_at]
      match j, hj with
      | 0, hj =>
        simp at hj; subst hj
        simp only [World.cell?, hb, cellsOf]
        simp [hv, SV.c]
    simp [execOp, ho, h1, SV.c, Instr.loadAt, Instr.sureAddr, loadVar, run_isAgg hu, hd, hs, hl']
/-- a load of a pointer to a block of the call's own. -/
theorem ev_load1p {ty : TypeId} {x : Operand} {id off id2 off2 : Nat} {b : Blk} {d : TypeDesc} (ho : o.op = .load ty x) (hgd : ∀ ρ, Region.wanted o (yielded ops (s.act ρ).tmps) = true) (hx : svEval s x = .p id off) (hm : s.mem id = some b)
    (hu : P.underlying ty = some d) (hd : isAggD d = false) (hv : b.1[off]? = some (.p id2 off2)) : Ev P ops w0 o s ⟨.p id2 off2, .none, [id]⟩ :=
  .run _ _ hgd fun ρ w hw => by
    have h1 := svEval_c s ρ x
    rw [hx] at h1
    obtain ⟨_, hb⟩ := hw.2 id b (by simp) hm
    have hc : w.cell? ⟨ρ id, off, none⟩ = some (.pointer (some ⟨ρ id2, off2, none⟩)) := by simp [World.cell?, hb, cellsOf, hv, SV.c]
    simp [execOp, ho, h1, SV.c, Instr.loadAt, Instr.sureAddr, loadVar, run_isAgg hu, hd, hc]
/-- a call that makes a block, and answers with a struct of a pointer to it. -/
theorem ev_callnewf {f : FuncId} {xs : Array Operand} {ats : Array TypeId} {vs : List Value} {id : Nat} (_hd : o.dst = some id) (ho : o.op = .call { callee := .value (.func f), args := xs, argTypes := ats }) (hgd : ∀ ρ, Region.wanted o (yielded ops (s.act ρ).tmps) = true)
    (hx : unV (xs.toList.map (svEval s)) = some vs) (he : ∀ args w, (callFunc f args).run P w = .ok (.enter f args) w) (cs : List Value) (ty : TypeId)
    (hc : ∀ w, Gw w0 w → Calls P f vs.toArray w fun e w' => ∃ g, w.heap.size ≤ g ∧ e = .returned (.agg #[.pointer (some ⟨g, 0, none⟩)]) ∧ w'.heap[g]? = some (.cells cs.toArray ty (0, 0)) ∧ Gw w w') :
    Ev P ops w0 o s ⟨.ap id 0, .new id (cs.map .v, ty), []⟩ :=
  .callnew f (fun _ => vs.toArray) (.ap id 0) [] id (cs.map .v, ty) hgd (by simp [SV.has]) (fun ρ w _ => by
    obtain ⟨dst, op, type, pos, after, guard⟩ := o
    simp only at ho
    subst ho
    rw [execOp_call_go, args_c hx]
    simpa using he vs.toArray w) fun ρ w hs => (hc w hs.1).mono fun e w' ⟨g, h1, h2, h3, h4⟩ => ⟨g, h1, by simp [h2, SV.c], by rw [h3]; simp [cellsOf, Function.comp_def, SV.c], h4⟩
theorem post_newf {fn : Func} {R : Ending → World → Prop} {a ty id bid off : Nat} {d : TypeDesc} {b bb : Blk} {cs : List Value} (hf : fn.results = #[.cell a ty]) (ha : svEval s (.tmp a) = .p bid off) (hbm : s.mem bid = some bb) (hu : P.underlying ty = some d) (hd : isAggD d = true) (hs : ∀ w, (Go.sizeOf ty).run P w = .ok 1 w)
    (hv : bb.1[off]? = some (.p id 0)) (hm : s.mem id = some b) (hb : unV b.1 = some cs)
    (hR : ∀ g w, w0.heap.size ≤ g → w.heap[g]? = some (.cells cs.toArray b.2 (0, 0)) → Gw w0 w → R (.returned (.agg #[.pointer (some ⟨g, 0, none⟩)])) w) : ∀ ρ w, Rel w0 ρ s w → bodyPost P fn R .ret (s.act ρ) w := fun ρ w hr => by
  obtain ⟨h1, h2⟩ := hr.own id b hm
  obtain ⟨_, h3⟩ := hr.own bid bb hbm
  refine ⟨rfl, _, ?_, hR (ρ id) w h1 (by rw [h2]; simp [cellsOf, unV_eq hb, Function.comp_def, SV.c]) hr.gw⟩
  rw [results_eq, hf]
  have hl' : (loadCells ⟨ρ bid, off, none⟩ 1).run P w = .ok #[.pointer (some ⟨ρ id, 0, none⟩)] w := run_loadCells_list w _ [.pointer (some ⟨ρ id, 0, none⟩)] fun j v hj => by
    rw [add_at]
    match j, hj with
    | 0, hj =>
      simp at hj; subst hj
      simp only [World.cell?, h3, cellsOf]
      simp [hv, SV.c]
  have e1 : (rvRun (s.act ρ).tmps (.cell a ty)).run P w = .ok (.agg #[.pointer (some ⟨ρ id, 0, none⟩)]) w := by
    simp only [rvRun, getD_act, ha, SV.c]
    simp [asAddr, loadVar, run_isAgg hu, hd, hs, hl']
  simp [e1]
end
end Go.Toll
