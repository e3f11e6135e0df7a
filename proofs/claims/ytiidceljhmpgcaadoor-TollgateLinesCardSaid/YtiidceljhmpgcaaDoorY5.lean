import Derived.OrdersIn
import Derived.LoopNIn
import Derived.OwnWalkIn
import Derived.RangeFuncNested
import Derived.Test.YtiidceljhmpgcaaDoorY4
section
namespace Go.Vx
open Go.RowKit Go.Toll
section
variable {P : Program} {w0 : World} {F : Fence} {n : Nat} {df : List Deferred}
def Wd (F : Fence) : Prop := F = Fence.wide ∨ ∃ l, F = Fence.wide.inRound l
theorem Wd.fn {F : Fence} (h : Wd F) (f : FuncId) : F.fn f := by
  rcases h with rfl | ⟨l, rfl⟩ <;> exact True.intro
theorem Wd.depth {F : Fence} (h : Wd F) : F.depth = none := by
  rcases h with rfl | ⟨l, rfl⟩ <;> rfl
theorem Wd.calls {F : Fence} (h : Wd F) {n : Nat} {f : FuncId} {args : Array Value} {w : World} {R : Ending → World → Prop} (c : Calls P f args w R) : CallsIn F n P f args w R := by
  rcases h with rfl | ⟨l, rfl⟩
  · exact callsIn_wide.2 c
  · exact CallsIn.inRound l (callsIn_wide.2 c)
theorem Wd.fenced {F : Fence} (h : Wd F) : Machine.fenced P F = Machine.fenced P Fence.wide := by
  rcases h with rfl | ⟨l, rfl⟩
  · rfl
  · exact fenced_inRound P _ l
def nodefB (o : Oper) : Bool := match o.op with | .defer _ => false | _ => true
theorem nodef {o : Oper} (h : nodefB o = true) : ∀ c, o.op ≠ .defer c := fun c e => by simp [nodefB, e] at h
theorem op_in (hF : Wd F) {o : Oper} (hd : nodefB o = true) {t : Array Value} {w : World} {K K' : Act → World → Prop} {Q' : Exit → Act → World → Prop}
    (hK : ∀ a w, K a w → a.defers = [] ∧ K' ⟨a.tmps, df⟩ w) (h : o.wp P ⟨t, []⟩ w K (fun _ _ _ => False)) : o.wpIn F n P ⟨t, df⟩ w K' Q' := by
  refine ⟨fun f _ => hF.fn f, ?_⟩
  rw [Oper.semAt_plain F _ o (nodef hd)]
  have hev : (⟨t, df⟩ : Act).eval = (⟨t, []⟩ : Act).eval := by funext x; cases x <;> rfl
  rw [hev]
  unfold Oper.wp at h
  have hput : ∀ (d : Option Tmp) (v : Value) (w : World), K ((⟨t, []⟩ : Act).put d v) w → K' ((⟨t, df⟩ : Act).put d v) w := fun d v w hk => by
    have := (hK _ _ hk).2
    cases d <;> exact this
  have hdep : F.depth.isSome = true → 1 ≤ n := fun e => by rw [hF.depth] at e; cases e
  generalize (execOp (⟨t, []⟩ : Act).eval o).run P w = r at h ⊢
  cases r with
  | halt x w' => cases x <;> exact h.elim
  | ok x w' =>
    cases x with
    | value v => exact hput _ _ _ h
    | skip => exact hput _ _ _ h
    | defer d =>
      have := (hK _ _ h).1
      cases hdst : o.dst <;> simp [Act.put, hdst] at this
    | enter f args =>
      refine ⟨hdep, hF.calls (Calls.mono h fun e w' he => ?_)⟩
      cases e with
      | returned v => exact hput _ _ _ he
      | panicked c => exact he.elim
      | outgrown => obtain ⟨_, _, hx⟩ := he; exact hx.elim
    | row s args =>
      refine ⟨hdep, fun c cs _ => ?_⟩
      obtain ⟨v, w2, hk, hs⟩ := (show Rows P s args w' _ from h) c cs
      exact ⟨v, w2, hput _ _ _ hk, by rw [hF.fenced]; exact stepsIn_wide.2 hs⟩
    | _ => exact h.elim
theorem opif_in (hF : Wd F) {ops : Array Oper} {o : Oper} (hd : nodefB o = true) {t : Array Value} {w : World} {K K' : Act → World → Prop} {Q' : Exit → Act → World → Prop}
    (hK : ∀ a w, K a w → a.defers = [] ∧ K' ⟨a.tmps, df⟩ w)
    (h : if Region.wanted o (yielded ops t) then o.wp P ⟨t, []⟩ w K (fun _ _ _ => False) ∨ (o.asks P ⟨t, []⟩ w ∧ LetsOut (fun _ _ _ => False)) else K ((⟨t, []⟩ : Act).put o.dst undef) w) :
    if Region.wanted o (yielded ops t) then o.wpIn F n P ⟨t, df⟩ w K' Q' else (∀ f, o.about P w (⟨t, df⟩ : Act).eval = some f → F.fn f) ∧ K' ((⟨t, df⟩ : Act).put o.dst undef) w := by
  split
  · rename_i hw
    rw [if_pos hw] at h
    rcases h with h | ⟨_, _, _, h⟩
    · exact op_in hF hd hK h
    · exact h.elim
  · rename_i hw
    rw [if_neg hw] at h
    refine ⟨fun f _ => hF.fn f, ?_⟩
    have := (hK _ _ h).2
    cases hdst : o.dst <;> rw [hdst] at this <;> exact this
theorem ve_listIn (hF : Wd F) {ops : Array Oper} {l : List Oper} {E : List Eff} {s s' : VS} (h : VE P ops w0 l E s s') : (∀ o ∈ l, isSelect o.op = false ∧ nodefB o = true) → plainB E = true →
    (∀ e ∈ E, ∀ id ∈ e.nw, Fresh id s) → ∀ {Q : Exit → Act → World → Prop}, (∀ ρ w, Rel w0 ρ s' w → Q .normal ⟨(s'.act ρ).tmps, df⟩ w) →
    ∀ {ρ : Nat → Nm} {w : World}, Rel w0 ρ s w → wpListIn F n P ops Q l ⟨(s.act ρ).tmps, df⟩ w := by
  induction h with
  | nil s => intro _ _ _ Q hQ ρ w hr; exact hQ ρ w hr
  | @cons o l e E s s' h r ih =>
    intro hsel hB hfr Q hQ ρ w hr
    simp only [plainB, Bool.and_eq_true] at hB
    have hnext : ∀ f ∈ E, ∀ id ∈ f.nw, Fresh id (s.put o.dst e) := by
      intro f hf id hid
      have h1 := List.all_eq_true.1 (List.all_eq_true.1 hB.1 f hf) id hid
      simp only [Bool.and_eq_true, Bool.not_eq_true'] at h1
      exact fresh_put h.ok (hfr f (by simp [hf]) id hid) h1.1 (by simpa using h1.2)
    have := h.step (K := fun a w => a.defers = [] ∧ wpListIn F n P ops Q l ⟨a.tmps, df⟩ w) (Q := fun _ _ _ => False) (s := s) (by intro cs b hh; have := (hsel o (by simp)).1; rw [hh] at this; cases this) (fun _ _ => rfl) (fun _ _ => rfl) (hfr e (by simp)) hr
      (fun ρ' w' hr' => ⟨rfl, ih (fun o ho => hsel o (by simp [ho])) hB.2 hnext hQ hr'⟩)
    unfold wpListIn
    exact opif_in hF (hsel o (by simp)).2 (fun _ _ hk => hk) this
theorem ve_anyIn (hF : Wd F) {ops : Array Oper} {l : List Oper} {E : List Eff} {s s' : VS} (hops : ops = l.toArray) (h : VE P ops w0 l E s s') (hB : veB ops l E = true) (hnd : l.all nodefB = true)
    (hfr : ∀ e ∈ E, ∀ id ∈ e.nw, Fresh id s) {Q : Exit → Act → World → Prop} (hQ : ∀ ρ w, Rel w0 ρ s' w → Q .normal ⟨(s'.act ρ).tmps, df⟩ w) :
    ∀ (fuel : Nat) (listed : Array Bool) (ρ : Nat → Nm) (w : World), listed.size = l.length →
      (∀ j o, l[j]? = some o → listed.getD j false = true → ∀ e ∈ o.after, Region.binds .any e = true → listed.getD e.on false = true) →
      cnt (fun j => listed.getD j false) l.length + fuel = l.length →
      Rel w0 ρ (st (De l) (Fe E) s (fun j => listed.getD j false) l.length) w →
      wpAnyIn F n P .any ops Q fuel listed ⟨((st (De l) (Fe E) s (fun j => listed.getD j false) l.length).act ρ).tmps, df⟩ w :=
  ve_anyG hops h hB hfr (X := fun fuel listed a w => wpAnyIn F n P .any ops Q fuel listed ⟨a.tmps, df⟩ w) (fun _ ρ w hn hr => ⟨hn, hQ ρ w hr⟩)
    (fun fuel listed t ρ w hne hall => ⟨fun hn => absurd hn hne, fun i hi => by
      have h1 := hall i hi (fun a w => a.defers = [] ∧ wpAnyIn F n P .any ops Q fuel (listed.setIfInBounds i true) ⟨a.tmps, df⟩ w) (fun _ _ _ => False) (fun _ _ _ hx => ⟨rfl, hx⟩)
      unfold wpOp at h1
      unfold wpOpIn
      cases ho : ops[i]? with
      | none => rw [ho] at h1; exact h1.2
      | some o =>
        rw [ho] at h1
        have hmem : o ∈ l := by
          rw [hops] at ho
          exact List.mem_of_getElem? (by simpa using ho)
        exact opif_in hF (List.all_eq_true.1 hnd o hmem) (fun _ _ hk => hk) h1⟩)
theorem ve_regionIn (hF : Wd F) {id : Nat} {l : List Oper} {E : List Eff} {s s' : VS} (hm : P.follows .mixedOrders = true) (h : VE P l.toArray w0 l E s s') (hB : veB l.toArray l E = true) (hnd : l.all nodefB = true)
    (hfr : ∀ e ∈ E, ∀ id ∈ e.nw, Fresh id s) {Q : Exit → Act → World → Prop} (hQ : ∀ ρ w, Rel w0 ρ s' w → Q .normal ⟨(s'.act ρ).tmps, df⟩ w)
    {ρ : Nat → Nm} {w : World} (hr : Rel w0 ρ s w) : (Code.region id l.toArray true).wpIn F n P Q ⟨(s.act ρ).tmps, df⟩ w := by
  refine wpIn_region_any hm ?_
  have hfun : (fun j => (Array.replicate l.toArray.size false).getD j false) = fun _ => false := by funext j; exact getD_replicate_false _ _
  have h00 : ∀ k, st (De l) (Fe E) s (fun _ => false) k = s := by
    intro k
    induction k with
    | zero => rfl
    | succ k ih => simp only [st]; exact ih
  have h0 : ∀ k, st (De l) (Fe E) s (fun j => (Array.replicate l.toArray.size false).getD j false) k = s := by rw [hfun]; exact h00
  have hcnt : cnt (fun j => (Array.replicate l.toArray.size false).getD j false) l.length = 0 := by rw [hfun]; exact cnt_false _
  have hr' : Rel w0 ρ s { w with drawn := w.drawn + 1 } := by
    obtain ⟨hb, S, h⟩ := hr
    exact ⟨hb.drew, S, ⟨fun id b hid => (h.good id b hid).keep rfl (fun _ _ _ => rfl) (fun _ _ _ => rfl) (Nat.le_refl _) (fun _ _ => rfl) (fun _ => rfl), h.lt, h.fr, h.dis, h.inj⟩⟩
  have := ve_anyIn (n := n) (df := df) hF rfl h hB hnd hfr hQ l.toArray.size (Array.replicate l.toArray.size false) ρ { w with drawn := w.drawn + 1 } (by simp)
    (fun j o _ hl => by rw [getD_replicate_false] at hl; cases hl) (by rw [hcnt]; simp) (by rw [h0]; exact hr')
  rw [h0] at this
  exact this
def DOk (F : Fence) (n : Nat) (df : List Deferred) (P : Program) (w0 : World) (s : VS) (c : Code) (Q : Exit → VS → Prop) : Prop :=
  ∀ ρ w (R : Exit → Act → World → Prop), Rel w0 ρ s w → (∀ e ρ' s' w', Q e s' → Rel w0 ρ' s' w' → R e ⟨(s'.act ρ').tmps, df⟩ w') → c.wpIn F n P R ⟨(s.act ρ).tmps, df⟩ w
def DSeqQ (F : Fence) (n : Nat) (df : List Deferred) (P : Program) (w0 : World) (d : Code) (Q : Exit → VS → Prop) : Exit → VS → Prop
  | .normal, s => DOk F n df P w0 s d Q
  | e, s => Q e s
theorem dseq {c d : Code} {s : VS} {Q : Exit → VS → Prop} (h : DOk F n df P w0 s c (DSeqQ F n df P w0 d Q)) : DOk F n df P w0 s (.seq c d) Q := by
  intro ρ w R hr hQ
  refine wpIn_seq (h ρ w _ hr ?_)
  intro e ρ' s' w' hq hr'
  cases e with
  | normal => exact hq ρ' w' R hr' hQ
  | _ => exact hQ _ _ _ _ hq hr'
theorem dblock {id : Nat} {c : Code} {s : VS} {Q : Exit → VS → Prop} (h : DOk F n df P w0 s c (BlockQ id Q)) : DOk F n df P w0 s (.block id c) Q := by
  intro ρ w R hr hQ
  refine wpIn_block (h ρ w _ hr ?_)
  intro e ρ' s' w' hq hr'
  cases e with
  | exit k =>
    simp only [BlockQ] at hq
    simp only [Exit.inBlock]
    split
    · rename_i hk; rw [if_pos hk] at hq; exact hQ _ _ _ _ hq hr'
    · rename_i hk; rw [if_neg hk] at hq; exact hQ _ _ _ _ hq hr'
  | _ => exact hQ _ _ _ _ hq hr'
theorem dskip {s : VS} {Q : Exit → VS → Prop} (h : Q .normal s) : DOk F n df P w0 s .skip Q := fun _ _ _ hr hQ => wpIn_skip (hQ _ _ _ _ h hr)
theorem dexit {id : Nat} {s : VS} {Q : Exit → VS → Prop} (h : Q (.exit id) s) : DOk F n df P w0 s (.exit id) Q := fun _ _ _ hr hQ => wpIn_exit (hQ _ _ _ _ h hr)
theorem dcond {x : Operand} {b : Bool} {c d : Code} {s : VS} {Q : Exit → VS → Prop} (hx : svEval s x = .v (.bool b)) (h : DOk F n df P w0 s (if b then c else d) Q) : DOk F n df P w0 s (.cond x c d) Q :=
  fun ρ w R hr hQ => wpIn_cond (t := b) (by
    have := svEval_c s ρ x
    rw [hx] at this
    exact (show (⟨(s.act ρ).tmps, df⟩ : Act).eval x = (s.act ρ).eval x by cases x <;> rfl).trans this) (h ρ w R hr hQ)
theorem dcond_t {x : Operand} {c d : Code} {s : VS} {Q : Exit → VS → Prop} (hx : svEval s x = .v (.bool true)) (h : DOk F n df P w0 s c Q) : DOk F n df P w0 s (.cond x c d) Q := dcond hx h
theorem dcond_f {x : Operand} {c d : Code} {s : VS} {Q : Exit → VS → Prop} (hx : svEval s x = .v (.bool false)) (h : DOk F n df P w0 s d Q) : DOk F n df P w0 s (.cond x c d) Q := dcond hx h
theorem drd (hF : Wd F) {id : Nat} {l : List Oper} {E : List Eff} {fr : List SV} {m : List (Nat × Blk)} {s' : VS} {Q : Exit → VS → Prop} (hm : P.follows .mixedOrders = true) (h : VE P l.toArray w0 l E ⟨fr, memOf m⟩ s')
    (hB : (veB l.toArray l E && freshAll fr m E && l.all nodefB) = true) (hQ : Q .normal s') : DOk F n df P w0 ⟨fr, memOf m⟩ (.region id l.toArray true) Q := by
  simp only [Bool.and_eq_true] at hB
  exact fun _ _ _ hr hR => ve_regionIn hF hm h hB.1.1 hB.2 (fresh_all hB.1.2) (fun _ _ hr' => hR _ _ _ _ hQ hr') hr
theorem drp (hF : Wd F) {id : Nat} {l : List Oper} {E : List Eff} {fr : List SV} {m : List (Nat × Blk)} {s' : VS} {Q : Exit → VS → Prop} (h : VE P l.toArray w0 l E ⟨fr, memOf m⟩ s')
    (hB : (l.all (fun o => !isSelect o.op && nodefB o) && plainB E && freshAll fr m E) = true) (hQ : Q .normal s') : DOk F n df P w0 ⟨fr, memOf m⟩ (.region id l.toArray false) Q := by
  simp only [Bool.and_eq_true] at hB
  refine fun _ _ _ hr hR => wpIn_region_lit (ve_listIn hF h (fun o ho => ?_) hB.1.2 (fresh_all hB.2) (fun _ _ hr' => hR _ _ _ _ hQ hr') hr)
  have := List.all_eq_true.1 hB.1.1 o ho
  simpa using this
theorem DOk.mono {s : VS} {c : Code} {Q Q' : Exit → VS → Prop} (h : DOk F n df P w0 s c Q) (hq : ∀ e s', Q e s' → Q' e s') : DOk F n df P w0 s c Q' := fun ρ w R hr hQ =>
  h ρ w R hr fun e ρ' s' w' h1 h2 => hQ e ρ' s' w' (hq e s' h1) h2
theorem DOk.weak {s : VS} {B : (Nat → Value) → VS} {c : Code} {Q : Exit → VS → Prop} (hw : Weaker w0 s B) (h : ∀ f, DOk F n df P w0 (B f) c Q) : DOk F n df P w0 s c Q := fun ρ w R hr hQ => by
  obtain ⟨f, ρ', h1, h2⟩ := hw ρ w hr
  rw [← h2]
  exact h f ρ' w R h1 hQ
def DRounds (F : Fence) (n : Nat) (df : List Deferred) (P : Program) (w0 : World) (c : Code) (Q : Exit → VS → Prop) : Nat → VS → Prop
  | 0, _ => False
  | k + 1, s => DOk F n df P w0 s c fun e s' => match e with | .normal => DRounds F n df P w0 c Q k s' | e => Q e s'
theorem dloop {c : Code} {s : VS} {Q : Exit → VS → Prop} (k : Nat) (h : DRounds F n df P w0 c Q k s) : DOk F n df P w0 s (.loop c) Q := by
  intro ρ w R hr hQ
  refine wpIn_loop_rounds k ?_
  induction k generalizing s ρ w with
  | zero => exact h.elim
  | succ k ih =>
    rw [roundsIn_succ]
    refine h ρ w _ hr ?_
    intro e ρ' s' w' hq hr'
    cases e with
    | normal => exact ih hq ρ' w' hr'
    | _ => exact hQ _ _ _ _ hq hr'
theorem dloop_w {α : Type} (A : α → (Nat → Value) → VS) (μ : α → Nat) {c : Code} {Q : Exit → VS → Prop} (step : ∀ x f, DOk F n df P w0 (A x f) c (LoopQ w0 A μ x Q)) (x : α) {s : VS} (h : Weaker w0 s (A x)) : DOk F n df P w0 s (.loop c) Q := by
  have key : ∀ N x s, μ x ≤ N → Weaker w0 s (A x) → DRounds F n df P w0 c Q (N + 1) s := by
    intro N
    induction N with
    | zero =>
      intro x s hx hs
      refine DOk.weak hs fun f => (step x f).mono fun e s' hq => ?_
      cases e with
      | normal => obtain ⟨x', hx', _⟩ := hq; omega
      | _ => exact hq
    | succ N ih =>
      intro x s hx hs
      refine DOk.weak hs fun f => (step x f).mono fun e s' hq => ?_
      cases e with
      | normal => obtain ⟨x', hx', hs'⟩ := hq; exact ih x' s' (by omega) hs'
      | _ => exact hq
  exact dloop (μ x + 1) (key (μ x) x s (Nat.le_refl _) h)
end
end Go.Vx
end
section
namespace Go.Proofs.YtiidceljhmpgcaaDoor
open Go.RowKit Go.Vx
open Go.Toll (Gw)
open TollSha
set_option maxHeartbeats 4000000
set_option maxRecDepth 100000
def dv (x : BitVec 64) : Value := .int .u64 (x.toNat : Int)
theorem w64 (x : BitVec 64) : IntKind.u64.wrap (x.toNat : Int) = (x.toNat : Int) := by
  have := x.isLt
  rw [IntKind.wrap_u64]; omega
theorem of64 (x : BitVec 64) : BitVec.ofInt 64 (x.toNat : Int) = x := by
  apply BitVec.eq_of_toNat_eq
  rw [BitVec.toNat_ofInt]
  have := x.isLt
  omega
theorem bx64 (x y : BitVec 64) : bits .xor .u64 (x.toNat : Int) (y.toNat : Int) = ((x ^^^ y).toNat : Int) := by
  show IntKind.u64.wrap ((BitVec.ofInt 64 (x.toNat : Int) ^^^ BitVec.ofInt 64 (y.toNat : Int)).toNat : Int) = _
  rw [of64, of64, w64]
theorem ba64 (x y : BitVec 64) : bits .and .u64 (x.toNat : Int) (y.toNat : Int) = ((x &&& y).toNat : Int) := by
  show IntKind.u64.wrap ((BitVec.ofInt 64 (x.toNat : Int) &&& BitVec.ofInt 64 (y.toNat : Int)).toNat : Int) = _
  rw [of64, of64, w64]
theorem bo64 (x y : BitVec 64) : bits .or .u64 (x.toNat : Int) (y.toNat : Int) = ((x ||| y).toNat : Int) := by
  show IntKind.u64.wrap ((BitVec.ofInt 64 (x.toNat : Int) ||| BitVec.ofInt 64 (y.toNat : Int)).toNat : Int) = _
  rw [of64, of64, w64]
theorem xor64 (x y : BitVec 64) (p q : Operand) (w : World) : (do eqGuard .xor 63 p q (dv x) (dv y); binOp .xor 63 (dv x) (dv y) : Sem Value).run Tryd.prog w = .ok (dv (x ^^^ y)) w := by
  have h := bx64 x y
  unfold dv
  go_simp
  try exact h
theorem and64 (x y : BitVec 64) (p q : Operand) (w : World) : (do eqGuard .and 63 p q (dv x) (dv y); binOp .and 63 (dv x) (dv y) : Sem Value).run Tryd.prog w = .ok (dv (x &&& y)) w := by
  have h := ba64 x y
  unfold dv
  go_simp
  try exact h
theorem or64 (x y : BitVec 64) (p q : Operand) (w : World) : (do eqGuard .or 63 p q (dv x) (dv y); binOp .or 63 (dv x) (dv y) : Sem Value).run Tryd.prog w = .ok (dv (x ||| y)) w := by
  have h := bo64 x y
  unfold dv
  go_simp
  try exact h
theorem shld (x : BitVec 64) (k : Nat) (hk : k < 64) (p q : Operand) (w : World) : (do eqGuard .shl 63 p q (dv x) (.int .u64 (k : Nat)); binOp .shl 63 (dv x) (.int .u64 (k : Nat)) : Sem Value).run Tryd.prog w = .ok (dv (x <<< k)) w := by
  have h2 : (x <<< k).toNat = (x.toNat * 2 ^ k) % 18446744073709551616 := by rw [BitVec.toNat_shiftLeft, Nat.shiftLeft_eq]
  have h : IntKind.u64.wrap ((x.toNat : Int) * 2 ^ k) = ((x.toNat * 2 ^ k % 18446744073709551616 : Nat) : Int) := by
    rw [IntKind.wrap_u64]
    have : ((x.toNat : Int) * 2 ^ k) = ((x.toNat * 2 ^ k : Nat) : Int) := by rw [Int.natCast_mul, Int.natCast_pow]; rfl
    rw [this]; omega
  unfold dv
  rw [h2]
  generalize x.toNat = y at h
  obtain ⟨z, hz⟩ : ∃ z, y * 2 ^ k % 18446744073709551616 = z := ⟨_, rfl⟩
  rw [hz] at h ⊢
  go_simp
  try rw [Nat.min_eq_left (by omega)]
  try exact h
theorem shrd (x : BitVec 64) (k : Nat) (hk : k < 64) (p q : Operand) (w : World) : (do eqGuard .shr 63 p q (dv x) (.int .u64 (k : Nat)); binOp .shr 63 (dv x) (.int .u64 (k : Nat)) : Sem Value).run Tryd.prog w = .ok (dv (x >>> k)) w := by
  have h : (x >>> k).toNat = x.toNat / 2 ^ k := by rw [BitVec.toNat_ushiftRight, Nat.shiftRight_eq_div_pow]
  unfold dv
  rw [h]
  go_simp
  try rw [Nat.min_eq_left (by omega)]
theorem shrdi (x : BitVec 64) (k : Nat) (hk : k < 64) (p q : Operand) (w : World) : (do eqGuard .shr 63 p q (dv x) (.int .i64 (k : Nat)); binOp .shr 63 (dv x) (.int .i64 (k : Nat)) : Sem Value).run Tryd.prog w = .ok (dv (x >>> k)) w := by
  have h : (x >>> k).toNat = x.toNat / 2 ^ k := by rw [BitVec.toNat_ushiftRight, Nat.shiftRight_eq_div_pow]
  unfold dv
  rw [h]
  go_simp
  try rw [Nat.min_eq_left (by omega)]
theorem cv64 {b : Nat} (h : b < 256) (w : World) : (convert 5 63 (b8 b)).run Tryd.prog w = .ok (dv (BitVec.ofNat 64 b)) w := by
  have e : (BitVec.ofNat 64 b).toNat = b := by rw [BitVec.toNat_ofNat]; omega
  have e2 : IntKind.u64.wrap (b : Int) = (b : Int) := by rw [IntKind.wrap_u64]; omega
  unfold dv b8 convert
  rw [e]
  go_simp
  try exact e2
theorem cvl64 {n : Nat} (h : n < 9223372036854775808) (w : World) : (convert 3 63 (.int .i64 (n : Nat))).run Tryd.prog w = .ok (dv (BitVec.ofNat 64 n)) w := by
  have e : (BitVec.ofNat 64 n).toNat = n := by rw [BitVec.toNat_ofNat]; omega
  have e2 : IntKind.u64.wrap (n : Int) = (n : Int) := by rw [IntKind.wrap_u64]; omega
  unfold dv convert
  rw [e]
  go_simp
  try exact e2
theorem cv8 (x : BitVec 64) (w : World) : (convert 63 5 (dv x)).run Tryd.prog w = .ok (b8 (x.toNat % 256)) w := by
  have e2 : IntKind.u8.wrap (x.toNat : Int) = ((x.toNat % 256 : Nat) : Int) := by rw [IntKind.wrap_u8']; omega
  unfold dv b8 convert
  go_simp
  try exact e2
theorem cv8w (x : W) (w : World) : (convert 58 5 (uv x)).run Tryd.prog w = .ok (b8 (x.toNat % 256)) w := by
  have e2 : IntKind.u8.wrap (x.toNat : Int) = ((x.toNat % 256 : Nat) : Int) := by rw [IntKind.wrap_u8']; omega
  unfold uv b8 convert
  go_simp
  try exact e2
theorem eql64 (x y : BitVec 64) (p q : Operand) (w : World) : (do eqGuard .eql 63 p q (dv x) (dv y); binOp .eql 63 (dv x) (dv y) : Sem Value).run Tryd.prog w = .ok (.bool (decide (x = y))) w := by
  have h : ((x.toNat : Int) = (y.toNat : Int)) ↔ x = y := by rw [Int.ofNat_inj]; exact ⟨BitVec.eq_of_toNat_eq, fun h => by rw [h]⟩
  have h2 : decide ((x.toNat : Int) = (y.toNat : Int)) = decide (x = y) := decide_eq_decide.2 h
  unfold dv
  rw [← h2]
  generalize (x.toNat : Int) = a
  generalize (y.toNat : Int) = b
  go_simp
  rfl
theorem u8a (b c : Nat) (hb : b < 256) (hc : c < 256) : bits .and .u8 (b : Int) (c : Int) = ((b &&& c : Nat) : Int) := by
  have h := Nat.and_lt_two_pow (n := 8) b (y := c) (by omega)
  show IntKind.u8.wrap ((BitVec.ofInt 8 (b : Int) &&& BitVec.ofInt 8 (c : Int)).toNat : Int) = _
  rw [BitVec.toNat_and, BitVec.toNat_ofInt, BitVec.toNat_ofInt]
  have h1 : ((b : Int) % ((2 ^ 8 : Nat) : Int)).toNat = b := by omega
  have h2 : ((c : Int) % ((2 ^ 8 : Nat) : Int)).toNat = c := by omega
  rw [h1, h2, IntKind.wrap_u8']
  omega
theorem u8o (b c : Nat) (hb : b < 256) (hc : c < 256) : bits .or .u8 (b : Int) (c : Int) = ((b ||| c : Nat) : Int) := by
  have h := Nat.or_lt_two_pow (n := 8) (x := b) (y := c) (by omega) (by omega)
  show IntKind.u8.wrap ((BitVec.ofInt 8 (b : Int) ||| BitVec.ofInt 8 (c : Int)).toNat : Int) = _
  rw [BitVec.toNat_or, BitVec.toNat_ofInt, BitVec.toNat_ofInt]
  have h1 : ((b : Int) % ((2 ^ 8 : Nat) : Int)).toNat = b := by omega
  have h2 : ((c : Int) % ((2 ^ 8 : Nat) : Int)).toNat = c := by omega
  rw [h1, h2, IntKind.wrap_u8']
  omega
theorem and8 {b c : Nat} (hb : b < 256) (hc : c < 256) (p q : Operand) (w : World) : (do eqGuard .and 5 p q (b8 b) (b8 c); binOp .and 5 (b8 b) (b8 c) : Sem Value).run Tryd.prog w = .ok (b8 (b &&& c)) w := by
  have h := u8a b c hb hc
  unfold b8
  go_simp
  try exact h
theorem or8 {b c : Nat} (hb : b < 256) (hc : c < 256) (p q : Operand) (w : World) : (do eqGuard .or 5 p q (b8 b) (b8 c); binOp .or 5 (b8 b) (b8 c) : Sem Value).run Tryd.prog w = .ok (b8 (b ||| c)) w := by
  have h := u8o b c hb hc
  unfold b8
  go_simp
  try exact h
def sl8 (b k : Nat) : Nat := b * 2 ^ k % 256
def sr8 (b k : Nat) : Nat := b / 2 ^ k
theorem sl8_lt (b k : Nat) : sl8 b k < 256 := Nat.mod_lt _ (by decide)
theorem sr8_lt {b : Nat} (k : Nat) (h : b < 256) : sr8 b k < 256 := Nat.lt_of_le_of_lt (Nat.div_le_self _ _) h
theorem xor_lt {a b : Nat} (ha : a < 256) (hb : b < 256) : a ^^^ b < 256 := Nat.xor_lt_two_pow (n := 8) (by omega) (by omega)
theorem or_lt {a b : Nat} (ha : a < 256) (hb : b < 256) : a ||| b < 256 := Nat.or_lt_two_pow (n := 8) (by omega) (by omega)
theorem hl8 {b : Nat} (k : Nat) (hk : k < 8) (p q : Operand) (w : World) : (do eqGuard .shl 5 p q (b8 b) (.int .u64 (k : Nat)); binOp .shl 5 (b8 b) (.int .u64 (k : Nat)) : Sem Value).run Tryd.prog w = .ok (b8 (sl8 b k)) w := by
  have h : IntKind.u8.wrap ((b : Int) * 2 ^ k) = ((sl8 b k : Nat) : Int) := by
    rw [IntKind.wrap_u8']
    have : ((b : Int) * 2 ^ k) = ((b * 2 ^ k : Nat) : Int) := by rw [Int.natCast_mul, Int.natCast_pow]; rfl
    unfold sl8
    rw [this]; omega
  unfold b8
  generalize sl8 b k = z at h
  go_simp
  try rw [Nat.min_eq_left (by omega)]
  try exact h
theorem hr8 {b : Nat} (k : Nat) (hk : k < 8) (p q : Operand) (w : World) : (do eqGuard .shr 5 p q (b8 b) (.int .u64 (k : Nat)); binOp .shr 5 (b8 b) (.int .u64 (k : Nat)) : Sem Value).run Tryd.prog w = .ok (b8 (sr8 b k)) w := by
  have h : sr8 b k = b / 2 ^ k := rfl
  unfold b8
  rw [h]
  go_simp
  try rw [Nat.min_eq_left (by omega)]
theorem neq8 {b c : Nat} (p q : Operand) (w : World) : (do eqGuard .neq 5 p q (b8 b) (b8 c); binOp .neq 5 (b8 b) (b8 c) : Sem Value).run Tryd.prog w = .ok (.bool (decide (b ≠ c))) w := by
  have h2 : decide ((b : Int) ≠ (c : Int)) = decide (b ≠ c) := decide_eq_decide.2 (by omega)
  unfold b8
  rw [← h2]
  generalize (b : Int) = a
  generalize (c : Int) = d
  go_simp
  first | done | rfl | simp [bne, beq_eq_decide]
theorem eql8 {b c : Nat} (p q : Operand) (w : World) : (do eqGuard .eql 5 p q (b8 b) (b8 c); binOp .eql 5 (b8 b) (b8 c) : Sem Value).run Tryd.prog w = .ok (.bool (decide (b = c))) w := by
  have h2 : decide ((b : Int) = (c : Int)) = decide (b = c) := decide_eq_decide.2 (by omega)
  unfold b8
  rw [← h2]
  generalize (b : Int) = a
  generalize (c : Int) = d
  go_simp
  rfl
theorem gtr8 {b c : Nat} (p q : Operand) (w : World) : (do eqGuard .gtr 5 p q (b8 b) (b8 c); binOp .gtr 5 (b8 b) (b8 c) : Sem Value).run Tryd.prog w = .ok (.bool (decide (b > c))) w := by
  have h2 : decide ((b : Int) > (c : Int)) = decide (b > c) := decide_eq_decide.2 (by omega)
  unfold b8
  rw [← h2]
  generalize (b : Int) = a
  generalize (c : Int) = d
  go_simp
def tb (n : Nat) (f : Nat → Nat) : List Value := (List.range n).map fun k => b8 (f k)
def up (f : Nat → Nat) (i v : Nat) : Nat → Nat := fun k => if k = i then v else f k
theorem tb_len {n : Nat} {f : Nat → Nat} : (tb n f).length = n := by simp [tb]
theorem tb_get {n i : Nat} {f : Nat → Nat} (h : i < n) : (tb n f)[i]? = some (b8 (f i)) := by simp [tb, h]
theorem tb_ext {n : Nat} {f g : Nat → Nat} (h : ∀ k, k < n → f k = g k) : tb n f = tb n g := by
  unfold tb
  exact List.map_congr_left fun k hk => by rw [h k (List.mem_range.1 hk)]
theorem tb_set {n i v : Nat} {f : Nat → Nat} : (tb n f).set i (b8 v) = tb n (up f i v) := by
  apply List.ext_getElem?
  intro j
  rw [List.getElem?_set]
  by_cases hj : j < n
  · rw [tb_get hj, tb_get hj]
    unfold up
    by_cases h : i = j
    · subst h; simp [tb_len, hj]
    · rw [if_neg h, if_neg (Ne.symm h)]
  · rw [List.getElem?_eq_none (by rw [tb_len]; omega), List.getElem?_eq_none (by rw [tb_len]; omega)]
    split
    · rename_i h; rw [tb_len, if_neg (by omega)]
    · rfl
theorem tb_set' {n i v : Nat} {f g : Nat → Nat} (h : ∀ k, k < n → up f i v k = g k) : (tb n f).set i (b8 v) = tb n g := by rw [tb_set]; exact tb_ext h
theorem tb_one {n : Nat} {f : Nat → Nat} : (tb n f).all (·.oneCell') = true := by
  rw [List.all_eq_true]
  intro x hx
  obtain ⟨k, _, rfl⟩ := List.mem_map.1 hx
  rfl
abbrev By (f : Nat → Nat) : Prop := ∀ k, f k < 256
abbrev A16 (f : Nat → Nat) : Value := .agg (tb 16 f).toArray
section
variable {P : Program} {w0 : World} {ops : Array Oper} {o : Oper} {s : VS}
theorem ev_stt {ty : TypeId} {x y : Operand} {id off n v : Nat} {f : Nat → Nat} {bt : TypeId} (g : Nat → Nat) (ho : o.op = .store ty x y) (hgd : Want ops o s) (hx : svEval s x = .p id off) (hm : s.mem id = some (.arr (tb n f) bt)) (hy : svEval s y = .v (b8 v))
    (hs : ∀ w, (Go.sizeOf ty).run P w = .ok 1 w) (hoff : off < n) (h : ∀ k, k < n → up f off v k = g k) : Ev P ops w0 o s ⟨.v undef, [(id, .arr (tb n g) bt)], [id], [], [id]⟩ := by
  have := ev_store1r (P := P) (w0 := w0) ho hgd hx hm hy hs rfl (by rw [tb_len]; exact hoff) rfl
  rw [tb_set' h] at this
  exact this
theorem ev_ldt {ty : TypeId} {x : Operand} {id n : Nat} {f : Nat → Nat} {bt : TypeId} {d : TypeDesc} (ho : o.op = .load ty x) (hgd : Want ops o s) (hx : svEval s x = .p id 0) (hm : s.mem id = some (.arr (tb n f) bt))
    (hu : P.underlying ty = some d) (hd : isAggD d = true) (hs : ∀ w, (Go.sizeOf ty).run P w = .ok n w) : Ev P ops w0 o s ⟨.v (.agg (tb n f).toArray), [], [], [], [id]⟩ :=
  ev_loadr ho hgd hx hm hu hd hs (by rw [List.drop_zero]; exact List.take_of_length_le (by rw [tb_len]; exact Nat.le_refl _)) tb_len
theorem ev_sta {ty : TypeId} {x y : Operand} {id n : Nat} {f g : Nat → Nat} {bt : TypeId} (ho : o.op = .store ty x y) (hgd : Want ops o s) (hx : svEval s x = .p id 0) (hm : s.mem id = some (.arr (tb n f) bt)) (hy : svEval s y = .v (.agg (tb n g).toArray))
    (hs : ∀ w, (Go.sizeOf ty).run P w = .ok n w) : Ev P ops w0 o s ⟨.v undef, [(id, .arr (tb n g) bt)], [id], [], [id]⟩ :=
  ev_storer ho hgd hx hm hy hs (by simp [Value.cells, tb_len]) (by rw [tb_len]; omega) (by simpa [Value.cells] using tb_one) (by simp [Value.cells, tb_len])
theorem rv_tb {p ty id n : Nat} {f : Nat → Nat} {bt : TypeId} {d : TypeDesc} (h : svEval s (.tmp p) = .p id 0) (hm : s.mem id = some (.arr (tb n f) bt)) (hu : P.underlying ty = some d) (hd : isAggD d = true) (hs : ∀ w, (Go.sizeOf ty).run P w = .ok n w) :
    RV P w0 s (.cell p ty) (.v (.agg (tb n f).toArray)) :=
  rv_cellr h hm hu hd hs (by rw [List.drop_zero]; exact List.take_of_length_le (by rw [tb_len]; exact Nat.le_refl _)) tb_len
end
theorem cells_tb (n : Nat) (f : Nat → Nat) : (.agg (tb n f).toArray : Value).cells.toList = tb n f := by simp [Value.cells]
end Go.Proofs.YtiidceljhmpgcaaDoor
end
section
namespace Go.Proofs.YtiidceljhmpgcaaDoor
open Go.RowKit Go.Vx
open Go.Toll (Gw)
open TollSha
set_option maxHeartbeats 4000000
set_option maxRecDepth 100000
def dbl (a : Nat) : Nat := if a &&& 128 ≠ 0 then sl8 a 1 ^^^ 27 else sl8 a 1
theorem dbl_lt (a : Nat) : dbl a < 256 := by
  unfold dbl
  split
  · exact xor_lt (sl8_lt _ _) (by decide)
  · exact sl8_lt _ _
theorem dbl_ok {a : Nat} (ha : a < 256) (w : World) : Calls Tryd.prog 39 #[b8 a] w fun e w' => e = .returned (b8 (dbl a)) ∧ Bw w w' := by
  obtain ⟨q, hq⟩ : ∃ q, decide (a &&& 128 ≠ 0) = q := ⟨_, rfl⟩
  go_enter Tryd.func39, Tryd.ntmps39
  refine ve_go ?_
  simp only [List.map_cons, List.map_nil]
  refine vseq ?_
  apply vrp
  · apply VE.cons
    · exact ev_assign rfl (gn rfl)
    simp only [nm, seval]
    exact VE.nil _
  · kernel_rfl
  change VOk _ _ _ _ _
  refine vseq ?_
  apply vrp
  · apply VE.cons
    · exact ev_move rfl (gn rfl)
    simp only [nm, seval]
    apply VE.cons
    · exact ev_bin rfl (gn rfl) rfl rfl (fun w => hl8 1 (by decide) _ _ w)
    simp only [nm, seval]
    apply VE.cons
    · exact ev_assign rfl (gn rfl)
    simp only [nm, seval]
    exact VE.nil _
  · kernel_rfl
  change VOk _ _ _ _ _
  refine vseq ?_
  refine vseq ?_
  apply vrp
  · apply VE.cons
    · exact ev_move rfl (gn rfl)
    simp only [nm, seval]
    apply VE.cons
    · exact ev_bin rfl (gn rfl) rfl rfl (fun w => and8 ha (c := 128) (by decide) _ _ w)
    simp only [nm, seval]
    apply VE.cons
    · exact ev_bin (c := .bool q) rfl (gn rfl) rfl rfl (fun w => by have := neq8 (b := a &&& 128) (c := 0) (.tmp 7) (.const (.int .u8 0)) w; rw [hq] at this; exact this)
    simp only [nm, seval]
    exact VE.nil _
  · kernel_rfl
  change VOk _ _ _ _ _
  cases q
  · refine vcond_f rfl ?_
    have e : dbl a = sl8 a 1 := if_neg (by simpa using hq)
    rw [e]
    refine vskip ?_
    change VOk _ _ _ _ _
    refine vseq ?_
    apply vrp
    · apply VE.cons
      · exact ev_move rfl (gn rfl)
      simp only [nm, seval]
      apply VE.cons
      · exact ev_assign rfl (gn rfl)
      simp only [nm, seval]
      exact VE.nil _
    · kernel_rfl
    change VOk _ _ _ _ _
    refine vret ?_
    refine post_ret (res1 Tryd.results39 (rv_tmp rfl)) ?_
    intro ρ w' hr
    exact ⟨rfl, hr.1⟩
  · refine vcond_t rfl ?_
    have e : dbl a = sl8 a 1 ^^^ 27 := if_pos (by simpa using hq)
    rw [e]
    apply vrp
    · apply VE.cons
      · exact ev_move rfl (gn rfl)
      simp only [nm, seval]
      apply VE.cons
      · exact ev_bin rfl (gn rfl) rfl rfl (fun w => xor8 (sl8_lt a 1) (c := 27) (by decide) _ _ w)
      simp only [nm, seval]
      apply VE.cons
      · exact ev_assign rfl (gn rfl)
      simp only [nm, seval]
      exact VE.nil _
    · kernel_rfl
    change VOk _ _ _ _ _
    refine vseq ?_
    apply vrp
    · apply VE.cons
      · exact ev_move rfl (gn rfl)
      simp only [nm, seval]
      apply VE.cons
      · exact ev_assign rfl (gn rfl)
      simp only [nm, seval]
      exact VE.nil _
    · kernel_rfl
    change VOk _ _ _ _ _
    refine vret ?_
    refine post_ret (res1 Tryd.results39 (rv_tmp rfl)) ?_
    intro ρ w' hr
    exact ⟨rfl, hr.1⟩
def tmF : Nat → Nat → Nat → Nat → Nat
  | 0, p, _, _ => p
  | f + 1, p, a, n => if n = 0 then p else tmF f (if n % 2 = 1 then p ^^^ a else p) (dbl a) (n / 2)
def tms (a n : Nat) : Nat := tmF 8 0 a n
theorem tmF_lt : ∀ (f p a n : Nat), p < 256 → a < 256 → tmF f p a n < 256
  | 0, _, _, _, hp, _ => hp
  | f + 1, p, a, n, hp, ha => by
    unfold tmF
    split
    · exact hp
    · refine tmF_lt f _ _ _ ?_ (dbl_lt a)
      split
      · exact xor_lt hp ha
      · exact hp
theorem tms_lt {a : Nat} (n : Nat) (ha : a < 256) : tms a n < 256 := tmF_lt _ _ _ _ (by decide) ha
theorem tmF0 (f p a : Nat) : tmF f p a 0 = p := by cases f <;> simp [tmF]
theorem tmF1 {f p a n : Nat} (hn : n ≠ 0) (h : n % 2 = 1) : tmF (f + 1) p a n = tmF f (p ^^^ a) (dbl a) (n / 2) := by rw [tmF, if_neg hn, if_pos h]
theorem tmF2 {f p a n : Nat} (hn : n ≠ 0) (h : ¬ n % 2 = 1) : tmF (f + 1) p a n = tmF f p (dbl a) (n / 2) := by rw [tmF, if_neg hn, if_neg h]
theorem and1 (n : Nat) : n &&& 1 = n % 2 := Nat.and_two_pow_sub_one_eq_mod n 1
theorem tms_ok {a n : Nat} (ha : a < 256) (hn : n < 256) (w : World) : Calls Tryd.prog 53 #[b8 a, b8 n] w fun e w' => e = .returned (b8 (tms a n)) ∧ Bw w w' := by
  go_enter Tryd.func53, Tryd.ntmps53
  refine ve_go ?_
  simp only [List.map_cons, List.map_nil]
  refine vseq ?_
  apply vrp
  · apply VE.cons
    · exact ev_assign rfl (gn rfl)
    simp only [nm, seval]
    exact VE.nil _
  · kernel_rfl
  change VOk _ _ _ _ _
  refine vseq ?_
  apply vrp
  · apply VE.cons
    · exact ev_assign rfl (gn rfl)
    simp only [nm, seval]
    exact VE.nil _
  · kernel_rfl
  change VOk _ _ _ _ _
  refine vseq ?_
  refine vblock ?_
  refine vloop_w (α := {x : Nat × Nat × Nat × Nat // x.2.1 < 256 ∧ x.2.2.1 < 256 ∧ x.2.2.2 < 2 ^ x.1 ∧ x.1 ≤ 8 ∧ tmF x.1 x.2.1 x.2.2.1 x.2.2.2 = tms a n}) (fun (x : {x : Nat × Nat × Nat × Nat // x.2.1 < 256 ∧ x.2.2.1 < 256 ∧ x.2.2.2 < 2 ^ x.1 ∧ x.1 ≤ 8 ∧ tmF x.1 x.2.1 x.2.2.1 x.2.2.2 = tms a n}) g => ⟨.v (b8 x.1.2.2.1) :: .v (b8 x.1.2.2.2) :: .v (g 2) :: .v (g 3) :: .v (g 4) :: .v (b8 x.1.2.1) :: .v (g 6) :: .v (g 7) :: .v (g 8) :: .v (g 9) :: .v (g 10) :: .v (g 11) :: .v (g 12) :: .v (g 13) :: .v (g 14) :: .v (g 15) :: .v (g 16) :: .v (g 17) :: .v (g 18) :: [], memOf []⟩) (fun x => x.1.1) ?_ (⟨(8, 0, a, n), (show 0 < 256 by decide), ha, hn, (show 8 ≤ 8 by decide), rfl⟩) ?_
  · rintro ⟨⟨f, p, a', n'⟩, hp, ha', hn', hf8, he⟩ g
    simp only at hp ha' hn' hf8 he
    have hn256 : n' < 256 := Nat.lt_of_lt_of_le hn' (Nat.pow_le_pow_right (by decide) hf8)
    obtain ⟨q, hq⟩ : ∃ q, decide (n' > 0) = q := ⟨_, rfl⟩
    obtain ⟨q1, hq1⟩ : ∃ q, decide (n' &&& 1 = 1) = q := ⟨_, rfl⟩
    change VOk _ _ _ _ _
    refine vseq ?_
    refine vseq ?_
    apply vrp
    · apply VE.cons
      · exact ev_move rfl (gn rfl)
      simp only [nm, seval]
      apply VE.cons
      · exact ev_bin (c := .bool q) rfl (gn rfl) rfl rfl (fun w => by have := gtr8 (b := n') (c := 0) (.tmp 6) (.const (.int .u8 0)) w; rw [hq] at this; exact this)
      simp only [nm, seval]
      exact VE.nil _
    · kernel_rfl
    change VOk _ _ _ _ _
    cases q
    · refine vcond_f rfl ?_
      have hn0 : n' = 0 := by have := of_decide_eq_false hq; omega
      subst hn0
      rw [tmF0] at he
      subst he
      refine vexit ?_
      change VOk _ _ _ _ _
      refine vseq ?_
      apply vrp
      · apply VE.cons
        · exact ev_move rfl (gn rfl)
        simp only [nm, seval]
        apply VE.cons
        · exact ev_assign rfl (gn rfl)
        simp only [nm, seval]
        exact VE.nil _
      · kernel_rfl
      change VOk _ _ _ _ _
      refine vret ?_
      refine post_ret (res1 Tryd.results53 (rv_tmp rfl)) ?_
      intro ρ w' hr
      exact ⟨rfl, hr.1⟩
    · refine vcond_t rfl ?_
      have hn0 : n' ≠ 0 := by have := of_decide_eq_true hq; omega
      rcases f with _ | f
      · exfalso; simp at hn'; omega
      refine vskip ?_
      change VOk _ _ _ _ _
      refine vseq ?_
      refine vblock ?_
      refine vseq ?_
      refine vseq ?_
      apply vrp
      · apply VE.cons
        · exact ev_move rfl (gn rfl)
        simp only [nm, seval]
        apply VE.cons
        · exact ev_bin rfl (gn rfl) rfl rfl (fun w => and8 hn256 (c := 1) (by decide) _ _ w)
        simp only [nm, seval]
        apply VE.cons
        · exact ev_bin (c := .bool q1) rfl (gn rfl) rfl rfl (fun w => by have := eql8 (b := n' &&& 1) (c := 1) (.tmp 11) (.const (.int .u8 1)) w; rw [hq1] at this; exact this)
        simp only [nm, seval]
        exact VE.nil _
      · kernel_rfl
      change VOk _ _ _ _ _
      cases q1
      · refine vcond_f rfl ?_
        refine vskip ?_
        change VOk _ _ _ _ _
        apply vrp
        · apply VE.cons
          · exact ev_move rfl (gn rfl)
          simp only [nm, seval]
          apply VE.cons
          · exact ev_callb rfl (gn rfl) rfl (en_of Tryd.func39 (by kernel_rfl) rfl) (fun w' hb => dbl_ok ha' w')
          simp only [nm, seval]
          apply VE.cons
          · exact ev_assign rfl (gn rfl)
          simp only [nm, seval]
          exact VE.nil _
        · kernel_rfl
        change VOk _ _ _ _ _
        apply vrp
        · apply VE.cons
          · exact ev_move rfl (gn rfl)
          simp only [nm, seval]
          apply VE.cons
          · exact ev_bin rfl (gn rfl) rfl rfl (fun w => hr8 1 (by decide) _ _ w)
          simp only [nm, seval]
          apply VE.cons
          · exact ev_assign rfl (gn rfl)
          simp only [nm, seval]
          exact VE.nil _
        · kernel_rfl
        refine ⟨⟨(f, _, _, n' / 2), ?_, dbl_lt _, by rw [Nat.div_lt_iff_lt_mul (by decide)]; rw [Nat.pow_succ] at hn'; exact hn', by omega, ?_⟩, Nat.lt_succ_self f, weaker_forget (fun i => i == 0 || i == 1 || i == 5) []⟩
        · first | exact xor_lt hp ha' | exact hp
        · first | exact (tmF1 (by omega) (by rw [← and1]; simpa using hq1)).symm.trans he | exact (tmF2 (by omega) (by rw [← and1]; simpa using hq1)).symm.trans he
      · refine vcond_t rfl ?_
        apply vrp
        · apply VE.cons
          · exact ev_move rfl (gn rfl)
          simp only [nm, seval]
          apply VE.cons
          · exact ev_move rfl (gn rfl)
          simp only [nm, seval]
          apply VE.cons
          · exact ev_bin rfl (gn rfl) rfl rfl (fun w => xor8 hp ha' _ _ w)
          simp only [nm, seval]
          apply VE.cons
          · exact ev_assign rfl (gn rfl)
          simp only [nm, seval]
          exact VE.nil _
        · kernel_rfl
        change VOk _ _ _ _ _
        apply vrp
        · apply VE.cons
          · exact ev_move rfl (gn rfl)
          simp only [nm, seval]
          apply VE.cons
          · exact ev_callb rfl (gn rfl) rfl (en_of Tryd.func39 (by kernel_rfl) rfl) (fun w' hb => dbl_ok ha' w')
          simp only [nm, seval]
          apply VE.cons
          · exact ev_assign rfl (gn rfl)
          simp only [nm, seval]
          exact VE.nil _
        · kernel_rfl
        change VOk _ _ _ _ _
        apply vrp
        · apply VE.cons
          · exact ev_move rfl (gn rfl)
          simp only [nm, seval]
          apply VE.cons
          · exact ev_bin rfl (gn rfl) rfl rfl (fun w => hr8 1 (by decide) _ _ w)
          simp only [nm, seval]
          apply VE.cons
          · exact ev_assign rfl (gn rfl)
          simp only [nm, seval]
          exact VE.nil _
        · kernel_rfl
        refine ⟨⟨(f, _, _, n' / 2), ?_, dbl_lt _, by rw [Nat.div_lt_iff_lt_mul (by decide)]; rw [Nat.pow_succ] at hn'; exact hn', by omega, ?_⟩, Nat.lt_succ_self f, weaker_forget (fun i => i == 0 || i == 1 || i == 5) []⟩
        · first | exact xor_lt hp ha' | exact hp
        · first | exact (tmF1 (by omega) (by rw [← and1]; simpa using hq1)).symm.trans he | exact (tmF2 (by omega) (by rw [← and1]; simpa using hq1)).symm.trans he
  · exact weaker_forget (fun i => i == 0 || i == 1 || i == 5) []
end Go.Proofs.YtiidceljhmpgcaaDoor
end
section
namespace Go.Proofs.YtiidceljhmpgcaaDoor
open Go.RowKit Go.Vx
open Go.Toll (Gw)
open TollSha
set_option maxHeartbeats 4000000
set_option maxRecDepth 100000
def axor (f g : Nat → Nat) (i : Nat) : Nat → Nat := fun k => if k < i then f k ^^^ g k else f k
theorem axor_by {f g : Nat → Nat} (hf : By f) (hg : By g) (i : Nat) : By (axor f g i) := fun k => by
  unfold axor; split
  · exact xor_lt (hf k) (hg k)
  · exact hf k
theorem axor_s (f g : Nat → Nat) (i : Nat) (k : Nat) : up (axor f g i) i (axor f g i i ^^^ g i) k = axor f g (i + 1) k := by
  unfold up axor
  by_cases h : k = i
  · subst h; simp
  · rw [if_neg h]
    by_cases h2 : k < i
    · rw [if_pos h2, if_pos (by omega)]
    · rw [if_neg h2, if_neg (by omega)]
def addT (f g : Nat → Nat) : Nat → Nat := axor f g 16
theorem addT_by {f g : Nat → Nat} (hf : By f) (hg : By g) : By (addT f g) := axor_by hf hg 16
theorem add_ok {a b : Nat → Nat} (ha : By a) (hb : By b) (w : World) : Calls Tryd.prog 40 #[A16 a, A16 b] w fun e w' => e = .returned (A16 (addT a b)) ∧ Bw w w' := by
  go_enter Tryd.func40, Tryd.ntmps40
  refine ve_go ?_
  simp only [List.map_cons, List.map_nil]
  refine vseq ?_
  apply vrp
  · apply VE.cons
    · exact ev_boxr rfl rfl (gn rfl) rfl (cells_tb 16 a)
    simp only [nm, seval]
    apply VE.cons
    · exact ev_boxr rfl rfl (gn rfl) rfl (cells_tb 16 b)
    simp only [nm, seval]
    apply VE.cons
    · exact ev_allocr (l := tb 16 fun _ => 0) rfl rfl (gn rfl) Tryd.zeroValue67 rfl
    simp only [nm, seval]
    exact VE.nil _
  · kernel_rfl
  change VOk _ _ _ _ _
  refine vseq ?_
  refine vseq ?_
  apply vrp
  · apply VE.cons
    · exact ev_ldt rfl (gn rfl) rfl rfl Tryd.underlying67 rfl Tryd.sizeOf67
    simp only [nm, seval]
    apply VE.cons
    · exact ev_move rfl (gn rfl)
    simp only [nm, seval]
    exact VE.nil _
  · kernel_rfl
  change VOk _ _ _ _ _
  refine vblock ?_
  refine vloop_w (α := {i : Nat // i ≤ 16}) (fun (x : {i : Nat // i ≤ 16}) g => ⟨.v (g 0) :: .v (g 1) :: .p 2 0 :: .p 3 0 :: .p 4 0 :: .v (g 5) :: .v (g 6) :: .v (A16 b) :: .v (.int .i64 (x.1 : Nat)) :: .v (g 9) :: .v (g 10) :: .v (g 11) :: .v (g 12) :: .v (g 13) :: .v (g 14) :: .v (g 15) :: .v (g 16) :: .v (g 17) :: .v (g 18) :: .v (g 19) :: [], memOf [(4, .arr (tb 16 fun _ => 0) 67), (3, .arr (tb 16 b) 67), (2, .arr (tb 16 (axor a b x.1)) 67)]⟩) (fun x => 16 - x.1) ?_ (⟨0, Nat.zero_le _⟩) ?_
  · rintro ⟨i, hi⟩ g
    obtain ⟨q, hq⟩ : ∃ q, decide (((i : Nat) : Int) < 16) = q := ⟨_, rfl⟩
    change VOk _ _ _ _ _
    refine vseq ?_
    apply vrp
    · apply VE.cons
      · exact ev_lss rfl (gn rfl) rfl rfl hq
      simp only [nm, seval]
      exact VE.nil _
    · kernel_rfl
    change VOk _ _ _ _ _
    refine vseq ?_
    cases q
    · refine vcond_f rfl ?_
      have hN : i = 16 := by have := of_decide_eq_false hq; omega
      subst hN
      refine vexit ?_
      change VOk _ _ _ _ _
      refine vseq ?_
      apply vrp
      · apply VE.cons
        · exact ev_ldt rfl (gn rfl) rfl rfl Tryd.underlying67 rfl Tryd.sizeOf67
        simp only [nm, seval]
        apply VE.cons
        · exact ev_sta rfl (gn rfl) rfl rfl rfl Tryd.sizeOf67
        simp only [nm, seval]
        exact VE.nil _
      · kernel_rfl
      change VOk _ _ _ _ _
      refine vret ?_
      refine post_ret (res1 Tryd.results40 (rv_tb rfl rfl Tryd.underlying67 rfl Tryd.sizeOf67)) ?_
      intro ρ w' hr
      exact ⟨rfl, hr.1⟩
    · refine vcond_t rfl ?_
      have hlt : i < 16 := by have := of_decide_eq_true hq; omega
      refine vskip ?_
      change VOk _ _ _ _ _
      refine vseq ?_
      refine vblock ?_
      refine vseq ?_
      apply vrp
      · apply VE.cons
        · exact ev_move rfl (gn rfl)
        simp only [nm, seval]
        apply VE.cons
        · exact ev_indexv (k := i) (v := b8 (b i)) rfl (gn rfl) rfl rfl Tryd.underlying67 Tryd.sizeOf5 Tryd.underlying5 rfl hlt (tb_get hlt)
        simp only [nm, seval]
        apply VE.cons
        · exact ev_assign rfl (gn rfl)
        simp only [nm, seval]
        apply VE.cons
        · exact ev_assign rfl (gn rfl)
        simp only [nm, seval]
        exact VE.nil _
      · kernel_rfl
      change VOk _ _ _ _ _
      apply vrp
      · apply VE.cons
        · exact ev_move rfl (gn rfl)
        simp only [nm, seval]
        apply VE.cons
        · exact ev_indexn (k := i) (j := i) rfl (gn rfl) rfl rfl Tryd.underlying67 Tryd.sizeOf5 (hlt) (by omega)
        simp only [nm, seval]
        apply VE.cons
        · exact ev_load1r rfl (gn rfl) rfl rfl Tryd.underlying5 rfl (tb_get (hlt))
        simp only [nm, seval]
        apply VE.cons
        · exact ev_move rfl (gn rfl)
        simp only [nm, seval]
        apply VE.cons
        · exact ev_bin rfl (gn rfl) rfl rfl (fun w => xor8 (axor_by ha hb i i) (hb i) _ _ w)
        simp only [nm, seval]
        apply VE.cons
        · exact ev_indexn (k := i) (j := i) rfl (gn rfl) rfl rfl Tryd.underlying67 Tryd.sizeOf5 (hlt) (by omega)
        simp only [nm, seval]
        apply VE.cons
        · exact ev_stt (axor a b (i + 1)) rfl (gn rfl) rfl rfl rfl Tryd.sizeOf5 (hlt) (fun k _ => axor_s a b i k)
        simp only [nm, seval]
        exact VE.nil _
      · kernel_rfl
      change VOk _ _ _ _ _
      apply vrp
      · apply VE.cons
        · exact ev_add (c := ((i + 1 : Nat) : Int)) rfl (gn rfl) rfl rfl (by rw [i64w (by omega) (by omega)]; omega)
        simp only [nm, seval]
        apply VE.cons
        · exact ev_move rfl (gn rfl)
        simp only [nm, seval]
        exact VE.nil _
      · kernel_rfl
      refine ⟨⟨i + 1, by omega⟩, by show 16 - (i + 1) < 16 - i; omega, weaker_forget (fun i => i == 2 || i == 3 || i == 4 || i == 7 || i == 8) []⟩
  · rw [show tb 16 a = tb 16 (axor a b 0) from tb_ext fun k _ => (if_neg (Nat.not_lt_zero k)).symm]
    exact weaker_forget (fun i => i == 2 || i == 3 || i == 4 || i == 7 || i == 8) []
end Go.Proofs.YtiidceljhmpgcaaDoor
end
section
namespace Go.Proofs.YtiidceljhmpgcaaDoor
open Go.RowKit Go.Vx
open Go.Toll (Gw)
open TollSha
set_option maxHeartbeats 4000000
set_option maxRecDepth 100000
def mixA (b r : Nat → Nat) (i : Nat) : Nat → Nat
  | 0 => 0
  | j + 1 => mixA b r i j ^^^ tms (b (i / 4 * 4 + (i + j) % 4)) (r j)
def mixI (b r : Nat → Nat) (i j : Nat) : Nat → Nat := fun k => if k < i then mixA b r k 4 else if k = i then mixA b r i j else 0
def mixT (b r : Nat → Nat) : Nat → Nat := mixI b r 16 0
theorem mixA_lt {b r : Nat → Nat} (hb : By b) (i : Nat) : ∀ j, mixA b r i j < 256
  | 0 => (by decide : 0 < 256)
  | j + 1 => xor_lt (mixA_lt hb i j) (tms_lt _ (hb _))
theorem mixI_by {b r : Nat → Nat} (hb : By b) (i j : Nat) : By (mixI b r i j) := fun k => by
  unfold mixI; split
  · exact mixA_lt hb _ _
  · split
    · exact mixA_lt hb _ _
    · decide
theorem mixI_s (b r : Nat → Nat) (i j k : Nat) : up (mixI b r i j) i (mixI b r i j i ^^^ tms (b (i / 4 * 4 + (i + j) % 4)) (r j)) k = mixI b r i (j + 1) k := by
  unfold up mixI
  by_cases h : k = i
  · subst h; simp [mixA]
  · simp [h]
theorem mixI_n (b r : Nat → Nat) (i : Nat) : mixI b r i 4 = mixI b r (i + 1) 0 := by
  funext k
  unfold mixI
  by_cases h : k < i
  · rw [if_pos h, if_pos (by omega)]
  · rw [if_neg h]
    by_cases h2 : k = i
    · subst h2; simp
    · rw [if_neg h2, if_neg (by omega)]
      split <;> rfl
theorem mixI_0 (b r : Nat → Nat) : mixI b r 0 0 = fun _ => 0 := by
  funext k
  unfold mixI
  rw [if_neg (Nat.not_lt_zero k)]
  split <;> rfl
theorem an3f : ∀ i : Fin 16, bits .andNot .i64 ((i.1 : Nat) : Int) 3 = ((i.1 / 4 * 4 : Nat) : Int) := by decide
theorem ad3f : ∀ i : Fin 20, bits .and .i64 ((i.1 : Nat) : Int) 3 = ((i.1 % 4 : Nat) : Int) := by decide
theorem or3f : ∀ i : Fin 16, ∀ j : Fin 4, bits .or .i64 ((i.1 / 4 * 4 : Nat) : Int) (((i.1 + j.1) % 4 : Nat) : Int) = ((i.1 / 4 * 4 + (i.1 + j.1) % 4 : Nat) : Int) := by decide
theorem an3 {i : Nat} (hi : i < 16) (p q : Operand) (w : World) : (do eqGuard .andNot 3 p q (.int .i64 (i : Nat)) (.int .i64 3); binOp .andNot 3 (.int .i64 (i : Nat)) (.int .i64 3) : Sem Value).run Tryd.prog w = .ok (.int .i64 ((i / 4 * 4 : Nat) : Int)) w := by
  have h := an3f ⟨i, hi⟩
  simp only at h
  generalize i / 4 * 4 = z at h
  go_simp
  try exact h
theorem ad3 {i : Nat} (hi : i < 20) (p q : Operand) (w : World) : (do eqGuard .and 3 p q (.int .i64 (i : Nat)) (.int .i64 3); binOp .and 3 (.int .i64 (i : Nat)) (.int .i64 3) : Sem Value).run Tryd.prog w = .ok (.int .i64 ((i % 4 : Nat) : Int)) w := by
  have h := ad3f ⟨i, hi⟩
  simp only at h
  generalize i % 4 = z at h
  go_simp
  try exact h
theorem or3 {i j : Nat} (hi : i < 16) (hj : j < 4) (p q : Operand) (w : World) : (do eqGuard .or 3 p q (.int .i64 ((i / 4 * 4 : Nat) : Int)) (.int .i64 (((i + j) % 4 : Nat) : Int)); binOp .or 3 (.int .i64 ((i / 4 * 4 : Nat) : Int)) (.int .i64 (((i + j) % 4 : Nat) : Int)) : Sem Value).run Tryd.prog w = .ok (.int .i64 ((i / 4 * 4 + (i + j) % 4 : Nat) : Int)) w := by
  have h := or3f ⟨i, hi⟩ ⟨j, hj⟩
  simp only at h
  generalize i / 4 * 4 + (i + j) % 4 = z at h
  generalize (i + j) % 4 = y at h
  generalize i / 4 * 4 = x at h
  go_simp
  try exact h
abbrev A4 (r : Nat → Nat) : Value := .agg (tb 4 r).toArray
theorem mix_ok {b r : Nat → Nat} (hbb : By b) (hr : By r) (w : World) : Calls Tryd.prog 41 #[A16 b, A4 r] w fun e w' => e = .returned (A16 (mixT b r)) ∧ Bw w w' := by
  go_enter Tryd.func41, Tryd.ntmps41
  refine ve_go ?_
  simp only [List.map_cons, List.map_nil]
  refine vseq ?_
  apply vrp
  · apply VE.cons
    · exact ev_boxr rfl rfl (gn rfl) rfl (cells_tb 16 b)
    simp only [nm, seval]
    apply VE.cons
    · exact ev_boxr rfl rfl (gn rfl) rfl (cells_tb 4 r)
    simp only [nm, seval]
    apply VE.cons
    · exact ev_allocr (l := tb 16 fun _ => 0) rfl rfl (gn rfl) Tryd.zeroValue67 rfl
    simp only [nm, seval]
    exact VE.nil _
  · kernel_rfl
  change VOk _ _ _ _ _
  refine vseq ?_
  apply vrp
  · apply VE.cons
    · exact ev_allocr (l := tb 16 (mixI b r 0 0)) rfl rfl (gn rfl) Tryd.zeroValue67 (by rw [mixI_0]; rfl)
    simp only [nm, seval]
    exact VE.nil _
  · kernel_rfl
  change VOk _ _ _ _ _
  refine vseq ?_
  refine vseq ?_
  apply vrp
  · apply VE.cons
    · exact ev_move rfl (gn rfl)
    simp only [nm, seval]
    exact VE.nil _
  · kernel_rfl
  change VOk _ _ _ _ _
  refine vblock ?_
  refine vloop_w (α := {i : Nat // i ≤ 16}) (fun (x : {i : Nat // i ≤ 16}) g => ⟨.v (g 0) :: .v (g 1) :: .p 2 0 :: .p 3 0 :: .p 4 0 :: .p 5 0 :: .v (g 6) :: .v (g 7) :: .v (g 8) :: .v (g 9) :: .v (.int .i64 (x.1 : Nat)) :: .v (g 11) :: .v (g 12) :: .v (g 13) :: .v (g 14) :: .v (g 15) :: .v (g 16) :: .v (g 17) :: .v (g 18) :: .v (g 19) :: .v (g 20) :: .v (g 21) :: .v (g 22) :: .v (g 23) :: .v (g 24) :: .v (g 25) :: .v (g 26) :: .v (g 27) :: .v (g 28) :: .v (g 29) :: .v (g 30) :: .v (g 31) :: .v (g 32) :: .v (g 33) :: .v (g 34) :: .v (g 35) :: .v (g 36) :: .v (g 37) :: [], memOf [(5, .arr (tb 16 (mixI b r x.1 0)) 67), (4, .arr (tb 16 fun _ => 0) 67), (3, .arr (tb 4 r) 92), (2, .arr (tb 16 b) 67)]⟩) (fun x => 16 - x.1) ?_ (⟨0, Nat.zero_le _⟩) ?_
  · rintro ⟨i, hi⟩ g
    obtain ⟨q, hq⟩ : ∃ q, decide (((i : Nat) : Int) < 16) = q := ⟨_, rfl⟩
    change VOk _ _ _ _ _
    refine vseq ?_
    apply vrp
    · apply VE.cons
      · exact ev_lss rfl (gn rfl) rfl rfl hq
      simp only [nm, seval]
      exact VE.nil _
    · kernel_rfl
    change VOk _ _ _ _ _
    refine vseq ?_
    cases q
    · refine vcond_f rfl ?_
      have hN : i = 16 := by have := of_decide_eq_false hq; omega
      subst hN
      refine vexit ?_
      change VOk _ _ _ _ _
      refine vseq ?_
      apply vrp
      · apply VE.cons
        · exact ev_ldt rfl (gn rfl) rfl rfl Tryd.underlying67 rfl Tryd.sizeOf67
        simp only [nm, seval]
        apply VE.cons
        · exact ev_sta rfl (gn rfl) rfl rfl rfl Tryd.sizeOf67
        simp only [nm, seval]
        exact VE.nil _
      · kernel_rfl
      change VOk _ _ _ _ _
      refine vret ?_
      refine post_ret (res1 Tryd.results41 (rv_tb rfl rfl Tryd.underlying67 rfl Tryd.sizeOf67)) ?_
      intro ρ w' hr
      exact ⟨rfl, hr.1⟩
    · refine vcond_t rfl ?_
      have hlt : i < 16 := by have := of_decide_eq_true hq; omega
      refine vskip ?_
      change VOk _ _ _ _ _
      refine vseq ?_
      refine vblock ?_
      refine vseq ?_
      apply vrp
      · apply VE.cons
        · exact ev_move rfl (gn rfl)
        simp only [nm, seval]
        apply VE.cons
        · exact ev_assign rfl (gn rfl)
        simp only [nm, seval]
        exact VE.nil _
      · kernel_rfl
      change VOk _ _ _ _ _
      refine vseq ?_
      apply vrp
      · apply VE.cons
        · exact ev_move rfl (gn rfl)
        simp only [nm, seval]
        apply VE.cons
        · exact ev_bin rfl (gn rfl) rfl rfl (fun w => an3 hlt _ _ w)
        simp only [nm, seval]
        apply VE.cons
        · exact ev_assign rfl (gn rfl)
        simp only [nm, seval]
        exact VE.nil _
      · kernel_rfl
      change VOk _ _ _ _ _
      refine vseq ?_
      apply vrp
      · apply VE.cons
        · exact ev_ldt rfl (gn rfl) rfl rfl Tryd.underlying92 rfl Tryd.sizeOf92
        simp only [nm, seval]
        apply VE.cons
        · exact ev_move rfl (gn rfl)
        simp only [nm, seval]
        exact VE.nil _
      · kernel_rfl
      change VOk _ _ _ _ _
      refine vblock ?_
      refine vloop_w (α := {j : Nat // j ≤ 4}) (fun (x : {j : Nat // j ≤ 4}) g => ⟨.v (g 0) :: .v (g 1) :: .p 2 0 :: .p 3 0 :: .p 4 0 :: .p 5 0 :: .v (.int .i64 (i : Nat)) :: .v (.int .i64 ((i / 4 * 4 : Nat) : Int)) :: .v (g 8) :: .v (g 9) :: .v (.int .i64 (i : Nat)) :: .v (g 11) :: .v (g 12) :: .v (g 13) :: .v (g 14) :: .v (A4 r) :: .v (.int .i64 (x.1 : Nat)) :: .v (g 17) :: .v (g 18) :: .v (g 19) :: .v (g 20) :: .v (g 21) :: .v (g 22) :: .v (g 23) :: .v (g 24) :: .v (g 25) :: .v (g 26) :: .v (g 27) :: .v (g 28) :: .v (g 29) :: .v (g 30) :: .v (g 31) :: .v (g 32) :: .v (g 33) :: .v (g 34) :: .v (g 35) :: .v (g 36) :: .v (g 37) :: [], memOf [(5, .arr (tb 16 (mixI b r i x.1)) 67), (4, .arr (tb 16 fun _ => 0) 67), (3, .arr (tb 4 r) 92), (2, .arr (tb 16 b) 67)]⟩) (fun x => 4 - x.1) ?_ (⟨0, Nat.zero_le _⟩) ?_
      · rintro ⟨j, hj⟩ g2
        obtain ⟨q2, hq2⟩ : ∃ q, decide (((j : Nat) : Int) < 4) = q := ⟨_, rfl⟩
        change VOk _ _ _ _ _
        refine vseq ?_
        apply vrp
        · apply VE.cons
          · exact ev_lss rfl (gn rfl) rfl rfl hq2
          simp only [nm, seval]
          exact VE.nil _
        · kernel_rfl
        change VOk _ _ _ _ _
        refine vseq ?_
        cases q2
        · refine vcond_f rfl ?_
          have hN : j = 4 := by have := of_decide_eq_false hq2; omega
          subst hN
          rw [mixI_n]
          refine vexit ?_
          change VOk _ _ _ _ _
          apply vrp
          · apply VE.cons
            · exact ev_add (c := ((i + 1 : Nat) : Int)) rfl (gn rfl) rfl rfl (by rw [i64w (by omega) (by omega)]; omega)
            simp only [nm, seval]
            apply VE.cons
            · exact ev_move rfl (gn rfl)
            simp only [nm, seval]
            exact VE.nil _
          · kernel_rfl
          refine ⟨⟨i + 1, by omega⟩, by show 16 - (i + 1) < 16 - i; omega, weaker_forget (fun i => i == 2 || i == 3 || i == 4 || i == 5 || i == 10) []⟩
        · refine vcond_t rfl ?_
          have hlj : j < 4 := by have := of_decide_eq_true hq2; omega
          refine vskip ?_
          change VOk _ _ _ _ _
          refine vseq ?_
          refine vblock ?_
          refine vseq ?_
          apply vrp
          · apply VE.cons
            · exact ev_move rfl (gn rfl)
            simp only [nm, seval]
            apply VE.cons
            · exact ev_indexv (k := j) (v := b8 (r j)) rfl (gn rfl) rfl rfl Tryd.underlying92 Tryd.sizeOf5 Tryd.underlying5 rfl hlj (tb_get hlj)
            simp only [nm, seval]
            apply VE.cons
            · exact ev_assign rfl (gn rfl)
            simp only [nm, seval]
            apply VE.cons
            · exact ev_assign rfl (gn rfl)
            simp only [nm, seval]
            exact VE.nil _
          · kernel_rfl
          change VOk _ _ _ _ _
          apply vrd (by kernel_rfl)
          · apply VE.cons
            · exact ev_move rfl (gn rfl)
            simp only [nm, seval]
            apply VE.cons
            · exact ev_indexn (k := i) (j := i) rfl (gn rfl) rfl rfl Tryd.underlying67 Tryd.sizeOf5 (hlt) (by omega)
            simp only [nm, seval]
            apply VE.cons
            · exact ev_load1r rfl (gn rfl) rfl rfl Tryd.underlying5 rfl (tb_get (hlt))
            simp only [nm, seval]
            apply VE.cons
            · exact ev_move rfl (gn rfl)
            simp only [nm, seval]
            apply VE.cons
            · exact ev_move rfl (gn rfl)
            simp only [nm, seval]
            apply VE.cons
            · exact ev_move rfl (gn rfl)
            simp only [nm, seval]
            apply VE.cons
            · exact ev_add (c := ((i + j : Nat) : Int)) rfl (gn rfl) rfl rfl (by rw [i64w (by omega) (by omega)]; omega)
            simp only [nm, seval]
            apply VE.cons
            · exact ev_bin rfl (gn rfl) rfl rfl (fun w => ad3 (by omega) _ _ w)
            simp only [nm, seval]
            apply VE.cons
            · exact ev_bin rfl (gn rfl) rfl rfl (fun w => or3 hlt hlj _ _ w)
            simp only [nm, seval]
            apply VE.cons
            · exact ev_indexn (k := i / 4 * 4 + (i + j) % 4) (j := i / 4 * 4 + (i + j) % 4) rfl (gn rfl) rfl rfl Tryd.underlying67 Tryd.sizeOf5 (by omega) (by omega)
            simp only [nm, seval]
            apply VE.cons
            · exact ev_load1r rfl (gn rfl) rfl rfl Tryd.underlying5 rfl (tb_get (by omega))
            simp only [nm, seval]
            apply VE.cons
            · exact ev_move rfl (gn rfl)
            simp only [nm, seval]
            apply VE.cons
            · exact ev_callb rfl (gn rfl) rfl (en_of Tryd.func53 (by kernel_rfl) rfl) (fun w' hb => tms_ok (hbb _) (hr _) w')
            simp only [nm, seval]
            apply VE.cons
            · exact ev_bin rfl (gn rfl) rfl rfl (fun w => xor8 (mixI_by hbb i j i) (tms_lt _ (hbb _)) _ _ w)
            simp only [nm, seval]
            apply VE.cons
            · exact ev_indexn (k := i) (j := i) rfl (gn rfl) rfl rfl Tryd.underlying67 Tryd.sizeOf5 (hlt) (by omega)
            simp only [nm, seval]
            apply VE.cons
            · exact ev_stt (mixI b r i (j + 1)) rfl (gn rfl) rfl rfl rfl Tryd.sizeOf5 (hlt) (fun k _ => mixI_s b r i j k)
            simp only [nm, seval]
            exact VE.nil _
          · kernel_rfl
          change VOk _ _ _ _ _
          apply vrp
          · apply VE.cons
            · exact ev_add (c := ((j + 1 : Nat) : Int)) rfl (gn rfl) rfl rfl (by rw [i64w (by omega) (by omega)]; omega)
            simp only [nm, seval]
            apply VE.cons
            · exact ev_move rfl (gn rfl)
            simp only [nm, seval]
            exact VE.nil _
          · kernel_rfl
          refine ⟨⟨j + 1, by omega⟩, by show 4 - (j + 1) < 4 - j; omega, weaker_forget (fun i => i == 2 || i == 3 || i == 4 || i == 5 || i == 6 || i == 7 || i == 10 || i == 15 || i == 16) []⟩
      · exact weaker_forget (fun i => i == 2 || i == 3 || i == 4 || i == 5 || i == 6 || i == 7 || i == 10 || i == 15 || i == 16) []
  · exact weaker_forget (fun i => i == 2 || i == 3 || i == 4 || i == 5 || i == 10) []
end Go.Proofs.YtiidceljhmpgcaaDoor
end
section
namespace Go.Proofs.YtiidceljhmpgcaaDoor
open Go.RowKit Go.Vx
open Go.Toll (Gw)
open TollSha
set_option maxHeartbeats 4000000
set_option maxRecDepth 100000
abbrev El := BitVec 64 × BitVec 64
abbrev EV (e : El) : Value := .agg #[dv e.1, dv e.2]
def addE (e f : El) : El := (e.1 ^^^ f.1, e.2 ^^^ f.2)
theorem built101 (a b : BitVec 64) : Tryd.prog.built 101 [(0, dv a), (1, dv b)] = some #[dv a, dv b] := by kernel_rfl
theorem built113 (a b : BitVec 64) : Tryd.prog.built 113 [(0, dv a), (1, dv b)] = some #[dv a, dv b] := by kernel_rfl
theorem addE_ok {a0 a1 : El} (w : World) : Calls Tryd.prog 47 #[EV a0, EV a1] w fun e w' => e = .returned (EV (addE a0 a1)) ∧ Bw w w' := by
  go_enter Tryd.func47, Tryd.ntmps47
  refine ve_go ?_
  simp only [List.map_cons, List.map_nil]
  refine vseq ?_
  apply vrp
  · apply VE.cons
    · exact ev_box rfl rfl (gn rfl) rfl
    simp only [nm, seval]
    apply VE.cons
    · exact ev_box rfl rfl (gn rfl) rfl
    simp only [nm, seval]
    apply VE.cons
    · exact ev_alloc rfl rfl (gn rfl) Tryd.zeroValue101
    simp only [nm, seval]
    exact VE.nil _
  · kernel_rfl
  change VOk _ _ _ _ _
  refine vseq ?_
  apply vrp
  · apply VE.cons
    · first | exact ev_field rfl (gn rfl) rfl Tryd.underlying101 rfl Tryd.sizeOf63 | exact ev_fieldx rfl (gn rfl) rfl Tryd.underlying101 rfl Tryd.sizeOf63
    simp only [nm, seval]
    apply VE.cons
    · first | exact ev_load1 rfl (gn rfl) rfl rfl Tryd.underlying63 rfl rfl | exact ev_loadx1 rfl (gn rfl) rfl Tryd.underlying63 rfl (by assumption)
    simp only [nm, seval]
    apply VE.cons
    · first | exact ev_field rfl (gn rfl) rfl Tryd.underlying101 rfl Tryd.sizeOf63 | exact ev_fieldx rfl (gn rfl) rfl Tryd.underlying101 rfl Tryd.sizeOf63
    simp only [nm, seval]
    apply VE.cons
    · first | exact ev_load1 rfl (gn rfl) rfl rfl Tryd.underlying63 rfl rfl | exact ev_loadx1 rfl (gn rfl) rfl Tryd.underlying63 rfl (by assumption)
    simp only [nm, seval]
    apply VE.cons
    · exact ev_bin rfl (gn rfl) rfl rfl (fun w => xor64 _ _ _ _ w)
    simp only [nm, seval]
    apply VE.cons
    · first | exact ev_field rfl (gn rfl) rfl Tryd.underlying101 rfl Tryd.sizeOf63 | exact ev_fieldx rfl (gn rfl) rfl Tryd.underlying101 rfl Tryd.sizeOf63
    simp only [nm, seval]
    apply VE.cons
    · first | exact ev_load1 rfl (gn rfl) rfl rfl Tryd.underlying63 rfl rfl | exact ev_loadx1 rfl (gn rfl) rfl Tryd.underlying63 rfl (by assumption)
    simp only [nm, seval]
    apply VE.cons
    · first | exact ev_field rfl (gn rfl) rfl Tryd.underlying101 rfl Tryd.sizeOf63 | exact ev_fieldx rfl (gn rfl) rfl Tryd.underlying101 rfl Tryd.sizeOf63
    simp only [nm, seval]
    apply VE.cons
    · first | exact ev_load1 rfl (gn rfl) rfl rfl Tryd.underlying63 rfl rfl | exact ev_loadx1 rfl (gn rfl) rfl Tryd.underlying63 rfl (by assumption)
    simp only [nm, seval]
    apply VE.cons
    · exact ev_bin rfl (gn rfl) rfl rfl (fun w => xor64 _ _ _ _ w)
    simp only [nm, seval]
    apply VE.cons
    · exact ev_build rfl (gn rfl) rfl (built101 _ _)
    simp only [nm, seval]
    apply VE.cons
    · exact ev_store rfl (gn rfl) rfl rfl rfl Tryd.sizeOf101 rfl (by simp) rfl
    simp only [nm, seval]
    exact VE.nil _
  · kernel_rfl
  change VOk _ _ _ _ _
  refine vret ?_
  refine post_ret (res1 Tryd.results47 (rv_cell rfl rfl Tryd.underlying101 rfl Tryd.sizeOf101 rfl rfl)) ?_
  intro ρ w' hr
  exact ⟨rfl, hr.1⟩
def ofG (f : Nat → Nat) (o : Nat) : Nat → BitVec 64
  | 0 => 0#64
  | i + 1 => (ofG f o i <<< 8) ||| BitVec.ofNat 64 (f (i + o))
def ofE (f : Nat → Nat) : El := (ofG f 0 8, ofG f 8 8)
theorem of_ok {v : Value} {f : Nat → Nat} {F : Nat → Prop} (w : World) (hv : SlAt w v 16 1 (tb 16 f) F) (hf : By f) : Calls Tryd.prog 46 #[v] w fun e w' => e = .returned (EV (ofE f)) ∧ Bw w w' := by
  go_enter Tryd.func46, Tryd.ntmps46
  refine ve_go ?_
  simp only [List.map_cons, List.map_nil]
  refine vseq ?_
  apply vrp
  · apply VE.cons
    · exact ev_alloc rfl rfl (gn rfl) Tryd.zeroValue101
    simp only [nm, seval]
    exact VE.nil _
  · kernel_rfl
  change VOk _ _ _ _ _
  refine vseq ?_
  apply vrp
  · apply VE.cons
    · exact ev_alloc rfl rfl (gn rfl) Tryd.zeroValue101
    simp only [nm, seval]
    exact VE.nil _
  · kernel_rfl
  change VOk _ _ _ _ _
  refine vseq ?_
  refine vseq ?_
  apply vrp
  · apply VE.cons
    · exact ev_move rfl (gn rfl)
    simp only [nm, seval]
    exact VE.nil _
  · kernel_rfl
  change VOk _ _ _ _ _
  refine vblock ?_
  refine vloop_w (α := {i : Nat // i ≤ 8}) (fun (x : {i : Nat // i ≤ 8}) g => ⟨.v v :: .v (g 1) :: .p 2 0 :: .p 3 0 :: .v (g 4) :: .v (.int .i64 (x.1 : Nat)) :: .v (g 6) :: .v (g 7) :: .v (g 8) :: .v (g 9) :: .v (g 10) :: .v (g 11) :: .v (g 12) :: .v (g 13) :: .v (g 14) :: .v (g 15) :: .v (g 16) :: .v (g 17) :: .v (g 18) :: .v (g 19) :: .v (g 20) :: .v (g 21) :: .v (g 22) :: .v (g 23) :: .v (g 24) :: .v (g 25) :: .v (g 26) :: .v (g 27) :: .v (g 28) :: .v (g 29) :: .v (g 30) :: [], memOf [(3, .cells [.v (dv (ofG f 0 x.1)), .v (dv (ofG f 8 x.1))] 101), (2, .cells [.v (dv 0#64), .v (dv 0#64)] 101)]⟩) (fun x => 8 - x.1) ?_ (⟨0, Nat.zero_le _⟩) ?_
  · rintro ⟨i, hi⟩ g
    obtain ⟨q, hq⟩ : ∃ q, decide (((i : Nat) : Int) < 8) = q := ⟨_, rfl⟩
    change VOk _ _ _ _ _
    refine vseq ?_
    apply vrp
    · apply VE.cons
      · exact ev_lss rfl (gn rfl) rfl rfl hq
      simp only [nm, seval]
      exact VE.nil _
    · kernel_rfl
    change VOk _ _ _ _ _
    refine vseq ?_
    cases q
    · refine vcond_f rfl ?_
      have hN : i = 8 := by have := of_decide_eq_false hq; omega
      subst hN
      refine vexit ?_
      change VOk _ _ _ _ _
      refine vseq ?_
      apply vrp
      · apply VE.cons
        · first | exact ev_load rfl (gn rfl) rfl rfl Tryd.underlying101 rfl Tryd.sizeOf101 rfl rfl | exact ev_loadx rfl (gn rfl) rfl Tryd.underlying101 rfl Tryd.sizeOf101 (by assumption) rfl | exact ev_loada rfl (gn rfl) rfl rfl Tryd.underlying101 rfl Tryd.sizeOf101 rfl
        simp only [nm, seval]
        apply VE.cons
        · exact ev_store rfl (gn rfl) rfl rfl rfl Tryd.sizeOf101 rfl (by simp) rfl
        simp only [nm, seval]
        exact VE.nil _
      · kernel_rfl
      change VOk _ _ _ _ _
      refine vret ?_
      refine post_ret (res1 Tryd.results46 (rv_cell rfl rfl Tryd.underlying101 rfl Tryd.sizeOf101 rfl rfl)) ?_
      intro ρ w' hr
      exact ⟨rfl, hr.1⟩
    · refine vcond_t rfl ?_
      have hlt : i < 8 := by have := of_decide_eq_true hq; omega
      refine vskip ?_
      change VOk _ _ _ _ _
      refine vseq ?_
      refine vblock ?_
      refine vseq ?_
      apply vrp
      · apply VE.cons
        · exact ev_move rfl (gn rfl)
        simp only [nm, seval]
        apply VE.cons
        · exact ev_assign rfl (gn rfl)
        simp only [nm, seval]
        exact VE.nil _
      · kernel_rfl
      change VOk _ _ _ _ _
      refine vseq ?_
      apply vrd (by kernel_rfl)
      · apply VE.cons
        · first | exact ev_field rfl (gn rfl) rfl Tryd.underlying101 rfl Tryd.sizeOf63 | exact ev_fieldx rfl (gn rfl) rfl Tryd.underlying101 rfl Tryd.sizeOf63
        simp only [nm, seval]
        apply VE.cons
        · first | exact ev_load1 rfl (gn rfl) rfl rfl Tryd.underlying63 rfl rfl | exact ev_loadx1 rfl (gn rfl) rfl Tryd.underlying63 rfl (by assumption)
        simp only [nm, seval]
        apply VE.cons
        · exact ev_bin rfl (gn rfl) rfl rfl (fun w => shld _ 8 (by decide) _ _ w)
        simp only [nm, seval]
        apply VE.cons
        · exact ev_move rfl (gn rfl)
        simp only [nm, seval]
        apply VE.cons
        · exact ev_move rfl (gn rfl)
        simp only [nm, seval]
        apply VE.cons
        · exact ev_idx (k := i) rfl (gn rfl) rfl rfl Tryd.underlying28 Tryd.sizeOf5 (rdg_arg hv) (by omega) (by decide)
        simp only [nm, seval]
        apply VE.cons
        · exact ev_loadi rfl (gn rfl) rfl Tryd.underlying5 rfl (rdg_arg hv) (tb_get (by omega))
        simp only [nm, seval]
        apply VE.cons
        · exact ev_conv rfl (gn rfl) rfl (fun w => cv64 (hf _) w)
        simp only [nm, seval]
        apply VE.cons
        · exact ev_bin rfl (gn rfl) rfl rfl (fun w => or64 _ _ _ _ w)
        simp only [nm, seval]
        apply VE.cons
        · first | exact ev_field rfl (gn rfl) rfl Tryd.underlying101 rfl Tryd.sizeOf63 | exact ev_fieldx rfl (gn rfl) rfl Tryd.underlying101 rfl Tryd.sizeOf63
        simp only [nm, seval]
        apply VE.cons
        · exact ev_store rfl (gn rfl) rfl rfl rfl Tryd.sizeOf63 rfl (by simp [dv]) rfl
        simp only [nm, seval]
        exact VE.nil _
      · kernel_rfl
      change VOk _ _ _ _ _
      apply vrd (by kernel_rfl)
      · apply VE.cons
        · first | exact ev_field rfl (gn rfl) rfl Tryd.underlying101 rfl Tryd.sizeOf63 | exact ev_fieldx rfl (gn rfl) rfl Tryd.underlying101 rfl Tryd.sizeOf63
        simp only [nm, seval]
        apply VE.cons
        · first | exact ev_load1 rfl (gn rfl) rfl rfl Tryd.underlying63 rfl rfl | exact ev_loadx1 rfl (gn rfl) rfl Tryd.underlying63 rfl (by assumption)
        simp only [nm, seval]
        apply VE.cons
        · exact ev_bin rfl (gn rfl) rfl rfl (fun w => shld _ 8 (by decide) _ _ w)
        simp only [nm, seval]
        apply VE.cons
        · exact ev_move rfl (gn rfl)
        simp only [nm, seval]
        apply VE.cons
        · exact ev_move rfl (gn rfl)
        simp only [nm, seval]
        apply VE.cons
        · exact ev_add (c := ((i + 8 : Nat) : Int)) rfl (gn rfl) rfl rfl (by rw [i64w (by omega) (by omega)]; omega)
        simp only [nm, seval]
        apply VE.cons
        · exact ev_idx (k := i + 8) rfl (gn rfl) rfl rfl Tryd.underlying28 Tryd.sizeOf5 (rdg_arg hv) (by omega) (by decide)
        simp only [nm, seval]
        apply VE.cons
        · exact ev_loadi rfl (gn rfl) rfl Tryd.underlying5 rfl (rdg_arg hv) (tb_get (by omega))
        simp only [nm, seval]
        apply VE.cons
        · exact ev_conv rfl (gn rfl) rfl (fun w => cv64 (hf _) w)
        simp only [nm, seval]
        apply VE.cons
        · exact ev_bin rfl (gn rfl) rfl rfl (fun w => or64 _ _ _ _ w)
        simp only [nm, seval]
        apply VE.cons
        · first | exact ev_field rfl (gn rfl) rfl Tryd.underlying101 rfl Tryd.sizeOf63 | exact ev_fieldx rfl (gn rfl) rfl Tryd.underlying101 rfl Tryd.sizeOf63
        simp only [nm, seval]
        apply VE.cons
        · exact ev_store rfl (gn rfl) rfl rfl rfl Tryd.sizeOf63 rfl (by simp [dv, Value.cells]) rfl
        simp only [nm, seval]
        exact VE.nil _
      · kernel_rfl
      change VOk _ _ _ _ _
      apply vrp
      · apply VE.cons
        · exact ev_add (c := ((i + 1 : Nat) : Int)) rfl (gn rfl) rfl rfl (by rw [i64w (by omega) (by omega)]; omega)
        simp only [nm, seval]
        apply VE.cons
        · exact ev_move rfl (gn rfl)
        simp only [nm, seval]
        exact VE.nil _
      · kernel_rfl
      refine ⟨⟨i + 1, by omega⟩, by show 8 - (i + 1) < 8 - i; omega, weaker_forget (fun i => i == 0 || i == 2 || i == 3 || i == 5) []⟩
  · exact weaker_forget (fun i => i == 0 || i == 2 || i == 3 || i == 5) []
def byF (e : El) : Nat → Nat := fun k => if k < 8 then (e.1 >>> (56 - 8 * k)).toNat % 256 else (e.2 >>> (56 - 8 * (k - 8))).toNat % 256
def byI (e : El) (i : Nat) : Nat → Nat := fun k => if k < i ∨ (8 ≤ k ∧ k < 8 + i) then byF e k else 0
theorem byF_by (e : El) : By (byF e) := fun k => by unfold byF; split <;> exact Nat.mod_lt _ (by decide)
theorem byI_0 (e : El) : byI e 0 = fun _ => 0 := by funext k; unfold byI; rw [if_neg (by omega)]
theorem byI_8 (e : El) (k : Nat) (h : k < 16) : byI e 8 k = byF e k := by unfold byI; rw [if_pos (by omega)]
theorem byI_s (e : El) {i : Nat} (hi : i < 8) (k : Nat) : up (up (byI e i) i ((e.1 >>> (56 - 8 * i)).toNat % 256)) (i + 8) ((e.2 >>> (56 - 8 * i)).toNat % 256) k = byI e (i + 1) k := by
  unfold up byI
  by_cases h : k = i + 8
  · subst h
    rw [if_pos rfl, if_pos (by omega)]
    unfold byF
    rw [if_neg (by omega), Nat.add_sub_cancel]
  · rw [if_neg h]
    by_cases h2 : k = i
    · subst h2
      rw [if_pos rfl, if_pos (by omega)]
      unfold byF
      rw [if_pos hi]
    · rw [if_neg h2]
      by_cases h3 : k < i ∨ (8 ≤ k ∧ k < 8 + i)
      · rw [if_pos h3, if_pos (by omega)]
      · rw [if_neg h3, if_neg (by omega)]
theorem mulc {a b c : Nat} (h : a * b = c) (hc : c < 4611686018427387904) (p q : Operand) (w : World) : (do eqGuard .mul 3 p q (.int .i64 (a : Nat)) (.int .i64 (b : Nat)); binOp .mul 3 (.int .i64 (a : Nat)) (.int .i64 (b : Nat)) : Sem Value).run Tryd.prog w = .ok (.int .i64 (c : Nat)) w := by
  have e : IntKind.i64.wrap ((a : Int) * (b : Int)) = (c : Int) := by
    have : (a : Int) * (b : Int) = (c : Int) := by rw [← h]; exact (Int.natCast_mul a b).symm
    rw [this, i64w (by omega) (by omega)]
  generalize (a : Int) = x at e
  generalize (b : Int) = y at e
  go_simp
  try exact e
theorem bytes_ok {a0 : El} (w : World) : Calls Tryd.prog 44 #[EV a0] w fun e w' => e = .returned (A16 (byF a0)) ∧ Bw w w' := by
  go_enter Tryd.func44, Tryd.ntmps44
  refine ve_go ?_
  simp only [List.map_cons, List.map_nil]
  refine vseq ?_
  apply vrp
  · apply VE.cons
    · exact ev_box rfl rfl (gn rfl) rfl
    simp only [nm, seval]
    apply VE.cons
    · exact ev_allocr (l := tb 16 fun _ => 0) rfl rfl (gn rfl) Tryd.zeroValue67 rfl
    simp only [nm, seval]
    exact VE.nil _
  · kernel_rfl
  change VOk _ _ _ _ _
  refine vseq ?_
  apply vrp
  · apply VE.cons
    · exact ev_allocr (l := tb 16 (byI a0 0)) rfl rfl (gn rfl) Tryd.zeroValue67 (by rw [byI_0]; rfl)
    simp only [nm, seval]
    exact VE.nil _
  · kernel_rfl
  change VOk _ _ _ _ _
  refine vseq ?_
  refine vseq ?_
  apply vrp
  · apply VE.cons
    · exact ev_move rfl (gn rfl)
    simp only [nm, seval]
    exact VE.nil _
  · kernel_rfl
  change VOk _ _ _ _ _
  refine vblock ?_
  refine vloop_w (α := {i : Nat // i ≤ 8}) (fun (x : {i : Nat // i ≤ 8}) g => ⟨.v (g 0) :: .p 1 0 :: .p 2 0 :: .p 3 0 :: .v (g 4) :: .v (.int .i64 (x.1 : Nat)) :: .v (g 6) :: .v (g 7) :: .v (g 8) :: .v (g 9) :: .v (g 10) :: .v (g 11) :: .v (g 12) :: .v (g 13) :: .v (g 14) :: .v (g 15) :: .v (g 16) :: .v (g 17) :: .v (g 18) :: .v (g 19) :: .v (g 20) :: .v (g 21) :: .v (g 22) :: .v (g 23) :: .v (g 24) :: .v (g 25) :: .v (g 26) :: .v (g 27) :: .v (g 28) :: [], memOf [(3, .arr (tb 16 (byI a0 x.1)) 67), (2, .arr (tb 16 fun _ => 0) 67), (1, .cells [.v (dv a0.1), .v (dv a0.2)] 101)]⟩) (fun x => 8 - x.1) ?_ (⟨0, Nat.zero_le _⟩) ?_
  · rintro ⟨i, hi⟩ g
    obtain ⟨q, hq⟩ : ∃ q, decide (((i : Nat) : Int) < 8) = q := ⟨_, rfl⟩
    change VOk _ _ _ _ _
    refine vseq ?_
    apply vrp
    · apply VE.cons
      · exact ev_lss rfl (gn rfl) rfl rfl hq
      simp only [nm, seval]
      exact VE.nil _
    · kernel_rfl
    change VOk _ _ _ _ _
    refine vseq ?_
    cases q
    · refine vcond_f rfl ?_
      have hN : i = 8 := by have := of_decide_eq_false hq; omega
      subst hN
      refine vexit ?_
      change VOk _ _ _ _ _
      refine vseq ?_
      apply vrp
      · apply VE.cons
        · exact ev_ldt (f := byF a0) rfl (gn rfl) rfl (by rw [← tb_ext (byI_8 a0)]; rfl) Tryd.underlying67 rfl Tryd.sizeOf67
        simp only [nm, seval]
        apply VE.cons
        · exact ev_sta rfl (gn rfl) rfl rfl rfl Tryd.sizeOf67
        simp only [nm, seval]
        exact VE.nil _
      · kernel_rfl
      change VOk _ _ _ _ _
      refine vret ?_
      refine post_ret (res1 Tryd.results44 (rv_tb rfl rfl Tryd.underlying67 rfl Tryd.sizeOf67)) ?_
      intro ρ w' hr
      exact ⟨rfl, hr.1⟩
    · refine vcond_t rfl ?_
      have hlt : i < 8 := by have := of_decide_eq_true hq; omega
      refine vskip ?_
      change VOk _ _ _ _ _
      refine vseq ?_
      refine vblock ?_
      refine vseq ?_
      apply vrp
      · apply VE.cons
        · exact ev_move rfl (gn rfl)
        simp only [nm, seval]
        apply VE.cons
        · exact ev_assign rfl (gn rfl)
        simp only [nm, seval]
        exact VE.nil _
      · kernel_rfl
      change VOk _ _ _ _ _
      refine vseq ?_
      apply vrp
      · apply VE.cons
        · exact ev_move rfl (gn rfl)
        simp only [nm, seval]
        apply VE.cons
        · first | exact ev_field rfl (gn rfl) rfl Tryd.underlying101 rfl Tryd.sizeOf63 | exact ev_fieldx rfl (gn rfl) rfl Tryd.underlying101 rfl Tryd.sizeOf63
        simp only [nm, seval]
        apply VE.cons
        · first | exact ev_load1 rfl (gn rfl) rfl rfl Tryd.underlying63 rfl rfl | exact ev_loadx1 rfl (gn rfl) rfl Tryd.underlying63 rfl (by assumption)
        simp only [nm, seval]
        apply VE.cons
        · exact ev_move rfl (gn rfl)
        simp only [nm, seval]
        apply VE.cons
        · exact ev_bin rfl (gn rfl) rfl rfl (fun w => mulc (a := 8) (b := i) (c := 8 * i) rfl (by omega) _ _ w)
        simp only [nm, seval]
        apply VE.cons
        · exact ev_sub (c := ((56 - 8 * i : Nat) : Int)) rfl (gn rfl) rfl rfl (by rw [i64w (by omega) (by omega)]; omega)
        simp only [nm, seval]
        apply VE.cons
        · exact ev_bin rfl (gn rfl) rfl rfl (fun w => shrdi _ (56 - 8 * i) (by omega) _ _ w)
        simp only [nm, seval]
        apply VE.cons
        · exact ev_conv rfl (gn rfl) rfl (fun w => cv8 _ w)
        simp only [nm, seval]
        apply VE.cons
        · exact ev_indexn (k := i) (j := i) rfl (gn rfl) rfl rfl Tryd.underlying67 Tryd.sizeOf5 (by omega) (by omega)
        simp only [nm, seval]
        apply VE.cons
        · first | exact ev_stt (up (byI a0 i) i ((a0.1 >>> (56 - 8 * i)).toNat % 256)) rfl (gn rfl) rfl rfl rfl Tryd.sizeOf5 (by omega) (fun _ _ => rfl) | exact ev_stt (up (up (byI a0 i) i ((a0.1 >>> (56 - 8 * i)).toNat % 256)) (i + 8) ((a0.2 >>> (56 - 8 * i)).toNat % 256)) rfl (gn rfl) rfl rfl rfl Tryd.sizeOf5 (by omega) (fun _ _ => rfl)
        simp only [nm, seval]
        exact VE.nil _
      · kernel_rfl
      change VOk _ _ _ _ _
      apply vrp
      · apply VE.cons
        · exact ev_move rfl (gn rfl)
        simp only [nm, seval]
        apply VE.cons
        · exact ev_add (c := ((i + 8 : Nat) : Int)) rfl (gn rfl) rfl rfl (by rw [i64w (by omega) (by omega)]; omega)
        simp only [nm, seval]
        apply VE.cons
        · first | exact ev_field rfl (gn rfl) rfl Tryd.underlying101 rfl Tryd.sizeOf63 | exact ev_fieldx rfl (gn rfl) rfl Tryd.underlying101 rfl Tryd.sizeOf63
        simp only [nm, seval]
        apply VE.cons
        · first | exact ev_load1 rfl (gn rfl) rfl rfl Tryd.underlying63 rfl rfl | exact ev_loadx1 rfl (gn rfl) rfl Tryd.underlying63 rfl (by assumption)
        simp only [nm, seval]
        apply VE.cons
        · exact ev_move rfl (gn rfl)
        simp only [nm, seval]
        apply VE.cons
        · exact ev_bin rfl (gn rfl) rfl rfl (fun w => mulc (a := 8) (b := i) (c := 8 * i) rfl (by omega) _ _ w)
        simp only [nm, seval]
        apply VE.cons
        · exact ev_sub (c := ((56 - 8 * i : Nat) : Int)) rfl (gn rfl) rfl rfl (by rw [i64w (by omega) (by omega)]; omega)
        simp only [nm, seval]
        apply VE.cons
        · exact ev_bin rfl (gn rfl) rfl rfl (fun w => shrdi _ (56 - 8 * i) (by omega) _ _ w)
        simp only [nm, seval]
        apply VE.cons
        · exact ev_conv rfl (gn rfl) rfl (fun w => cv8 _ w)
        simp only [nm, seval]
        apply VE.cons
        · exact ev_indexn (k := i + 8) (j := i + 8) rfl (gn rfl) rfl rfl Tryd.underlying67 Tryd.sizeOf5 (by omega) (by omega)
        simp only [nm, seval]
        apply VE.cons
        · first | exact ev_stt (up (byI a0 i) i ((a0.1 >>> (56 - 8 * i)).toNat % 256)) rfl (gn rfl) rfl rfl rfl Tryd.sizeOf5 (by omega) (fun _ _ => rfl) | exact ev_stt (up (up (byI a0 i) i ((a0.1 >>> (56 - 8 * i)).toNat % 256)) (i + 8) ((a0.2 >>> (56 - 8 * i)).toNat % 256)) rfl (gn rfl) rfl rfl rfl Tryd.sizeOf5 (by omega) (fun _ _ => rfl)
        simp only [nm, seval]
        exact VE.nil _
      · kernel_rfl
      change VOk _ _ _ _ _
      apply vrp
      · apply VE.cons
        · exact ev_add (c := ((i + 1 : Nat) : Int)) rfl (gn rfl) rfl rfl (by rw [i64w (by omega) (by omega)]; omega)
        simp only [nm, seval]
        apply VE.cons
        · exact ev_move rfl (gn rfl)
        simp only [nm, seval]
        exact VE.nil _
      · kernel_rfl
      rw [tb_ext (fun k _ => byI_s a0 hlt k)]
      refine ⟨⟨i + 1, by omega⟩, by show 8 - (i + 1) < 8 - i; omega, weaker_forget (fun i => i == 1 || i == 2 || i == 3 || i == 5) []⟩
  · exact weaker_forget (fun i => i == 1 || i == 2 || i == 3 || i == 5) []
end Go.Proofs.YtiidceljhmpgcaaDoor
end
section
namespace Go.Proofs.YtiidceljhmpgcaaDoor
open Go.RowKit Go.Vx
open Go.Toll (Gw)
open TollSha
set_option maxHeartbeats 4000000
set_option maxRecDepth 100000
abbrev polyC : BitVec 64 := 16212958658533785600#64
def dblE (f : El) : El := (if f.2 &&& 1#64 = 1#64 then (f.1 >>> 1) ^^^ polyC else f.1 >>> 1, (f.2 >>> 1) ||| (f.1 <<< 63))
def stepE (x : BitVec 64) (k : Nat) (s : El × El) : El × El := (if (x >>> k) &&& 1#64 = 1#64 then addE s.1 s.2 else s.1, dblE s.2)
def tS (x : BitVec 64) : Nat → El × El → El × El
  | 0, s => s
  | j + 1, s => stepE x (63 - j) (tS x j s)
def selE (a : El) (i : Nat) : BitVec 64 := if i = 0 then a.1 else a.2
def oS (a0 a1 : El) : Nat → El × El
  | 0 => ((0#64, 0#64), a1)
  | i + 1 => tS (selE a0 i) 64 (oS a0 a1 i)
def tmE (a0 a1 : El) : El := (oS a0 a1 2).1
theorem sel_get (a0 : El) {i : Nat} (h : i < 2) : (#[dv a0.1, dv a0.2] : Array Value).toList[i]? = some (dv (selE a0 i)) := by
  rcases i with _ | _ | i
  · rfl
  · rfl
  · omega
theorem tS_t {x : BitVec 64} {j : Nat} {s : El × El} {z f : El} (h : tS x j s = (z, f)) : tS x (j + 1) s = stepE x (63 - j) (z, f) := by rw [tS, h]
theorem step1 {x : BitVec 64} {k : Nat} {z f : El} (h : (x >>> k) &&& 1#64 = 1#64) : stepE x k (z, f) = (addE z f, dblE f) := by unfold stepE; rw [if_pos h]
theorem step0 {x : BitVec 64} {k : Nat} {z f : El} (h : ¬ (x >>> k) &&& 1#64 = 1#64) : stepE x k (z, f) = (z, dblE f) := by unfold stepE; rw [if_neg h]
theorem dbl1 {f : El} (h : f.2 &&& 1#64 = 1#64) : dblE f = ((f.1 >>> 1) ^^^ polyC, (f.2 >>> 1) ||| (f.1 <<< 63)) := by unfold dblE; rw [if_pos h]
theorem dbl0 {f : El} (h : ¬ f.2 &&& 1#64 = 1#64) : dblE f = (f.1 >>> 1, (f.2 >>> 1) ||| (f.1 <<< 63)) := by unfold dblE; rw [if_neg h]
theorem shrj (x : BitVec 64) {j : Nat} (h : j < 64) (p q : Operand) (w : World) : (do eqGuard .shr 63 p q (dv x) (.int .i64 (63 - (j : Int))); binOp .shr 63 (dv x) (.int .i64 (63 - (j : Int))) : Sem Value).run Tryd.prog w = .ok (dv (x >>> (63 - j))) w := by
  have := shrdi x (63 - j) (by omega) p q w
  rwa [show (((63 - j : Nat)) : Int) = 63 - (j : Int) by omega] at this
theorem times_ok {a0 a1 : El} (w : World) : Calls Tryd.prog 55 #[EV a0, EV a1] w fun e w' => e = .returned (EV (tmE a0 a1)) ∧ Bw w w' := by
  go_enter Tryd.func55, Tryd.ntmps55
  refine ve_go ?_
  simp only [List.map_cons, List.map_nil]
  refine vseq ?_
  apply vrp
  · apply VE.cons
    · exact ev_box rfl rfl (gn rfl) rfl
    simp only [nm, seval]
    apply VE.cons
    · exact ev_box rfl rfl (gn rfl) rfl
    simp only [nm, seval]
    apply VE.cons
    · exact ev_alloc rfl rfl (gn rfl) Tryd.zeroValue101
    simp only [nm, seval]
    exact VE.nil _
  · kernel_rfl
  change VOk _ _ _ _ _
  refine vseq ?_
  apply vrp
  · apply VE.cons
    · exact ev_alloc rfl rfl (gn rfl) Tryd.zeroValue101
    simp only [nm, seval]
    exact VE.nil _
  · kernel_rfl
  change VOk _ _ _ _ _
  refine vseq ?_
  refine vseq ?_
  apply vrp
  · apply VE.cons
    · first | exact ev_field rfl (gn rfl) rfl Tryd.underlying101 rfl Tryd.sizeOf63 | exact ev_fieldx rfl (gn rfl) rfl Tryd.underlying101 rfl Tryd.sizeOf63
    simp only [nm, seval]
    apply VE.cons
    · first | exact ev_load1 rfl (gn rfl) rfl rfl Tryd.underlying63 rfl rfl | exact ev_loadx1 rfl (gn rfl) rfl Tryd.underlying63 rfl (by assumption)
    simp only [nm, seval]
    apply VE.cons
    · first | exact ev_field rfl (gn rfl) rfl Tryd.underlying101 rfl Tryd.sizeOf63 | exact ev_fieldx rfl (gn rfl) rfl Tryd.underlying101 rfl Tryd.sizeOf63
    simp only [nm, seval]
    apply VE.cons
    · first | exact ev_load1 rfl (gn rfl) rfl rfl Tryd.underlying63 rfl rfl | exact ev_loadx1 rfl (gn rfl) rfl Tryd.underlying63 rfl (by assumption)
    simp only [nm, seval]
    apply VE.cons
    · exact ev_build rfl (gn rfl) rfl (built113 _ _)
    simp only [nm, seval]
    apply VE.cons
    · exact ev_move rfl (gn rfl)
    simp only [nm, seval]
    exact VE.nil _
  · kernel_rfl
  change VOk _ _ _ _ _
  refine vblock ?_
  refine vloop_w (α := {i : Nat // i ≤ 2}) (fun (x : {i : Nat // i ≤ 2}) g => ⟨.v (g 0) :: .v (g 1) :: .p 2 0 :: .p 3 0 :: .p 4 0 :: .p 5 0 :: .v (g 6) :: .v (g 7) :: .v (g 8) :: .v (g 9) :: .v (g 10) :: .v (g 11) :: .v (g 12) :: .v (g 13) :: .v (.agg #[dv a0.1, dv a0.2]) :: .v (.int .i64 (x.1 : Nat)) :: .v (g 16) :: .v (g 17) :: .v (g 18) :: .v (g 19) :: .v (g 20) :: .v (g 21) :: .v (g 22) :: .v (g 23) :: .v (g 24) :: .v (g 25) :: .v (g 26) :: .v (g 27) :: .v (g 28) :: .v (g 29) :: .v (g 30) :: .v (g 31) :: .v (g 32) :: .v (g 33) :: .v (g 34) :: .v (g 35) :: .v (g 36) :: .v (g 37) :: .v (g 38) :: .v (g 39) :: .v (g 40) :: .v (g 41) :: .v (g 42) :: .v (g 43) :: .v (g 44) :: .v (g 45) :: .v (g 46) :: .v (g 47) :: .v (g 48) :: .v (g 49) :: .v (g 50) :: .v (g 51) :: [], memOf [(5, .cells [.v (dv (oS a0 a1 x.1).1.1), .v (dv (oS a0 a1 x.1).1.2)] 101), (4, .cells [.v (dv 0#64), .v (dv 0#64)] 101), (3, .cells [.v (dv (oS a0 a1 x.1).2.1), .v (dv (oS a0 a1 x.1).2.2)] 101), (2, .cells [.v (dv a0.1), .v (dv a0.2)] 101)]⟩) (fun x => 2 - x.1) ?_ (⟨0, Nat.zero_le _⟩) ?_
  · rintro ⟨i, hi⟩ g
    obtain ⟨q, hq⟩ : ∃ q, decide (((i : Nat) : Int) < 2) = q := ⟨_, rfl⟩
    change VOk _ _ _ _ _
    refine vseq ?_
    apply vrp
    · apply VE.cons
      · exact ev_lss rfl (gn rfl) rfl rfl hq
      simp only [nm, seval]
      exact VE.nil _
    · kernel_rfl
    change VOk _ _ _ _ _
    refine vseq ?_
    cases q
    · refine vcond_f rfl ?_
      have hN : i = 2 := by have := of_decide_eq_false hq; omega
      subst hN
      refine vexit ?_
      change VOk _ _ _ _ _
      refine vseq ?_
      apply vrp
      · apply VE.cons
        · first | exact ev_load rfl (gn rfl) rfl rfl Tryd.underlying101 rfl Tryd.sizeOf101 rfl rfl | exact ev_loadx rfl (gn rfl) rfl Tryd.underlying101 rfl Tryd.sizeOf101 (by assumption) rfl | exact ev_loada rfl (gn rfl) rfl rfl Tryd.underlying101 rfl Tryd.sizeOf101 rfl
        simp only [nm, seval]
        apply VE.cons
        · exact ev_store rfl (gn rfl) rfl rfl rfl Tryd.sizeOf101 rfl (by simp) rfl
        simp only [nm, seval]
        exact VE.nil _
      · kernel_rfl
      change VOk _ _ _ _ _
      refine vret ?_
      refine post_ret (res1 Tryd.results55 (rv_cell rfl rfl Tryd.underlying101 rfl Tryd.sizeOf101 rfl rfl)) ?_
      intro ρ w' hr
      exact ⟨rfl, hr.1⟩
    · refine vcond_t rfl ?_
      have hlt : i < 2 := by have := of_decide_eq_true hq; omega
      refine vskip ?_
      change VOk _ _ _ _ _
      refine vseq ?_
      refine vblock ?_
      refine vseq ?_
      apply vrp
      · apply VE.cons
        · exact ev_indexv (k := i) (v := dv (selE a0 i)) rfl (gn rfl) rfl rfl Tryd.underlying113 Tryd.sizeOf63 Tryd.underlying63 rfl hlt (sel_get a0 hlt)
        simp only [nm, seval]
        apply VE.cons
        · exact ev_assign rfl (gn rfl)
        simp only [nm, seval]
        exact VE.nil _
      · kernel_rfl
      change VOk _ _ _ _ _
      refine vseq ?_
      apply vrp
      · apply VE.cons
        · exact ev_assign rfl (gn rfl)
        simp only [nm, seval]
        exact VE.nil _
      · kernel_rfl
      change VOk _ _ _ _ _
      refine vblock ?_
      refine vloop_w (α := {j : Nat // j ≤ 64}) (fun (x : {j : Nat // j ≤ 64}) g => ⟨.v (g 0) :: .v (g 1) :: .p 2 0 :: .p 3 0 :: .p 4 0 :: .p 5 0 :: .v (g 6) :: .v (dv (selE a0 i)) :: .v (.int .i64 (63 - ((x.1 : Nat) : Int))) :: .v (g 9) :: .v (g 10) :: .v (g 11) :: .v (g 12) :: .v (g 13) :: .v (.agg #[dv a0.1, dv a0.2]) :: .v (.int .i64 (i : Nat)) :: .v (g 16) :: .v (g 17) :: .v (g 18) :: .v (g 19) :: .v (g 20) :: .v (g 21) :: .v (g 22) :: .v (g 23) :: .v (g 24) :: .v (g 25) :: .v (g 26) :: .v (g 27) :: .v (g 28) :: .v (g 29) :: .v (g 30) :: .v (g 31) :: .v (g 32) :: .v (g 33) :: .v (g 34) :: .v (g 35) :: .v (g 36) :: .v (g 37) :: .v (g 38) :: .v (g 39) :: .v (g 40) :: .v (g 41) :: .v (g 42) :: .v (g 43) :: .v (g 44) :: .v (g 45) :: .v (g 46) :: .v (g 47) :: .v (g 48) :: .v (g 49) :: .v (g 50) :: .v (g 51) :: [], memOf [(5, .cells [.v (dv (tS (selE a0 i) x.1 (oS a0 a1 i)).1.1), .v (dv (tS (selE a0 i) x.1 (oS a0 a1 i)).1.2)] 101), (4, .cells [.v (dv 0#64), .v (dv 0#64)] 101), (3, .cells [.v (dv (tS (selE a0 i) x.1 (oS a0 a1 i)).2.1), .v (dv (tS (selE a0 i) x.1 (oS a0 a1 i)).2.2)] 101), (2, .cells [.v (dv a0.1), .v (dv a0.2)] 101)]⟩) (fun x => 64 - x.1) ?_ (⟨0, Nat.zero_le _⟩) ?_
      · rintro ⟨j, hj⟩ g2
        obtain ⟨q2, hq2⟩ : ∃ q, decide (63 - ((j : Nat) : Int) ≥ 0) = q := ⟨_, rfl⟩
        obtain ⟨⟨z, f⟩, hzf⟩ : ∃ s, tS (selE a0 i) j (oS a0 a1 i) = s := ⟨_, rfl⟩
        obtain ⟨q3, hq3⟩ : ∃ q, decide ((selE a0 i >>> (63 - j)) &&& 1#64 = 1#64) = q := ⟨_, rfl⟩
        obtain ⟨q4, hq4⟩ : ∃ q, decide (f.2 &&& 1#64 = 1#64) = q := ⟨_, rfl⟩
        rw [hzf]
        change VOk _ _ _ _ _
        refine vseq ?_
        refine vseq ?_
        apply vrp
        · apply VE.cons
          · exact ev_move rfl (gn rfl)
          simp only [nm, seval]
          apply VE.cons
          · exact ev_geq (p := q2) rfl (gn rfl) rfl rfl hq2
          simp only [nm, seval]
          exact VE.nil _
        · kernel_rfl
        change VOk _ _ _ _ _
        cases q2
        · refine vcond_f rfl ?_
          have hN : j = 64 := by have := of_decide_eq_false hq2; omega
          subst hN
          have e1 : oS a0 a1 (i + 1) = (z, f) := hzf
          refine vexit ?_
          change VOk _ _ _ _ _
          apply vrp
          · apply VE.cons
            · exact ev_add (c := ((i + 1 : Nat) : Int)) rfl (gn rfl) rfl rfl (by rw [i64w (by omega) (by omega)]; omega)
            simp only [nm, seval]
            apply VE.cons
            · exact ev_move rfl (gn rfl)
            simp only [nm, seval]
            exact VE.nil _
          · kernel_rfl
          refine ⟨⟨i + 1, by omega⟩, by show 2 - (i + 1) < 2 - i; omega, ?_⟩
          simp only [e1]
          exact weaker_forget (fun i => i == 2 || i == 3 || i == 4 || i == 5 || i == 14 || i == 15) []
        · refine vcond_t rfl ?_
          have hlj : j < 64 := by have := of_decide_eq_true hq2; omega
          refine vskip ?_
          change VOk _ _ _ _ _
          refine vseq ?_
          refine vblock ?_
          refine vseq ?_
          refine vseq ?_
          apply vrp
          · apply VE.cons
            · exact ev_move rfl (gn rfl)
            simp only [nm, seval]
            apply VE.cons
            · exact ev_move rfl (gn rfl)
            simp only [nm, seval]
            apply VE.cons
            · exact ev_bin rfl (gn rfl) rfl rfl (fun w => shrj _ (by omega) _ _ w)
            simp only [nm, seval]
            apply VE.cons
            · exact ev_bin rfl (gn rfl) rfl rfl (fun w => and64 (selE a0 i >>> (63 - j)) 1#64 _ _ w)
            simp only [nm, seval]
            apply VE.cons
            · exact ev_bin (c := .bool q3) rfl (gn rfl) rfl rfl (fun w => by have := eql64 (selE a0 i >>> (63 - j) &&& 1#64) 1#64 (.tmp 0) (.tmp 0) w; rw [hq3] at this; exact this)
            simp only [nm, seval]
            exact VE.nil _
          · kernel_rfl
          change VOk _ _ _ _ _
          cases q3
          · refine vcond_f rfl ?_
            refine vskip ?_
            change VOk _ _ _ _ _
            refine vseq ?_
            apply vrp
            · apply VE.cons
              · first | exact ev_field rfl (gn rfl) rfl Tryd.underlying101 rfl Tryd.sizeOf63 | exact ev_fieldx rfl (gn rfl) rfl Tryd.underlying101 rfl Tryd.sizeOf63
              simp only [nm, seval]
              apply VE.cons
              · first | exact ev_load1 rfl (gn rfl) rfl rfl Tryd.underlying63 rfl rfl | exact ev_loadx1 rfl (gn rfl) rfl Tryd.underlying63 rfl (by assumption)
              simp only [nm, seval]
              apply VE.cons
              · exact ev_bin rfl (gn rfl) rfl rfl (fun w => and64 (f.2) 1#64 _ _ w)
              simp only [nm, seval]
              apply VE.cons
              · exact ev_bin (c := .bool q4) rfl (gn rfl) rfl rfl (fun w => by have := eql64 (f.2 &&& 1#64) 1#64 (.tmp 0) (.tmp 0) w; rw [hq4] at this; exact this)
              simp only [nm, seval]
              apply VE.cons
              · exact ev_assign rfl (gn rfl)
              simp only [nm, seval]
              exact VE.nil _
            · kernel_rfl
            change VOk _ _ _ _ _
            refine vseq ?_
            apply vrp
            · apply VE.cons
              · first | exact ev_field rfl (gn rfl) rfl Tryd.underlying101 rfl Tryd.sizeOf63 | exact ev_fieldx rfl (gn rfl) rfl Tryd.underlying101 rfl Tryd.sizeOf63
              simp only [nm, seval]
              apply VE.cons
              · first | exact ev_load1 rfl (gn rfl) rfl rfl Tryd.underlying63 rfl rfl | exact ev_loadx1 rfl (gn rfl) rfl Tryd.underlying63 rfl (by assumption)
              simp only [nm, seval]
              apply VE.cons
              · exact ev_bin rfl (gn rfl) rfl rfl (fun w => shrd _ 1 (by decide) _ _ w)
              simp only [nm, seval]
              apply VE.cons
              · first | exact ev_field rfl (gn rfl) rfl Tryd.underlying101 rfl Tryd.sizeOf63 | exact ev_fieldx rfl (gn rfl) rfl Tryd.underlying101 rfl Tryd.sizeOf63
              simp only [nm, seval]
              apply VE.cons
              · first | exact ev_load1 rfl (gn rfl) rfl rfl Tryd.underlying63 rfl rfl | exact ev_loadx1 rfl (gn rfl) rfl Tryd.underlying63 rfl (by assumption)
              simp only [nm, seval]
              apply VE.cons
              · exact ev_bin rfl (gn rfl) rfl rfl (fun w => shrd _ 1 (by decide) _ _ w)
              simp only [nm, seval]
              apply VE.cons
              · first | exact ev_field rfl (gn rfl) rfl Tryd.underlying101 rfl Tryd.sizeOf63 | exact ev_fieldx rfl (gn rfl) rfl Tryd.underlying101 rfl Tryd.sizeOf63
              simp only [nm, seval]
              apply VE.cons
              · first | exact ev_load1 rfl (gn rfl) rfl rfl Tryd.underlying63 rfl rfl | exact ev_loadx1 rfl (gn rfl) rfl Tryd.underlying63 rfl (by assumption)
              simp only [nm, seval]
              apply VE.cons
              · exact ev_bin rfl (gn rfl) rfl rfl (fun w => shld _ 63 (by decide) _ _ w)
              simp only [nm, seval]
              apply VE.cons
              · exact ev_bin rfl (gn rfl) rfl rfl (fun w => or64 _ _ _ _ w)
              simp only [nm, seval]
              apply VE.cons
              · exact ev_build rfl (gn rfl) rfl (built101 _ _)
              simp only [nm, seval]
              apply VE.cons
              · exact ev_store rfl (gn rfl) rfl rfl rfl Tryd.sizeOf101 rfl (by simp) rfl
              simp only [nm, seval]
              exact VE.nil _
            · kernel_rfl
            change VOk _ _ _ _ _
            refine vseq ?_
            apply vrp
            · apply VE.cons
              · exact ev_move rfl (gn rfl)
              simp only [nm, seval]
              exact VE.nil _
            · kernel_rfl
            change VOk _ _ _ _ _
            cases q4
            · refine vcond_f rfl ?_
              refine vskip ?_
              change VOk _ _ _ _ _
              apply vrp
              · apply VE.cons
                · exact ev_move rfl (gn rfl)
                simp only [nm, seval]
                apply VE.cons
                · exact ev_sub (c := 63 - ((j + 1 : Nat) : Int)) rfl (gn rfl) rfl rfl (by rw [i64w (by omega) (by omega)]; omega)
                simp only [nm, seval]
                apply VE.cons
                · exact ev_assign rfl (gn rfl)
                simp only [nm, seval]
                exact VE.nil _
              · kernel_rfl
              refine ⟨⟨j + 1, by omega⟩, by show 64 - (j + 1) < 64 - j; omega, ?_⟩
              have e1 := tS_t hzf
              first | rw [step1 (of_decide_eq_true hq3)] at e1 | rw [step0 (of_decide_eq_false hq3)] at e1
              first | rw [dbl1 (of_decide_eq_true hq4)] at e1 | rw [dbl0 (of_decide_eq_false hq4)] at e1
              simp only [e1]
              exact weaker_forget (fun i => i == 2 || i == 3 || i == 4 || i == 5 || i == 7 || i == 8 || i == 14 || i == 15) []
            · refine vcond_t rfl ?_
              apply vrp
              · apply VE.cons
                · first | exact ev_field rfl (gn rfl) rfl Tryd.underlying101 rfl Tryd.sizeOf63 | exact ev_fieldx rfl (gn rfl) rfl Tryd.underlying101 rfl Tryd.sizeOf63
                simp only [nm, seval]
                apply VE.cons
                · first | exact ev_load1 rfl (gn rfl) rfl rfl Tryd.underlying63 rfl rfl | exact ev_loadx1 rfl (gn rfl) rfl Tryd.underlying63 rfl (by assumption)
                simp only [nm, seval]
                apply VE.cons
                · exact ev_bin rfl (gn rfl) rfl rfl (fun w => xor64 _ polyC _ _ w)
                simp only [nm, seval]
                apply VE.cons
                · first | exact ev_field rfl (gn rfl) rfl Tryd.underlying101 rfl Tryd.sizeOf63 | exact ev_fieldx rfl (gn rfl) rfl Tryd.underlying101 rfl Tryd.sizeOf63
                simp only [nm, seval]
                apply VE.cons
                · exact ev_store rfl (gn rfl) rfl rfl rfl Tryd.sizeOf63 rfl (by simp [dv]) rfl
                simp only [nm, seval]
                exact VE.nil _
              · kernel_rfl
              change VOk _ _ _ _ _
              apply vrp
              · apply VE.cons
                · exact ev_move rfl (gn rfl)
                simp only [nm, seval]
                apply VE.cons
                · exact ev_sub (c := 63 - ((j + 1 : Nat) : Int)) rfl (gn rfl) rfl rfl (by rw [i64w (by omega) (by omega)]; omega)
                simp only [nm, seval]
                apply VE.cons
                · exact ev_assign rfl (gn rfl)
                simp only [nm, seval]
                exact VE.nil _
              · kernel_rfl
              refine ⟨⟨j + 1, by omega⟩, by show 64 - (j + 1) < 64 - j; omega, ?_⟩
              have e1 := tS_t hzf
              first | rw [step1 (of_decide_eq_true hq3)] at e1 | rw [step0 (of_decide_eq_false hq3)] at e1
              first | rw [dbl1 (of_decide_eq_true hq4)] at e1 | rw [dbl0 (of_decide_eq_false hq4)] at e1
              simp only [e1]
              exact weaker_forget (fun i => i == 2 || i == 3 || i == 4 || i == 5 || i == 7 || i == 8 || i == 14 || i == 15) []
          · refine vcond_t rfl ?_
            apply vrp
            · apply VE.cons
              · first | exact ev_load rfl (gn rfl) rfl rfl Tryd.underlying101 rfl Tryd.sizeOf101 rfl rfl | exact ev_loadx rfl (gn rfl) rfl Tryd.underlying101 rfl Tryd.sizeOf101 (by assumption) rfl | exact ev_loada rfl (gn rfl) rfl rfl Tryd.underlying101 rfl Tryd.sizeOf101 rfl
              simp only [nm, seval]
              apply VE.cons
              · first | exact ev_load rfl (gn rfl) rfl rfl Tryd.underlying101 rfl Tryd.sizeOf101 rfl rfl | exact ev_loadx rfl (gn rfl) rfl Tryd.underlying101 rfl Tryd.sizeOf101 (by assumption) rfl | exact ev_loada rfl (gn rfl) rfl rfl Tryd.underlying101 rfl Tryd.sizeOf101 rfl
              simp only [nm, seval]
              apply VE.cons
              · exact ev_callb rfl (gn rfl) rfl (en_of Tryd.func47 (by kernel_rfl) rfl) (fun w' hb => addE_ok w')
              simp only [nm, seval]
              apply VE.cons
              · exact ev_store rfl (gn rfl) rfl rfl rfl Tryd.sizeOf101 rfl (by simp) rfl
              simp only [nm, seval]
              exact VE.nil _
            · kernel_rfl
            change VOk _ _ _ _ _
            refine vseq ?_
            apply vrp
            · apply VE.cons
              · first | exact ev_field rfl (gn rfl) rfl Tryd.underlying101 rfl Tryd.sizeOf63 | exact ev_fieldx rfl (gn rfl) rfl Tryd.underlying101 rfl Tryd.sizeOf63
              simp only [nm, seval]
              apply VE.cons
              · first | exact ev_load1 rfl (gn rfl) rfl rfl Tryd.underlying63 rfl rfl | exact ev_loadx1 rfl (gn rfl) rfl Tryd.underlying63 rfl (by assumption)
              simp only [nm, seval]
              apply VE.cons
              · exact ev_bin rfl (gn rfl) rfl rfl (fun w => and64 (f.2) 1#64 _ _ w)
              simp only [nm, seval]
              apply VE.cons
              · exact ev_bin (c := .bool q4) rfl (gn rfl) rfl rfl (fun w => by have := eql64 (f.2 &&& 1#64) 1#64 (.tmp 0) (.tmp 0) w; rw [hq4] at this; exact this)
              simp only [nm, seval]
              apply VE.cons
              · exact ev_assign rfl (gn rfl)
              simp only [nm, seval]
              exact VE.nil _
            · kernel_rfl
            change VOk _ _ _ _ _
            refine vseq ?_
            apply vrp
            · apply VE.cons
              · first | exact ev_field rfl (gn rfl) rfl Tryd.underlying101 rfl Tryd.sizeOf63 | exact ev_fieldx rfl (gn rfl) rfl Tryd.underlying101 rfl Tryd.sizeOf63
              simp only [nm, seval]
              apply VE.cons
              · first | exact ev_load1 rfl (gn rfl) rfl rfl Tryd.underlying63 rfl rfl | exact ev_loadx1 rfl (gn rfl) rfl Tryd.underlying63 rfl (by assumption)
              simp only [nm, seval]
              apply VE.cons
              · exact ev_bin rfl (gn rfl) rfl rfl (fun w => shrd _ 1 (by decide) _ _ w)
              simp only [nm, seval]
              apply VE.cons
              · first | exact ev_field rfl (gn rfl) rfl Tryd.underlying101 rfl Tryd.sizeOf63 | exact ev_fieldx rfl (gn rfl) rfl Tryd.underlying101 rfl Tryd.sizeOf63
              simp only [nm, seval]
              apply VE.cons
              · first | exact ev_load1 rfl (gn rfl) rfl rfl Tryd.underlying63 rfl rfl | exact ev_loadx1 rfl (gn rfl) rfl Tryd.underlying63 rfl (by assumption)
              simp only [nm, seval]
              apply VE.cons
              · exact ev_bin rfl (gn rfl) rfl rfl (fun w => shrd _ 1 (by decide) _ _ w)
              simp only [nm, seval]
              apply VE.cons
              · first | exact ev_field rfl (gn rfl) rfl Tryd.underlying101 rfl Tryd.sizeOf63 | exact ev_fieldx rfl (gn rfl) rfl Tryd.underlying101 rfl Tryd.sizeOf63
              simp only [nm, seval]
              apply VE.cons
              · first | exact ev_load1 rfl (gn rfl) rfl rfl Tryd.underlying63 rfl rfl | exact ev_loadx1 rfl (gn rfl) rfl Tryd.underlying63 rfl (by assumption)
              simp only [nm, seval]
              apply VE.cons
              · exact ev_bin rfl (gn rfl) rfl rfl (fun w => shld _ 63 (by decide) _ _ w)
              simp only [nm, seval]
              apply VE.cons
              · exact ev_bin rfl (gn rfl) rfl rfl (fun w => or64 _ _ _ _ w)
              simp only [nm, seval]
              apply VE.cons
              · exact ev_build rfl (gn rfl) rfl (built101 _ _)
              simp only [nm, seval]
              apply VE.cons
              · exact ev_store rfl (gn rfl) rfl rfl rfl Tryd.sizeOf101 rfl (by simp) rfl
              simp only [nm, seval]
              exact VE.nil _
            · kernel_rfl
            change VOk _ _ _ _ _
            refine vseq ?_
            apply vrp
            · apply VE.cons
              · exact ev_move rfl (gn rfl)
              simp only [nm, seval]
              exact VE.nil _
            · kernel_rfl
            change VOk _ _ _ _ _
            cases q4
            · refine vcond_f rfl ?_
              refine vskip ?_
              change VOk _ _ _ _ _
              apply vrp
              · apply VE.cons
                · exact ev_move rfl (gn rfl)
                simp only [nm, seval]
                apply VE.cons
                · exact ev_sub (c := 63 - ((j + 1 : Nat) : Int)) rfl (gn rfl) rfl rfl (by rw [i64w (by omega) (by omega)]; omega)
                simp only [nm, seval]
                apply VE.cons
                · exact ev_assign rfl (gn rfl)
                simp only [nm, seval]
                exact VE.nil _
              · kernel_rfl
              refine ⟨⟨j + 1, by omega⟩, by show 64 - (j + 1) < 64 - j; omega, ?_⟩
              have e1 := tS_t hzf
              first | rw [step1 (of_decide_eq_true hq3)] at e1 | rw [step0 (of_decide_eq_false hq3)] at e1
              first | rw [dbl1 (of_decide_eq_true hq4)] at e1 | rw [dbl0 (of_decide_eq_false hq4)] at e1
              simp only [e1]
              exact weaker_forget (fun i => i == 2 || i == 3 || i == 4 || i == 5 || i == 7 || i == 8 || i == 14 || i == 15) []
            · refine vcond_t rfl ?_
              apply vrp
              · apply VE.cons
                · first | exact ev_field rfl (gn rfl) rfl Tryd.underlying101 rfl Tryd.sizeOf63 | exact ev_fieldx rfl (gn rfl) rfl Tryd.underlying101 rfl Tryd.sizeOf63
                simp only [nm, seval]
                apply VE.cons
                · first | exact ev_load1 rfl (gn rfl) rfl rfl Tryd.underlying63 rfl rfl | exact ev_loadx1 rfl (gn rfl) rfl Tryd.underlying63 rfl (by assumption)
                simp only [nm, seval]
                apply VE.cons
                · exact ev_bin rfl (gn rfl) rfl rfl (fun w => xor64 _ polyC _ _ w)
                simp only [nm, seval]
                apply VE.cons
                · first | exact ev_field rfl (gn rfl) rfl Tryd.underlying101 rfl Tryd.sizeOf63 | exact ev_fieldx rfl (gn rfl) rfl Tryd.underlying101 rfl Tryd.sizeOf63
                simp only [nm, seval]
                apply VE.cons
                · exact ev_store rfl (gn rfl) rfl rfl rfl Tryd.sizeOf63 rfl (by simp [dv]) rfl
                simp only [nm, seval]
                exact VE.nil _
              · kernel_rfl
              change VOk _ _ _ _ _
              apply vrp
              · apply VE.cons
                · exact ev_move rfl (gn rfl)
                simp only [nm, seval]
                apply VE.cons
                · exact ev_sub (c := 63 - ((j + 1 : Nat) : Int)) rfl (gn rfl) rfl rfl (by rw [i64w (by omega) (by omega)]; omega)
                simp only [nm, seval]
                apply VE.cons
                · exact ev_assign rfl (gn rfl)
                simp only [nm, seval]
                exact VE.nil _
              · kernel_rfl
              refine ⟨⟨j + 1, by omega⟩, by show 64 - (j + 1) < 64 - j; omega, ?_⟩
              have e1 := tS_t hzf
              first | rw [step1 (of_decide_eq_true hq3)] at e1 | rw [step0 (of_decide_eq_false hq3)] at e1
              first | rw [dbl1 (of_decide_eq_true hq4)] at e1 | rw [dbl0 (of_decide_eq_false hq4)] at e1
              simp only [e1]
              exact weaker_forget (fun i => i == 2 || i == 3 || i == 4 || i == 5 || i == 7 || i == 8 || i == 14 || i == 15) []
      · exact weaker_forget (fun i => i == 2 || i == 3 || i == 4 || i == 5 || i == 7 || i == 8 || i == 14 || i == 15) []
  · exact weaker_forget (fun i => i == 2 || i == 3 || i == 4 || i == 5 || i == 14 || i == 15) []
end Go.Proofs.YtiidceljhmpgcaaDoor
end
section
namespace Go.Proofs.YtiidceljhmpgcaaDoor
open Go.RowKit Go.Vx
open Go.Toll (Gw)
open TollSha
set_option maxHeartbeats 4000000
set_option maxRecDepth 100000
def Turn1 (w w' : World) (g : Nat) (l' : List Value) (ty : TypeId) : Prop :=
  Bw (bare w) w' ∧ w'.heap[g]? = some (.cells l'.toArray ty (0, 0)) ∧ (∀ k, k < w.heap.size → k ≠ g → w'.heap[k]? = w.heap[k]?) ∧ w.heap.size ≤ w'.heap.size
def own1R (g : Nat) : Nat → Nm := fun _ => ⟨g, undef⟩
def own1M (w : World) (g : Nat) (l : List Value) (ty : TypeId) : List (Nat × Blk) := [(801, .arr l ty), (803, .dat (frameD w (· = g))), (804, .pin 801 g), (805, .floor w.heap.size)]
theorem own1_rel {w : World} {g : Nat} {l : List Value} {ty : TypeId} (h : w.heap[g]? = some (.cells l.toArray ty (0, 0))) (fr : List SV) : Rel (bare w) (own1R g) ⟨fr, memOf (own1M w g l ty)⟩ w := by
  refine ⟨bw_bare w, fun i k => i = 803 ∧ k < w.heap.size ∧ k ≠ g, ?_⟩
  have cs : ∀ i b, memOf (own1M w g l ty) i = some b → (i = 801 ∧ b = .arr l ty) ∨ (i = 803 ∧ b = .dat (frameD w (· = g))) ∨ (i = 804 ∧ b = .pin 801 g) ∨ (i = 805 ∧ b = .floor w.heap.size) := by
    intro i b hb
    simp only [own1M, memOf] at hb
    split at hb
    · injection hb with hb; exact .inl ⟨by assumption, hb.symm⟩
    · split at hb
      · injection hb with hb; exact .inr (.inl ⟨by assumption, hb.symm⟩)
      · split at hb
        · injection hb with hb; exact .inr (.inr (.inl ⟨by assumption, hb.symm⟩))
        · split at hb
          · injection hb with hb; exact .inr (.inr (.inr ⟨by assumption, hb.symm⟩))
          · cases hb
  refine ⟨?_, ?_, ?_, ?_, ?_⟩
  · intro i b hb
    rcases cs i b hb with ⟨rfl, rfl⟩ | ⟨rfl, rfl⟩ | ⟨rfl, rfl⟩ | ⟨rfl, rfl⟩
    · exact ⟨Nat.zero_le _, h⟩
    · exact fun k hk hx => ⟨rfl, rfl, hk, hx⟩
    · rfl
    · exact Nat.le_refl _
  · rintro i k _ ⟨_, h, _⟩; exact h
  · rintro i k _ _; exact Nat.zero_le _
  · rintro i b j hi ho hj ⟨rfl, h4, h5⟩
    rcases cs i b hi with ⟨rfl, rfl⟩ | ⟨rfl, rfl⟩ | ⟨rfl, rfl⟩ | ⟨rfl, rfl⟩
    · exact h5 rfl
    · exact ho
    · exact ho
    · exact ho
  · intro i b j c hi ho hj hc he
    rcases cs i b hi with ⟨rfl, rfl⟩ | ⟨rfl, rfl⟩ | ⟨rfl, rfl⟩ | ⟨rfl, rfl⟩
    · rcases cs j c hj with ⟨rfl, rfl⟩ | ⟨rfl, rfl⟩ | ⟨rfl, rfl⟩ | ⟨rfl, rfl⟩
      · rfl
      · exact hc.elim
      · exact hc.elim
      · exact hc.elim
    · exact ho.elim
    · exact ho.elim
    · exact ho.elim
theorem own1_end {w w' : World} {g : Nat} {l' : List Value} {ty : TypeId} {s : VS} {ρ : Nat → Nm} (hr : Rel (bare w) ρ s w') (h1 : s.mem 801 = some (.arr l' ty)) (h3 : s.mem 803 = some (.dat (frameD w (· = g)))) (h4 : s.mem 804 = some (.pin 801 g)) (h5 : s.mem 805 = some (.floor w.heap.size)) : Turn1 w w' g l' ty := by
  obtain ⟨hb, S, hR⟩ := hr
  have a1 := (hR.good 801 _ h1).2
  have a4 : (ρ 801).g = g := hR.good 804 _ h4
  have a3 : (frameD w (· = g)).holds [(ρ 803).val] w' (S 803) := hR.good 803 _ h3
  have a5 : w.heap.size ≤ w'.heap.size := hR.good 805 _ h5
  exact ⟨hb, by rw [a4] at a1; exact a1, fun k hk hne => (a3 k hk hne).1, a5⟩
section
variable {P : Program} {w0 : World} {ops : Array Oper} {o : Oper} {s : VS}
theorem ev_sttr {ty : TypeId} {x y : Operand} {id off n v : Nat} {f : Nat → Nat} {bt : TypeId} {r : List Value} (g : Nat → Nat) (ho : o.op = .store ty x y) (hgd : Want ops o s) (hx : svEval s x = .p id off) (hm : s.mem id = some (.arr (tb n f ++ r) bt)) (hy : svEval s y = .v (b8 v))
    (hs : ∀ w, (Go.sizeOf ty).run P w = .ok 1 w) (hoff : off < n) (h : ∀ k, k < n → up f off v k = g k) : Ev P ops w0 o s ⟨.v undef, [(id, .arr (tb n g ++ r) bt)], [id], [], [id]⟩ := by
  have := ev_store1r (P := P) (w0 := w0) ho hgd hx hm hy hs rfl (by rw [List.length_append, tb_len]; omega) rfl
  rw [List.set_append_left _ _ (by rw [tb_len]; exact hoff), tb_set' h] at this
  exact this
end
theorem tbr_get {n i : Nat} {f : Nat → Nat} {r : List Value} (h : i < n) : (tb n f ++ r)[i]? = some (b8 (f i)) := by
  rw [List.getElem?_append_left (by rw [tb_len]; exact h)]; exact tb_get h
end Go.Proofs.YtiidceljhmpgcaaDoor
end
section
namespace Go.Proofs.YtiidceljhmpgcaaDoor
open Go.RowKit Go.Vx
open Go.Toll (Gw)
open TollSha
set_option maxHeartbeats 4000000
set_option maxRecDepth 100000
def pw : Nat → Nat
  | 0 => 1
  | k + 1 => pw k ^^^ dbl (pw k)
def qa (q : Nat) : Nat := q ^^^ sl8 q 1
def qb (q : Nat) : Nat := qa q ^^^ sl8 (qa q) 2
def qc (q : Nat) : Nat := qb q ^^^ sl8 (qb q) 4
def qn (q : Nat) : Nat := if qc q &&& 128 ≠ 0 then qc q ^^^ 9 else qc q
def qw : Nat → Nat
  | 0 => 1
  | k + 1 => qn (qw k)
def xq (q : Nat) : Nat := ((((q ^^^ (sl8 q 1 ||| sr8 q 7)) ^^^ (sl8 q 2 ||| sr8 q 6)) ^^^ (sl8 q 3 ||| sr8 q 5)) ^^^ (sl8 q 4 ||| sr8 q 4)) ^^^ 99
theorem pw_lt : ∀ k, pw k < 256
  | 0 => (by decide : 1 < 256)
  | k + 1 => xor_lt (pw_lt k) (dbl_lt _)
theorem qa_lt {q : Nat} (h : q < 256) : qa q < 256 := xor_lt h (sl8_lt _ _)
theorem qb_lt {q : Nat} (h : q < 256) : qb q < 256 := xor_lt (qa_lt h) (sl8_lt _ _)
theorem qc_lt {q : Nat} (h : q < 256) : qc q < 256 := xor_lt (qb_lt h) (sl8_lt _ _)
theorem qn_lt {q : Nat} (h : q < 256) : qn q < 256 := by
  unfold qn; split
  · exact xor_lt (qc_lt h) (by decide)
  · exact qc_lt h
theorem qw_lt : ∀ k, qw k < 256
  | 0 => (by decide : 1 < 256)
  | k + 1 => qn_lt (qw_lt k)
theorem tn_lt {q : Nat} (i j : Nat) (h : q < 256) : sl8 q i ||| sr8 q j < 256 := or_lt (sl8_lt _ _) (sr8_lt _ h)
theorem xq1_lt {q : Nat} (h : q < 256) : q ^^^ (sl8 q 1 ||| sr8 q 7) < 256 := xor_lt h (tn_lt _ _ h)
theorem xq2_lt {q : Nat} (h : q < 256) : (q ^^^ (sl8 q 1 ||| sr8 q 7)) ^^^ (sl8 q 2 ||| sr8 q 6) < 256 := xor_lt (xq1_lt h) (tn_lt _ _ h)
theorem xq3_lt {q : Nat} (h : q < 256) : ((q ^^^ (sl8 q 1 ||| sr8 q 7)) ^^^ (sl8 q 2 ||| sr8 q 6)) ^^^ (sl8 q 3 ||| sr8 q 5) < 256 := xor_lt (xq2_lt h) (tn_lt _ _ h)
theorem xq4_lt {q : Nat} (h : q < 256) : (((q ^^^ (sl8 q 1 ||| sr8 q 7)) ^^^ (sl8 q 2 ||| sr8 q 6)) ^^^ (sl8 q 3 ||| sr8 q 5)) ^^^ (sl8 q 4 ||| sr8 q 4) < 256 := xor_lt (xq3_lt h) (tn_lt _ _ h)
theorem xq_lt {q : Nat} (h : q < 256) : xq q < 256 := xor_lt (xq4_lt h) (by decide)
def tt : Nat → Nat → Nat
  | 0 => fun _ => 0
  | k + 1 => up (up (tt k) (pw (k + 1)) (xq (qw (k + 1)))) (256 + xq (qw (k + 1))) (pw (k + 1))
theorem tt_s (k : Nat) : tt (k + 1) = up (up (tt k) (pw (k + 1)) (xq (qw (k + 1)))) (256 + xq (qw (k + 1))) (pw (k + 1)) := rfl
def tT : Nat → Nat := up (up (tt (254 + 1)) 0 99) 355 0
theorem up_by {f : Nat → Nat} {i v : Nat} (hf : By f) (hv : v < 256) : By (up f i v) := fun k => by
  unfold up; split
  · exact hv
  · exact hf k
theorem tt_by : ∀ k, By (tt k)
  | 0 => fun _ => (by decide : 0 < 256)
  | k + 1 => up_by (up_by (tt_by k) (xq_lt (qw_lt _))) (pw_lt _)
theorem tT_by : By tT := up_by (up_by (tt_by (254 + 1)) (by decide)) (by decide)
theorem pw_all : ∀ k : Fin 255, decide (pw (k.1 + 1) = 1) = decide (k.1 = 254) := by decide +kernel
theorem pw_one {k : Nat} (h : k < 255) : pw (k + 1) = 1 ↔ k = 254 := decide_eq_decide.1 (pw_all ⟨k, h⟩)
theorem ready_ok {w : World} {g : Nat} {z : Value} (hg : w.heap[g]? = some (.cells (tb 512 (fun _ => 0) ++ [z]).toArray 91 (0, 0))) : Calls Tryd.prog 38 #[.pointer (some ⟨g, 0, none⟩)] w fun e w' => e = .returned (.tuple #[]) ∧ Turn1 w w' g (tb 512 tT ++ [z]) 91 := by
  go_enter Tryd.func38, Tryd.ntmps38
  refine ve_gob (own1R g) (by simp [SV.c, own1R]) (own1_rel hg (.p 801 0 :: .v undef :: .v undef :: .v undef :: .v undef :: .v undef :: .v undef :: .v undef :: .v undef :: .v undef :: .v undef :: .v undef :: .v undef :: .v undef :: .v undef :: .v undef :: .v undef :: .v undef :: .v undef :: .v undef :: .v undef :: .v undef :: .v undef :: .v undef :: .v undef :: .v undef :: .v undef :: .v undef :: .v undef :: .v undef :: .v undef :: .v undef :: .v undef :: .v undef :: .v undef :: .v undef :: .v undef :: .v undef :: .v undef :: .v undef :: .v undef :: .v undef :: .v undef :: .v undef :: .v undef :: .v undef :: .v undef :: .v undef :: .v undef :: .v undef :: .v undef :: .v undef :: .v undef :: .v undef :: .v undef :: .v undef :: .v undef :: .v undef :: .v undef :: .v undef :: .v undef :: .v undef :: .v undef :: .v undef :: .v undef :: .v undef :: .v undef :: .v undef :: .v undef :: .v undef :: .v undef :: .v undef :: .v undef :: .v undef :: [])) ?_
  simp only [own1M]
  refine vseq ?_
  apply vrp
  · apply VE.cons
    · exact ev_assign rfl (gn rfl)
    simp only [nm, seval]
    apply VE.cons
    · exact ev_assign rfl (gn rfl)
    simp only [nm, seval]
    exact VE.nil _
  · kernel_rfl
  change VOk _ _ _ _ _
  refine vseq ?_
  refine vblock ?_
  refine vloop_w (α := {k : Nat // k < 255}) (fun (x : {k : Nat // k < 255}) f => ⟨.p 801 0 :: .v (f 1) :: .v (b8 (pw x.1)) :: .v (b8 (qw x.1)) :: .v (f 4) :: .v (f 5) :: .v (f 6) :: .v (f 7) :: .v (f 8) :: .v (f 9) :: .v (f 10) :: .v (f 11) :: .v (f 12) :: .v (f 13) :: .v (f 14) :: .v (f 15) :: .v (f 16) :: .v (f 17) :: .v (f 18) :: .v (f 19) :: .v (f 20) :: .v (f 21) :: .v (f 22) :: .v (f 23) :: .v (f 24) :: .v (f 25) :: .v (f 26) :: .v (f 27) :: .v (f 28) :: .v (f 29) :: .v (f 30) :: .v (f 31) :: .v (f 32) :: .v (f 33) :: .v (f 34) :: .v (f 35) :: .v (f 36) :: .v (f 37) :: .v (f 38) :: .v (f 39) :: .v (f 40) :: .v (f 41) :: .v (f 42) :: .v (f 43) :: .v (f 44) :: .v (f 45) :: .v (f 46) :: .v (f 47) :: .v (f 48) :: .v (f 49) :: .v (f 50) :: .v (f 51) :: .v (f 52) :: .v (f 53) :: .v (f 54) :: .v (f 55) :: .v (f 56) :: .v (f 57) :: .v (f 58) :: .v (f 59) :: .v (f 60) :: .v (f 61) :: .v (f 62) :: .v (f 63) :: .v (f 64) :: .v (f 65) :: .v (f 66) :: .v (f 67) :: .v (f 68) :: .v (f 69) :: .v (f 70) :: .v (f 71) :: .v (f 72) :: .v (f 73) :: [], memOf [(801, .arr (tb 512 (tt x.1) ++ [z]) 91), (803, .dat (frameD w (· = g))), (804, .pin 801 g), (805, .floor w.heap.size)]⟩) (fun x => 255 - x.1) ?_ (⟨0, by decide⟩) ?_
  · rintro ⟨k, hk⟩ f
    have hp := pw_lt k
    have hq := qw_lt k
    obtain ⟨q2, hq2⟩ : ∃ q, decide (qc (qw k) &&& 128 ≠ 0) = q := ⟨_, rfl⟩
    obtain ⟨P1, hP1⟩ : ∃ q, pw (k + 1) = q := ⟨_, rfl⟩
    have hP2 : pw k ^^^ dbl (pw k) = P1 := hP1
    obtain ⟨Q, hQ⟩ : ∃ q, qw (k + 1) = q := ⟨_, rfl⟩
    have hQ2 : qn (qw k) = Q := hQ
    have hpn : P1 < 256 := by rw [← hP1]; exact pw_lt _
    have hqn : Q < 256 := by rw [← hQ]; exact qw_lt _
    obtain ⟨q3, hq3⟩ : ∃ q, decide (P1 = 1) = q := ⟨_, rfl⟩
    have hts := tt_s k
    rw [hP1, hQ] at hts
    change VOk _ _ _ _ _
    refine vblock ?_
    refine vseq ?_
    apply vrp
    · apply VE.cons
      · exact ev_move rfl (gn rfl)
      simp only [nm, seval]
      apply VE.cons
      · exact ev_move rfl (gn rfl)
      simp only [nm, seval]
      apply VE.cons
      · exact ev_callb rfl (gn rfl) rfl (en_of Tryd.func39 (by kernel_rfl) rfl) (fun w' hb => dbl_ok hp w')
      simp only [nm, seval]
      apply VE.cons
      · exact ev_bin (c := b8 P1) rfl (gn rfl) rfl rfl (fun w => by rw [← hP2]; exact xor8 hp (dbl_lt _) _ _ w)
      simp only [nm, seval]
      apply VE.cons
      · exact ev_assign rfl (gn rfl)
      simp only [nm, seval]
      exact VE.nil _
    · kernel_rfl
    change VOk _ _ _ _ _
    refine vseq ?_
    apply vrp
    · apply VE.cons
      · exact ev_move rfl (gn rfl)
      simp only [nm, seval]
      apply VE.cons
      · exact ev_move rfl (gn rfl)
      simp only [nm, seval]
      apply VE.cons
      · exact ev_bin rfl (gn rfl) rfl rfl (fun w => hl8 1 (by decide) _ _ w)
      simp only [nm, seval]
      apply VE.cons
      · exact ev_bin (c := b8 (qa (qw k))) rfl (gn rfl) rfl rfl (fun w => xor8 hq (sl8_lt _ _) _ _ w)
      simp only [nm, seval]
      apply VE.cons
      · exact ev_assign rfl (gn rfl)
      simp only [nm, seval]
      exact VE.nil _
    · kernel_rfl
    change VOk _ _ _ _ _
    refine vseq ?_
    apply vrp
    · apply VE.cons
      · exact ev_move rfl (gn rfl)
      simp only [nm, seval]
      apply VE.cons
      · exact ev_move rfl (gn rfl)
      simp only [nm, seval]
      apply VE.cons
      · exact ev_bin rfl (gn rfl) rfl rfl (fun w => hl8 2 (by decide) _ _ w)
      simp only [nm, seval]
      apply VE.cons
      · exact ev_bin (c := b8 (qb (qw k))) rfl (gn rfl) rfl rfl (fun w => xor8 (qa_lt hq) (sl8_lt _ _) _ _ w)
      simp only [nm, seval]
      apply VE.cons
      · exact ev_assign rfl (gn rfl)
      simp only [nm, seval]
      exact VE.nil _
    · kernel_rfl
    change VOk _ _ _ _ _
    refine vseq ?_
    apply vrp
    · apply VE.cons
      · exact ev_move rfl (gn rfl)
      simp only [nm, seval]
      apply VE.cons
      · exact ev_move rfl (gn rfl)
      simp only [nm, seval]
      apply VE.cons
      · exact ev_bin rfl (gn rfl) rfl rfl (fun w => hl8 4 (by decide) _ _ w)
      simp only [nm, seval]
      apply VE.cons
      · exact ev_bin (c := b8 (qc (qw k))) rfl (gn rfl) rfl rfl (fun w => xor8 (qb_lt hq) (sl8_lt _ _) _ _ w)
      simp only [nm, seval]
      apply VE.cons
      · exact ev_assign rfl (gn rfl)
      simp only [nm, seval]
      exact VE.nil _
    · kernel_rfl
    change VOk _ _ _ _ _
    refine vseq ?_
    refine vseq ?_
    apply vrp
    · apply VE.cons
      · exact ev_move rfl (gn rfl)
      simp only [nm, seval]
      apply VE.cons
      · exact ev_bin rfl (gn rfl) rfl rfl (fun w => and8 (qc_lt hq) (c := 128) (by decide) _ _ w)
      simp only [nm, seval]
      apply VE.cons
      · exact ev_bin (c := .bool q2) rfl (gn rfl) rfl rfl (fun w => by have := neq8 (b := qc (qw k) &&& 128) (c := 0) (.tmp 22) (.const (.int .u8 0)) w; rw [hq2] at this; exact this)
      simp only [nm, seval]
      exact VE.nil _
    · kernel_rfl
    change VOk _ _ _ _ _
    cases q2
    · refine vcond_f rfl ?_
      have e : qc (qw k) = Q := by rw [← hQ2]; exact (if_neg (by simpa using hq2)).symm
      rw [e]
      refine vskip ?_
      change VOk _ _ _ _ _
      refine vseq ?_
      apply vrp
      · apply VE.cons
        · exact ev_move rfl (gn rfl)
        simp only [nm, seval]
        apply VE.cons
        · exact ev_move rfl (gn rfl)
        simp only [nm, seval]
        apply VE.cons
        · exact ev_bin rfl (gn rfl) rfl rfl (fun w => hl8 1 (by decide) _ _ w)
        simp only [nm, seval]
        apply VE.cons
        · exact ev_move rfl (gn rfl)
        simp only [nm, seval]
        apply VE.cons
        · exact ev_bin rfl (gn rfl) rfl rfl (fun w => hr8 7 (by decide) _ _ w)
        simp only [nm, seval]
        apply VE.cons
        · exact ev_bin rfl (gn rfl) rfl rfl (fun w => or8 (sl8_lt _ _) (sr8_lt _ hqn) _ _ w)
        simp only [nm, seval]
        apply VE.cons
        · exact ev_bin rfl (gn rfl) rfl rfl (fun w => xor8 hqn (tn_lt _ _ hqn) _ _ w)
        simp only [nm, seval]
        apply VE.cons
        · exact ev_move rfl (gn rfl)
        simp only [nm, seval]
        apply VE.cons
        · exact ev_bin rfl (gn rfl) rfl rfl (fun w => hl8 2 (by decide) _ _ w)
        simp only [nm, seval]
        apply VE.cons
        · exact ev_move rfl (gn rfl)
        simp only [nm, seval]
        apply VE.cons
        · exact ev_bin rfl (gn rfl) rfl rfl (fun w => hr8 6 (by decide) _ _ w)
        simp only [nm, seval]
        apply VE.cons
        · exact ev_bin rfl (gn rfl) rfl rfl (fun w => or8 (sl8_lt _ _) (sr8_lt _ hqn) _ _ w)
        simp only [nm, seval]
        apply VE.cons
        · exact ev_bin rfl (gn rfl) rfl rfl (fun w => xor8 (xq1_lt hqn) (tn_lt _ _ hqn) _ _ w)
        simp only [nm, seval]
        apply VE.cons
        · exact ev_move rfl (gn rfl)
        simp only [nm, seval]
        apply VE.cons
        · exact ev_bin rfl (gn rfl) rfl rfl (fun w => hl8 3 (by decide) _ _ w)
        simp only [nm, seval]
        apply VE.cons
        · exact ev_move rfl (gn rfl)
        simp only [nm, seval]
        apply VE.cons
        · exact ev_bin rfl (gn rfl) rfl rfl (fun w => hr8 5 (by decide) _ _ w)
        simp only [nm, seval]
        apply VE.cons
        · exact ev_bin rfl (gn rfl) rfl rfl (fun w => or8 (sl8_lt _ _) (sr8_lt _ hqn) _ _ w)
        simp only [nm, seval]
        apply VE.cons
        · exact ev_bin rfl (gn rfl) rfl rfl (fun w => xor8 (xq2_lt hqn) (tn_lt _ _ hqn) _ _ w)
        simp only [nm, seval]
        apply VE.cons
        · exact ev_move rfl (gn rfl)
        simp only [nm, seval]
        apply VE.cons
        · exact ev_bin rfl (gn rfl) rfl rfl (fun w => hl8 4 (by decide) _ _ w)
        simp only [nm, seval]
        apply VE.cons
        · exact ev_move rfl (gn rfl)
        simp only [nm, seval]
        apply VE.cons
        · exact ev_bin rfl (gn rfl) rfl rfl (fun w => hr8 4 (by decide) _ _ w)
        simp only [nm, seval]
        apply VE.cons
        · exact ev_bin rfl (gn rfl) rfl rfl (fun w => or8 (sl8_lt _ _) (sr8_lt _ hqn) _ _ w)
        simp only [nm, seval]
        apply VE.cons
        · exact ev_bin rfl (gn rfl) rfl rfl (fun w => xor8 (xq3_lt hqn) (tn_lt _ _ hqn) _ _ w)
        simp only [nm, seval]
        apply VE.cons
        · exact ev_bin (c := b8 (xq Q)) rfl (gn rfl) rfl rfl (fun w => xor8 (xq4_lt hqn) (c := 99) (by decide) _ _ w)
        simp only [nm, seval]
        apply VE.cons
        · exact ev_assign rfl (gn rfl)
        simp only [nm, seval]
        exact VE.nil _
      · kernel_rfl
      change VOk _ _ _ _ _
      refine vseq ?_
      apply vrd (by kernel_rfl)
      · apply VE.cons
        · exact ev_move rfl (gn rfl)
        simp only [nm, seval]
        apply VE.cons
        · exact ev_move rfl (gn rfl)
        simp only [nm, seval]
        apply VE.cons
        · exact ev_move rfl (gn rfl)
        simp only [nm, seval]
        apply VE.cons
        · exact ev_move rfl (gn rfl)
        simp only [nm, seval]
        apply VE.cons
        · exact ev_move rfl (gn rfl)
        simp only [nm, seval]
        apply VE.cons
        · exact ev_move rfl (gn rfl)
        simp only [nm, seval]
        apply VE.cons
        · first | exact ev_nil rfl (gn rfl) rfl | exact ev_nilx rfl (gn rfl) rfl
        simp only [nm, seval]
        apply VE.cons
        · first | exact ev_field rfl (gn rfl) rfl Tryd.underlying88 rfl Tryd.sizeOf86 | exact ev_fieldx rfl (gn rfl) rfl Tryd.underlying88 rfl Tryd.sizeOf86
        simp only [nm, seval]
        apply VE.cons
        · exact ev_indexn (k := P1) (j := P1) rfl (gn rfl) rfl rfl Tryd.underlying86 Tryd.sizeOf5 hpn (Nat.zero_add _)
        simp only [nm, seval]
        apply VE.cons
        · first | exact ev_sttr (up (tt k) P1 (xq Q)) rfl (gn rfl) rfl rfl rfl Tryd.sizeOf5 (by omega) (fun _ _ => rfl) | exact ev_sttr (up (up (tt k) P1 (xq Q)) (256 + xq Q) P1) rfl (gn rfl) rfl rfl rfl Tryd.sizeOf5 (by have := xq_lt hqn; omega) (fun _ _ => rfl) | exact ev_sttr (up (tt (254 + 1)) 0 99) rfl (gn rfl) rfl rfl (show svEval _ _ = .v (b8 99) from rfl) Tryd.sizeOf5 (by decide) (fun _ _ => rfl) | exact ev_sttr tT rfl (gn rfl) rfl rfl (show svEval _ _ = .v (b8 0) from rfl) Tryd.sizeOf5 (by decide) (fun _ _ => rfl)
        simp only [nm, seval]
        apply VE.cons
        · first | exact ev_nil rfl (gn rfl) rfl | exact ev_nilx rfl (gn rfl) rfl
        simp only [nm, seval]
        apply VE.cons
        · first | exact ev_field rfl (gn rfl) rfl Tryd.underlying88 rfl Tryd.sizeOf86 | exact ev_fieldx rfl (gn rfl) rfl Tryd.underlying88 rfl Tryd.sizeOf86
        simp only [nm, seval]
        apply VE.cons
        · exact ev_indexn (k := xq Q) (j := 256 + xq Q) rfl (gn rfl) rfl rfl Tryd.underlying86 Tryd.sizeOf5 (xq_lt hqn) rfl
        simp only [nm, seval]
        apply VE.cons
        · first | exact ev_sttr (up (tt k) P1 (xq Q)) rfl (gn rfl) rfl rfl rfl Tryd.sizeOf5 (by omega) (fun _ _ => rfl) | exact ev_sttr (up (up (tt k) P1 (xq Q)) (256 + xq Q) P1) rfl (gn rfl) rfl rfl rfl Tryd.sizeOf5 (by have := xq_lt hqn; omega) (fun _ _ => rfl) | exact ev_sttr (up (tt (254 + 1)) 0 99) rfl (gn rfl) rfl rfl (show svEval _ _ = .v (b8 99) from rfl) Tryd.sizeOf5 (by decide) (fun _ _ => rfl) | exact ev_sttr tT rfl (gn rfl) rfl rfl (show svEval _ _ = .v (b8 0) from rfl) Tryd.sizeOf5 (by decide) (fun _ _ => rfl)
        simp only [nm, seval]
        exact VE.nil _
      · kernel_rfl
      change VOk _ _ _ _ _
      refine vseq ?_
      apply vrp
      · apply VE.cons
        · exact ev_move rfl (gn rfl)
        simp only [nm, seval]
        apply VE.cons
        · exact ev_bin (c := .bool q3) rfl (gn rfl) rfl rfl (fun w => by have := eql8 (b := P1) (c := 1) (.tmp 64) (.const (.int .u8 1)) w; rw [hq3] at this; exact this)
        simp only [nm, seval]
        exact VE.nil _
      · kernel_rfl
      change VOk _ _ _ _ _
      cases q3
      · refine vcond_f rfl ?_
        refine vskip ?_
        have hk2 : k + 1 < 255 := by have h1 := of_decide_eq_false hq3; have : k ≠ 254 := fun e4 => h1 (by rw [← hP1]; exact (pw_one hk).2 e4); omega
        rw [← hts, ← hP1, ← hQ]
        exact ⟨⟨k + 1, hk2⟩, by show 255 - (k + 1) < 255 - k; omega, weaker_forget (fun i => i == 0 || i == 2 || i == 3) []⟩
      · refine vcond_t rfl ?_
        have hk4 : k = 254 := (pw_one hk).1 (by rw [hP1]; exact of_decide_eq_true hq3)
        subst hk4
        rw [← hts]
        refine vexit ?_
        change VOk _ _ _ _ _
        apply vrd (by kernel_rfl)
        · apply VE.cons
          · exact ev_move rfl (gn rfl)
          simp only [nm, seval]
          apply VE.cons
          · exact ev_move rfl (gn rfl)
          simp only [nm, seval]
          apply VE.cons
          · first | exact ev_nil rfl (gn rfl) rfl | exact ev_nilx rfl (gn rfl) rfl
          simp only [nm, seval]
          apply VE.cons
          · first | exact ev_field rfl (gn rfl) rfl Tryd.underlying88 rfl Tryd.sizeOf86 | exact ev_fieldx rfl (gn rfl) rfl Tryd.underlying88 rfl Tryd.sizeOf86
          simp only [nm, seval]
          apply VE.cons
          · exact ev_indexn (k := 0) (j := 0) rfl (gn rfl) rfl rfl Tryd.underlying86 Tryd.sizeOf5 (by decide) rfl
          simp only [nm, seval]
          apply VE.cons
          · first | exact ev_sttr (up (tt k) P1 (xq Q)) rfl (gn rfl) rfl rfl rfl Tryd.sizeOf5 (by omega) (fun _ _ => rfl) | exact ev_sttr (up (up (tt k) P1 (xq Q)) (256 + xq Q) P1) rfl (gn rfl) rfl rfl rfl Tryd.sizeOf5 (by have := xq_lt hqn; omega) (fun _ _ => rfl) | exact ev_sttr (up (tt (254 + 1)) 0 99) rfl (gn rfl) rfl rfl (show svEval _ _ = .v (b8 99) from rfl) Tryd.sizeOf5 (by decide) (fun _ _ => rfl) | exact ev_sttr tT rfl (gn rfl) rfl rfl (show svEval _ _ = .v (b8 0) from rfl) Tryd.sizeOf5 (by decide) (fun _ _ => rfl)
          simp only [nm, seval]
          apply VE.cons
          · first | exact ev_nil rfl (gn rfl) rfl | exact ev_nilx rfl (gn rfl) rfl
          simp only [nm, seval]
          apply VE.cons
          · first | exact ev_field rfl (gn rfl) rfl Tryd.underlying88 rfl Tryd.sizeOf86 | exact ev_fieldx rfl (gn rfl) rfl Tryd.underlying88 rfl Tryd.sizeOf86
          simp only [nm, seval]
          apply VE.cons
          · exact ev_indexn (k := 99) (j := 355) rfl (gn rfl) rfl rfl Tryd.underlying86 Tryd.sizeOf5 (by decide) rfl
          simp only [nm, seval]
          apply VE.cons
          · first | exact ev_sttr (up (tt k) P1 (xq Q)) rfl (gn rfl) rfl rfl rfl Tryd.sizeOf5 (by omega) (fun _ _ => rfl) | exact ev_sttr (up (up (tt k) P1 (xq Q)) (256 + xq Q) P1) rfl (gn rfl) rfl rfl rfl Tryd.sizeOf5 (by have := xq_lt hqn; omega) (fun _ _ => rfl) | exact ev_sttr (up (tt (254 + 1)) 0 99) rfl (gn rfl) rfl rfl (show svEval _ _ = .v (b8 99) from rfl) Tryd.sizeOf5 (by decide) (fun _ _ => rfl) | exact ev_sttr tT rfl (gn rfl) rfl rfl (show svEval _ _ = .v (b8 0) from rfl) Tryd.sizeOf5 (by decide) (fun _ _ => rfl)
          simp only [nm, seval]
          exact VE.nil _
        · kernel_rfl
        refine post_end (res0 Tryd.results38 ) ?_
        intro ρ w' hr
        exact ⟨rfl, own1_end hr rfl rfl rfl rfl⟩
    · refine vcond_t rfl ?_
      have e : qc (qw k) ^^^ 9 = Q := by rw [← hQ2]; exact (if_pos (by simpa using hq2)).symm
      apply vrp
      · apply VE.cons
        · exact ev_move rfl (gn rfl)
        simp only [nm, seval]
        apply VE.cons
        · exact ev_bin (c := b8 Q) rfl (gn rfl) rfl rfl (fun w => by rw [← e]; exact xor8 (qc_lt hq) (c := 9) (by decide) _ _ w)
        simp only [nm, seval]
        apply VE.cons
        · exact ev_assign rfl (gn rfl)
        simp only [nm, seval]
        exact VE.nil _
      · kernel_rfl
      change VOk _ _ _ _ _
      refine vseq ?_
      apply vrp
      · apply VE.cons
        · exact ev_move rfl (gn rfl)
        simp only [nm, seval]
        apply VE.cons
        · exact ev_move rfl (gn rfl)
        simp only [nm, seval]
        apply VE.cons
        · exact ev_bin rfl (gn rfl) rfl rfl (fun w => hl8 1 (by decide) _ _ w)
        simp only [nm, seval]
        apply VE.cons
        · exact ev_move rfl (gn rfl)
        simp only [nm, seval]
        apply VE.cons
        · exact ev_bin rfl (gn rfl) rfl rfl (fun w => hr8 7 (by decide) _ _ w)
        simp only [nm, seval]
        apply VE.cons
        · exact ev_bin rfl (gn rfl) rfl rfl (fun w => or8 (sl8_lt _ _) (sr8_lt _ hqn) _ _ w)
        simp only [nm, seval]
        apply VE.cons
        · exact ev_bin rfl (gn rfl) rfl rfl (fun w => xor8 hqn (tn_lt _ _ hqn) _ _ w)
        simp only [nm, seval]
        apply VE.cons
        · exact ev_move rfl (gn rfl)
        simp only [nm, seval]
        apply VE.cons
        · exact ev_bin rfl (gn rfl) rfl rfl (fun w => hl8 2 (by decide) _ _ w)
        simp only [nm, seval]
        apply VE.cons
        · exact ev_move rfl (gn rfl)
        simp only [nm, seval]
        apply VE.cons
        · exact ev_bin rfl (gn rfl) rfl rfl (fun w => hr8 6 (by decide) _ _ w)
        simp only [nm, seval]
        apply VE.cons
        · exact ev_bin rfl (gn rfl) rfl rfl (fun w => or8 (sl8_lt _ _) (sr8_lt _ hqn) _ _ w)
        simp only [nm, seval]
        apply VE.cons
        · exact ev_bin rfl (gn rfl) rfl rfl (fun w => xor8 (xq1_lt hqn) (tn_lt _ _ hqn) _ _ w)
        simp only [nm, seval]
        apply VE.cons
        · exact ev_move rfl (gn rfl)
        simp only [nm, seval]
        apply VE.cons
        · exact ev_bin rfl (gn rfl) rfl rfl (fun w => hl8 3 (by decide) _ _ w)
        simp only [nm, seval]
        apply VE.cons
        · exact ev_move rfl (gn rfl)
        simp only [nm, seval]
        apply VE.cons
        · exact ev_bin rfl (gn rfl) rfl rfl (fun w => hr8 5 (by decide) _ _ w)
        simp only [nm, seval]
        apply VE.cons
        · exact ev_bin rfl (gn rfl) rfl rfl (fun w => or8 (sl8_lt _ _) (sr8_lt _ hqn) _ _ w)
        simp only [nm, seval]
        apply VE.cons
        · exact ev_bin rfl (gn rfl) rfl rfl (fun w => xor8 (xq2_lt hqn) (tn_lt _ _ hqn) _ _ w)
        simp only [nm, seval]
        apply VE.cons
        · exact ev_move rfl (gn rfl)
        simp only [nm, seval]
        apply VE.cons
        · exact ev_bin rfl (gn rfl) rfl rfl (fun w => hl8 4 (by decide) _ _ w)
        simp only [nm, seval]
        apply VE.cons
        · exact ev_move rfl (gn rfl)
        simp only [nm, seval]
        apply VE.cons
        · exact ev_bin rfl (gn rfl) rfl rfl (fun w => hr8 4 (by decide) _ _ w)
        simp only [nm, seval]
        apply VE.cons
        · exact ev_bin rfl (gn rfl) rfl rfl (fun w => or8 (sl8_lt _ _) (sr8_lt _ hqn) _ _ w)
        simp only [nm, seval]
        apply VE.cons
        · exact ev_bin rfl (gn rfl) rfl rfl (fun w => xor8 (xq3_lt hqn) (tn_lt _ _ hqn) _ _ w)
        simp only [nm, seval]
        apply VE.cons
        · exact ev_bin (c := b8 (xq Q)) rfl (gn rfl) rfl rfl (fun w => xor8 (xq4_lt hqn) (c := 99) (by decide) _ _ w)
        simp only [nm, seval]
        apply VE.cons
        · exact ev_assign rfl (gn rfl)
        simp only [nm, seval]
        exact VE.nil _
      · kernel_rfl
      change VOk _ _ _ _ _
      refine vseq ?_
      apply vrd (by kernel_rfl)
      · apply VE.cons
        · exact ev_move rfl (gn rfl)
        simp only [nm, seval]
        apply VE.cons
        · exact ev_move rfl (gn rfl)
        simp only [nm, seval]
        apply VE.cons
        · exact ev_move rfl (gn rfl)
        simp only [nm, seval]
        apply VE.cons
        · exact ev_move rfl (gn rfl)
        simp only [nm, seval]
        apply VE.cons
        · exact ev_move rfl (gn rfl)
        simp only [nm, seval]
        apply VE.cons
        · exact ev_move rfl (gn rfl)
        simp only [nm, seval]
        apply VE.cons
        · first | exact ev_nil rfl (gn rfl) rfl | exact ev_nilx rfl (gn rfl) rfl
        simp only [nm, seval]
        apply VE.cons
        · first | exact ev_field rfl (gn rfl) rfl Tryd.underlying88 rfl Tryd.sizeOf86 | exact ev_fieldx rfl (gn rfl) rfl Tryd.underlying88 rfl Tryd.sizeOf86
        simp only [nm, seval]
        apply VE.cons
        · exact ev_indexn (k := P1) (j := P1) rfl (gn rfl) rfl rfl Tryd.underlying86 Tryd.sizeOf5 hpn (Nat.zero_add _)
        simp only [nm, seval]
        apply VE.cons
        · first | exact ev_sttr (up (tt k) P1 (xq Q)) rfl (gn rfl) rfl rfl rfl Tryd.sizeOf5 (by omega) (fun _ _ => rfl) | exact ev_sttr (up (up (tt k) P1 (xq Q)) (256 + xq Q) P1) rfl (gn rfl) rfl rfl rfl Tryd.sizeOf5 (by have := xq_lt hqn; omega) (fun _ _ => rfl) | exact ev_sttr (up (tt (254 + 1)) 0 99) rfl (gn rfl) rfl rfl (show svEval _ _ = .v (b8 99) from rfl) Tryd.sizeOf5 (by decide) (fun _ _ => rfl) | exact ev_sttr tT rfl (gn rfl) rfl rfl (show svEval _ _ = .v (b8 0) from rfl) Tryd.sizeOf5 (by decide) (fun _ _ => rfl)
        simp only [nm, seval]
        apply VE.cons
        · first | exact ev_nil rfl (gn rfl) rfl | exact ev_nilx rfl (gn rfl) rfl
        simp only [nm, seval]
        apply VE.cons
        · first | exact ev_field rfl (gn rfl) rfl Tryd.underlying88 rfl Tryd.sizeOf86 | exact ev_fieldx rfl (gn rfl) rfl Tryd.underlying88 rfl Tryd.sizeOf86
        simp only [nm, seval]
        apply VE.cons
        · exact ev_indexn (k := xq Q) (j := 256 + xq Q) rfl (gn rfl) rfl rfl Tryd.underlying86 Tryd.sizeOf5 (xq_lt hqn) rfl
        simp only [nm, seval]
        apply VE.cons
        · first | exact ev_sttr (up (tt k) P1 (xq Q)) rfl (gn rfl) rfl rfl rfl Tryd.sizeOf5 (by omega) (fun _ _ => rfl) | exact ev_sttr (up (up (tt k) P1 (xq Q)) (256 + xq Q) P1) rfl (gn rfl) rfl rfl rfl Tryd.sizeOf5 (by have := xq_lt hqn; omega) (fun _ _ => rfl) | exact ev_sttr (up (tt (254 + 1)) 0 99) rfl (gn rfl) rfl rfl (show svEval _ _ = .v (b8 99) from rfl) Tryd.sizeOf5 (by decide) (fun _ _ => rfl) | exact ev_sttr tT rfl (gn rfl) rfl rfl (show svEval _ _ = .v (b8 0) from rfl) Tryd.sizeOf5 (by decide) (fun _ _ => rfl)
        simp only [nm, seval]
        exact VE.nil _
      · kernel_rfl
      change VOk _ _ _ _ _
      refine vseq ?_
      apply vrp
      · apply VE.cons
        · exact ev_move rfl (gn rfl)
        simp only [nm, seval]
        apply VE.cons
        · exact ev_bin (c := .bool q3) rfl (gn rfl) rfl rfl (fun w => by have := eql8 (b := P1) (c := 1) (.tmp 64) (.const (.int .u8 1)) w; rw [hq3] at this; exact this)
        simp only [nm, seval]
        exact VE.nil _
      · kernel_rfl
      change VOk _ _ _ _ _
      cases q3
      · refine vcond_f rfl ?_
        refine vskip ?_
        have hk2 : k + 1 < 255 := by have h1 := of_decide_eq_false hq3; have : k ≠ 254 := fun e4 => h1 (by rw [← hP1]; exact (pw_one hk).2 e4); omega
        rw [← hts, ← hP1, ← hQ]
        exact ⟨⟨k + 1, hk2⟩, by show 255 - (k + 1) < 255 - k; omega, weaker_forget (fun i => i == 0 || i == 2 || i == 3) []⟩
      · refine vcond_t rfl ?_
        have hk4 : k = 254 := (pw_one hk).1 (by rw [hP1]; exact of_decide_eq_true hq3)
        subst hk4
        rw [← hts]
        refine vexit ?_
        change VOk _ _ _ _ _
        apply vrd (by kernel_rfl)
        · apply VE.cons
          · exact ev_move rfl (gn rfl)
          simp only [nm, seval]
          apply VE.cons
          · exact ev_move rfl (gn rfl)
          simp only [nm, seval]
          apply VE.cons
          · first | exact ev_nil rfl (gn rfl) rfl | exact ev_nilx rfl (gn rfl) rfl
          simp only [nm, seval]
          apply VE.cons
          · first | exact ev_field rfl (gn rfl) rfl Tryd.underlying88 rfl Tryd.sizeOf86 | exact ev_fieldx rfl (gn rfl) rfl Tryd.underlying88 rfl Tryd.sizeOf86
          simp only [nm, seval]
          apply VE.cons
          · exact ev_indexn (k := 0) (j := 0) rfl (gn rfl) rfl rfl Tryd.underlying86 Tryd.sizeOf5 (by decide) rfl
          simp only [nm, seval]
          apply VE.cons
          · first | exact ev_sttr (up (tt k) P1 (xq Q)) rfl (gn rfl) rfl rfl rfl Tryd.sizeOf5 (by omega) (fun _ _ => rfl) | exact ev_sttr (up (up (tt k) P1 (xq Q)) (256 + xq Q) P1) rfl (gn rfl) rfl rfl rfl Tryd.sizeOf5 (by have := xq_lt hqn; omega) (fun _ _ => rfl) | exact ev_sttr (up (tt (254 + 1)) 0 99) rfl (gn rfl) rfl rfl (show svEval _ _ = .v (b8 99) from rfl) Tryd.sizeOf5 (by decide) (fun _ _ => rfl) | exact ev_sttr tT rfl (gn rfl) rfl rfl (show svEval _ _ = .v (b8 0) from rfl) Tryd.sizeOf5 (by decide) (fun _ _ => rfl)
          simp only [nm, seval]
          apply VE.cons
          · first | exact ev_nil rfl (gn rfl) rfl | exact ev_nilx rfl (gn rfl) rfl
          simp only [nm, seval]
          apply VE.cons
          · first | exact ev_field rfl (gn rfl) rfl Tryd.underlying88 rfl Tryd.sizeOf86 | exact ev_fieldx rfl (gn rfl) rfl Tryd.underlying88 rfl Tryd.sizeOf86
          simp only [nm, seval]
          apply VE.cons
          · exact ev_indexn (k := 99) (j := 355) rfl (gn rfl) rfl rfl Tryd.underlying86 Tryd.sizeOf5 (by decide) rfl
          simp only [nm, seval]
          apply VE.cons
          · first | exact ev_sttr (up (tt k) P1 (xq Q)) rfl (gn rfl) rfl rfl rfl Tryd.sizeOf5 (by omega) (fun _ _ => rfl) | exact ev_sttr (up (up (tt k) P1 (xq Q)) (256 + xq Q) P1) rfl (gn rfl) rfl rfl rfl Tryd.sizeOf5 (by have := xq_lt hqn; omega) (fun _ _ => rfl) | exact ev_sttr (up (tt (254 + 1)) 0 99) rfl (gn rfl) rfl rfl (show svEval _ _ = .v (b8 99) from rfl) Tryd.sizeOf5 (by decide) (fun _ _ => rfl) | exact ev_sttr tT rfl (gn rfl) rfl rfl (show svEval _ _ = .v (b8 0) from rfl) Tryd.sizeOf5 (by decide) (fun _ _ => rfl)
          simp only [nm, seval]
          exact VE.nil _
        · kernel_rfl
        refine post_end (res0 Tryd.results38 ) ?_
        intro ρ w' hr
        exact ⟨rfl, own1_end hr rfl rfl rfl rfl⟩
  · exact weaker_forget (fun i => i == 0 || i == 2 || i == 3) []
end Go.Proofs.YtiidceljhmpgcaaDoor
end
section
namespace Go.Proofs.YtiidceljhmpgcaaDoor
open Go.RowKit Go.Vx
open Go.Toll (Gw)
open TollSha
set_option maxHeartbeats 4000000
set_option maxRecDepth 100000
abbrev nilS : Value := .slice none 0 0
def xr (f : Nat → Nat) (c r : Nat) : Nat → Nat := fun j =>
  if r % 4 = 0 then (if j = 0 then tT (f (13 + 4 * r)) ^^^ c else if j = 1 then tT (f (14 + 4 * r)) else if j = 2 then tT (f (15 + 4 * r)) else tT (f (12 + 4 * r))) else f (12 + 4 * r + j)
def ks (kf : Nat → Nat) : Nat → (Nat → Nat) × Nat
  | 0 => (kf, 1)
  | r + 1 => (fun k => if k < 16 + 4 * r then (ks kf r).1 k else (ks kf r).1 (k - 16) ^^^ xr (ks kf r).1 (ks kf r).2 r (k - (16 + 4 * r)), if r % 4 = 0 then dbl (ks kf r).2 else (ks kf r).2)
def keyW (kf : Nat → Nat) : Nat → Nat := (ks kf 40).1
theorem xr_by {f : Nat → Nat} {c : Nat} (hf : By f) (hc : c < 256) (r : Nat) : By (xr f c r) := fun j => by
  unfold xr; split
  · split
    · exact xor_lt (tT_by _) hc
    · split
      · exact tT_by _
      · split
        · exact tT_by _
        · exact tT_by _
  · exact hf _
theorem ks_by {kf : Nat → Nat} (h : By kf) : ∀ r, By (ks kf r).1 ∧ (ks kf r).2 < 256
  | 0 => ⟨h, (by decide : 1 < 256)⟩
  | r + 1 => by
    obtain ⟨h1, h2⟩ := ks_by h r
    refine ⟨fun k => ?_, ?_⟩
    · unfold ks; simp only; split
      · exact h1 _
      · exact xor_lt (h1 _) (xr_by h1 h2 r _)
    · unfold ks; simp only; split
      · exact dbl_lt _
      · exact h2
theorem keyW_by {kf : Nat → Nat} (h : By kf) : By (keyW kf) := (ks_by h 40).1
theorem ks_old (kf : Nat → Nat) {r k : Nat} (h : k < 16 + 4 * r) : (ks kf (r + 1)).1 k = (ks kf r).1 k := by rw [ks]; exact if_pos h
theorem ks_new (kf : Nat → Nat) (r j : Nat) : (ks kf (r + 1)).1 (16 + 4 * r + j) = (ks kf r).1 (4 * r + j) ^^^ xr (ks kf r).1 (ks kf r).2 r j := by
  rw [ks]; simp only; rw [if_neg (by omega)]
  rw [show 16 + 4 * r + j - 16 = 4 * r + j by omega, show 16 + 4 * r + j - (16 + 4 * r) = j by omega]
theorem ks_c1 (kf : Nat → Nat) {r : Nat} (h : r % 4 = 0) : (ks kf (r + 1)).2 = dbl (ks kf r).2 := by rw [ks]; exact if_pos h
theorem ks_c0 (kf : Nat → Nat) {r : Nat} (h : ¬ r % 4 = 0) : (ks kf (r + 1)).2 = (ks kf r).2 := by rw [ks]; exact if_neg h
theorem tb_snoc (n : Nat) (f : Nat → Nat) : tb n f ++ [b8 (f n)] = tb (n + 1) f := by simp [tb, List.range_succ]
theorem tb_drop (n a : Nat) (f : Nat → Nat) (m : Nat) (h : n - a = m) : (tb n f).drop a = tb m (fun k => f (a + k)) := by
  subst h
  apply List.ext_getElem?
  intro j
  rw [List.getElem?_drop]
  by_cases hj : a + j < n
  · rw [tb_get hj, tb_get (by omega)]
  · rw [List.getElem?_eq_none (by rw [tb_len]; omega), List.getElem?_eq_none (by rw [tb_len]; omega)]
theorem tb_take (n a : Nat) (f : Nat → Nat) (h : a ≤ n) : (tb n f).take a = tb a f := by
  apply List.ext_getElem?
  intro j
  rw [List.getElem?_take]
  by_cases hj : j < a
  · rw [if_pos hj, tb_get (by omega), tb_get hj]
  · rw [if_neg hj, List.getElem?_eq_none (by rw [tb_len]; omega)]
theorem tb_app (n m : Nat) (f : Nat → Nat) : tb n f ++ tb m (fun k => f (n + k)) = tb (n + m) f := by
  rw [← List.take_append_drop n (tb (n + m) f), tb_take _ _ _ (by omega), tb_drop (n + m) n f m (by omega)]
theorem tb4 (f : Nat → Nat) : (tb 4 f).toArray = #[b8 (f 0), b8 (f 1), b8 (f 2), b8 (f 3)] := rfl
theorem built92 (a b c d : Nat) : Tryd.prog.built 92 [(0, b8 a), (1, b8 b), (2, b8 c), (3, b8 d)] = some #[b8 a, b8 b, b8 c, b8 d] := by kernel_rfl
theorem built91 : Tryd.prog.built 91 [] = some (tb 512 (fun _ => 0) ++ [nilS]).toArray := by kernel_rfl
abbrev TS (f : Nat → Nat) : List SV := (tb 512 f).map SV.v
theorem TS_len (f : Nat → Nat) : (TS f).length = 512 := by simp [TS, tb_len]
theorem TS_get {f : Nat → Nat} {x : SV} {i : Nat} (h : i < 512) : (TS f ++ [x])[i]? = some (SV.v (b8 (f i))) := by
  rw [List.getElem?_append_left (by rw [TS_len]; exact h), List.getElem?_map, tb_get h]; rfl
theorem TS_get2 {f : Nat → Nat} {x : SV} : (TS f ++ [x])[512]? = some x := by
  rw [List.getElem?_append_right (by rw [TS_len]; exact Nat.le_refl _), TS_len]; rfl
theorem TS_put {f : Nat → Nat} {x y : SV} : (TS f ++ [x]).take 512 ++ [y] ++ (TS f ++ [x]).drop (512 + 1) = TS f ++ [y] := by
  rw [List.take_append_of_le_length (by rw [TS_len]; exact Nat.le_refl _), List.take_of_length_le (by rw [TS_len]; exact Nat.le_refl _), List.drop_of_length_le (by rw [List.length_append, TS_len]; exact Nat.le_refl _), List.append_nil]
theorem cs_vs (ρ : Nat → Nm) (l : List Value) : SV.cs ρ (l.map SV.v) = l := by rw [cs_map, List.map_map]; simp [Function.comp_def, SV.c]
theorem el67 : ElInfo Tryd.prog 67 16 16 := by unfold ElInfo; kernel_rfl
theorem hasL_vs (id : Nat) (l : List Value) : SV.hasL id (l.map SV.v) = false := by
  rw [hasL_any, List.any_map]
  exact List.any_eq_false.2 fun x _ => by simp [SV.has]
theorem unV_vs : ∀ l : List Value, unV (l.map SV.v) = some l
  | [] => rfl
  | x :: l => by simp [unV, unV_vs l]
theorem unV_tb (f : Nat → Nat) (_h : True) : unV ((((tb 16 f).map SV.v).drop 0).take (1 * 16)) = some (tb 16 f) := by
  rw [List.drop_zero, List.take_of_length_le (by simp [tb_len]), unV_vs]
section
variable {P : Program} {w0 : World} {ops : Array Oper} {o : Oper} {s : VS}
theorem ev_boxk {ty : TypeId} {x : Operand} {f : Nat → Nat} {z : Value} {id : Nat} (_hd : o.dst = some id) (ho : o.op = .box ty x) (hgd : Want ops o s) (hx : svEval s x = .v (.agg (tb 512 f ++ [z]).toArray)) :
    Ev P ops w0 o s ⟨.p id 0, [(id, .cells (TS f ++ [.v z]) ty)], [], [id], []⟩ := by
  have := ev_box (P := P) (w0 := w0) _hd ho hgd hx
  have e : (Value.agg (tb 512 f ++ [z]).toArray).cells.toList.map SV.v = TS f ++ [.v z] := by simp [Value.cells, TS]
  rw [e] at this
  exact this
theorem ev_turnc {f : FuncId} {xs : Array Operand} {ats : Array TypeId} {vs : List SV} {id : Nat} {L L' : List SV} {ty : TypeId} {v : Value} (rd : List Nat) (ho : o.op = .call { callee := .value (.func f), args := xs, argTypes := ats }) (hgd : Want ops o s)
    (hx : xs.toList.map (svEval s) = vs) (hm : s.mem id = some (.cells L ty)) (hrd : rd.contains id = true) (he : ∀ args w, (callFunc f args).run P w = .ok (.enter f args) w)
    (hc : ∀ ρ S w, Bw w0 w → RelOn w0.heap.size ρ S w (restr rd s.mem) → w.heap[(ρ id).g]? = some (cellsObj ρ L ty) → Calls P f (SV.cs ρ vs).toArray w fun e w' => e = .returned v ∧ Turn1 w w' (ρ id).g (SV.cs ρ L') ty) : Ev P ops w0 o s ⟨.v v, [(id, .cells L' ty)], [id], [], rd⟩ := by
  have hid : id ∈ rd := by simpa using hrd
  refine ⟨by simp [Eff.ok, hid], .inr ⟨hgd, fun ρ S w hb hR => .inr (.inr ⟨f, (SV.cs ρ vs).toArray, ?_, (hc ρ S w hb hR (relon_get hR hm hid).2).mono fun e w' ⟨h1, h2, h3, h4, h5⟩ => ⟨_, h1, ρ, fun _ _ => False, ?_⟩⟩)⟩⟩
  · obtain ⟨dst, op, type, pos, after, guard⟩ := o
    simp only at ho
    subst ho
    rw [execOp_call_go, args_p, hx, ← cs_map]
    simpa using he (SV.cs ρ vs).toArray w
  · have g1 := relon_get hR hm hid
    have cs : ∀ i b, memOf [(id, Blk.cells L' ty)] i = some b → i = id ∧ b = .cells L' ty := by
      intro i b h
      simp only [memOf] at h
      split at h
      · injection h with h; exact ⟨by assumption, h.symm⟩
      · cases h
    refine ⟨by simp [SV.c], fun _ _ => rfl, h2.os, h2.tape, h2.output, h5, fun k hk hup => h4 k hk fun e => hup id (by simp) _ hm True.intro e.symm, ?_, fun _ _ _ h => h.elim, ?_, ?_⟩
    · intro i b h
      obtain ⟨rfl, rfl⟩ := cs i b h
      exact ⟨g1.1, h3⟩
    · intro i b h _
      obtain ⟨rfl, rfl⟩ := cs i b h
      exact .inl ⟨i, by simp, _, hm, True.intro, rfl⟩
    · intro i b j c hi _ hj _ _
      obtain ⟨rfl, rfl⟩ := cs i b hi
      obtain ⟨rfl, rfl⟩ := cs j c hj
      rfl
theorem cs_TSx (ρ : Nat → Nm) (f : Nat → Nat) (x : SV) : SV.cs ρ (TS f ++ [x]) = tb 512 f ++ [x.c ρ] := by
  rw [cs_map, List.map_append, ← cs_map, cs_vs]; rfl
theorem cs_TS (ρ : Nat → Nm) (f : Nat → Nat) (z : Value) : SV.cs ρ (TS f ++ [.v z]) = tb 512 f ++ [z] := by
  rw [cs_map, List.map_append, ← cs_map, cs_vs]; rfl
end
end Go.Proofs.YtiidceljhmpgcaaDoor
end
