import Derived.Test.YtafbhakmkbehiaaGreatDoorZ30
open Go.Proofs.Tryz
set_option maxHeartbeats 4000000
set_option maxRecDepth 100000
namespace Go.Proofs.YtafbhakmkbehiaaGreatDoor
open Go.RowKit Go.Vx
variable(w:World){fr now pa se to us use x1 x2:Int}{is su:List Nat}{cv kv rv:Value}
open TollMont
open Go.Toll (Gw)
open TollEc (F pp cb Jp Pt Au add base nn neg)
open TollSha (sha CH)
theorem Mm(hx1: ∀(p q:Operand) (w:World),(do eqGuard .and 3 p q (.int .i64 us) (.int .i64 1);binOp .and 3 (.int .i64 us) (.int .i64 1):Sem Value).run prog w= .ok (.int .i64 x1) w)(hx2: ∀(p q:Operand) (w:World),(do eqGuard .and 3 p q (.int .i64 us) (.int .i64 use);binOp .and 3 (.int .i64 us) (.int .i64 use):Sem Value).run prog w= .ok (.int .i64 x2) w)(hn1:decide (x1≠0)=true)(hn2:decide (x2≠0)=true)(ht1:decide (now<fr)=false)(ht2:decide (now>to)=false):Calls prog 74 #[CHV cv rv now use,.int .i64 0,.agg #[.int .i64 se,.string (AB is),.string (AB su),.int .i64 fr,.int .i64 to,kv,.bool false,.int .i64 pa,.int .i64 us]] w fun e w'=>e= .returned (.nilIface)∧Bw w w':=by
 go_enter func74,ntmps74
 refine Cg ?_;apply vrp
 ·apply VE.cons
  ·exact G3 rfl rfl gg rfl
  simp only[nmx,seval];apply VE.cons
  ·exact G3 rfl rfl gg rfl
  simp only[nmx,seval];apply VE.cons
  ·exact CJ rfl gg
  simp only[nmx,seval];exact VE.nil _
 ·kernel_rfl
 refine AU ?_;apply vrp
 ·apply VE.cons
  ·first|exact BG rfl gg rfl underlying34 rfl sizeOf4|exact BF rfl gg rfl underlying34 rfl sizeOf4
  simp only[nmx,seval];apply VE.cons
  ·first|exact BK rfl gg rfl rfl underlying4 rfl rfl|exact BR rfl gg rfl underlying4 rfl (by assumption)
  simp only[nmx,seval];apply VE.cons
  ·exact Ap rfl gg
  simp only[nmx,seval];apply VE.cons
  ·first|exact Ev.skip (fun _=>rfl)|exact BG rfl (fun _=>rfl) rfl underlying34 rfl sizeOf3|exact BF rfl (fun _=>rfl) rfl underlying34 rfl sizeOf3
  simp only[nmx,seval];apply VE.cons
  ·first|exact Ev.skip (fun _=>rfl)|exact BK rfl (fun _=>rfl) rfl rfl underlying3 rfl rfl|exact BR rfl (fun _=>rfl) rfl underlying3 rfl (by assumption)
  simp only[nmx,seval];apply VE.cons
  ·first|exact Ev.skip (fun _=>rfl)|exact Ap rfl (fun _=>rfl)
  simp only[nmx,seval];apply VE.cons
  ·first|exact Ev.skip (fun _=>rfl)|exact Bu (c:= -1) rfl (fun _=>rfl) rfl rfl (by decide)
  simp only[nmx,seval];apply VE.cons
  ·first|exact Ev.skip (fun _=>rfl)|exact B4 (p:=decide (pa≥ -1)) rfl (fun _=>rfl) rfl rfl rfl
  simp only[nmx,seval];apply VE.cons
  ·first|exact CY rfl gg rfl rfl|exact Ca rfl gg rfl rfl
  simp only[nmx,seval];apply VE.cons
  ·exact CJ rfl gg
  simp only[nmx,seval];exact VE.nil _
 ·kernel_rfl
 refine BP ?_;apply vrp
 ·apply VE.cons
  ·exact Ap rfl gg
  simp only[nmx,seval];apply VE.cons
  ·exact Ag (p:=true) rfl gg rfl rfl (by decide)
  simp only[nmx,seval];exact VE.nil _
 ·kernel_rfl
 refine EO ?_;apply vrp
 ·apply VE.cons
  ·first|exact BG rfl gg rfl underlying34 rfl sizeOf3|exact BF rfl gg rfl underlying34 rfl sizeOf3
  simp only[nmx,seval];apply VE.cons
  ·first|exact BK rfl gg rfl rfl underlying3 rfl rfl|exact BR rfl gg rfl underlying3 rfl (by assumption)
  simp only[nmx,seval];apply VE.cons
  ·exact AK (c:= .int .i64 x1) rfl gg rfl rfl (fun w=>hx1 _ _ w)
  simp only[nmx,seval];apply VE.cons
  ·exact BB (p:=true) rfl gg rfl rfl hn1
  simp only[nmx,seval];apply VE.cons
  ·exact Ap rfl gg
  simp only[nmx,seval];apply VE.cons
  ·first|exact Ev.skip (fun _=>rfl)|exact BG rfl (fun _=>rfl) rfl underlying34 rfl sizeOf3|exact BF rfl (fun _=>rfl) rfl underlying34 rfl sizeOf3
  simp only[nmx,seval];apply VE.cons
  ·first|exact Ev.skip (fun _=>rfl)|exact BK rfl (fun _=>rfl) rfl rfl underlying3 rfl rfl|exact BR rfl (fun _=>rfl) rfl underlying3 rfl (by assumption)
  simp only[nmx,seval];apply VE.cons
  ·first|exact Ev.skip (fun _=>rfl)|exact BG rfl (fun _=>rfl) rfl underlying95 rfl sizeOf3|exact BF rfl (fun _=>rfl) rfl underlying95 rfl sizeOf3
  simp only[nmx,seval];apply VE.cons
  ·first|exact Ev.skip (fun _=>rfl)|exact BK rfl (fun _=>rfl) rfl rfl underlying3 rfl rfl|exact BR rfl (fun _=>rfl) rfl underlying3 rfl (by assumption)
  simp only[nmx,seval];apply VE.cons
  ·first|exact Ev.skip (fun _=>rfl)|exact AK (c:= .int .i64 x2) rfl (fun _=>rfl) rfl rfl (fun w=>hx2 _ _ w)
  simp only[nmx,seval];apply VE.cons
  ·first|exact Ev.skip (fun _=>rfl)|exact BB (p:=true) rfl (fun _=>rfl) rfl rfl hn2
  simp only[nmx,seval];apply VE.cons
  ·first|exact CY rfl gg rfl rfl|exact Ca rfl gg rfl rfl
  simp only[nmx,seval];apply VE.cons
  ·exact CJ rfl gg
  simp only[nmx,seval];exact VE.nil _
 ·kernel_rfl
 refine AU ?_;refine mX ?_;apply vrp
 ·apply VE.cons
  ·first|exact BG rfl gg rfl underlying95 rfl sizeOf3|exact BF rfl gg rfl underlying95 rfl sizeOf3
  simp only[nmx,seval];apply VE.cons
  ·first|exact BK rfl gg rfl rfl underlying3 rfl rfl|exact BR rfl gg rfl underlying3 rfl (by assumption)
  simp only[nmx,seval];apply VE.cons
  ·first|exact BG rfl gg rfl underlying34 rfl sizeOf3|exact BF rfl gg rfl underlying34 rfl sizeOf3
  simp only[nmx,seval];apply VE.cons
  ·first|exact BK rfl gg rfl rfl underlying3 rfl rfl|exact BR rfl gg rfl underlying3 rfl (by assumption)
  simp only[nmx,seval];apply VE.cons
  ·exact BM (p:=false) rfl gg rfl rfl ht1
  simp only[nmx,seval];apply VE.cons
  ·exact Ap rfl gg
  simp only[nmx,seval];apply VE.cons
  ·first|exact Ev.skip (fun _=>rfl)|exact BG rfl (fun _=>rfl) rfl underlying95 rfl sizeOf3|exact BF rfl (fun _=>rfl) rfl underlying95 rfl sizeOf3
  simp only[nmx,seval];apply VE.cons
  ·first|exact Ev.skip (fun _=>rfl)|exact BK rfl (fun _=>rfl) rfl rfl underlying3 rfl rfl|exact BR rfl (fun _=>rfl) rfl underlying3 rfl (by assumption)
  simp only[nmx,seval];apply VE.cons
  ·first|exact Ev.skip (fun _=>rfl)|exact BG rfl (fun _=>rfl) rfl underlying34 rfl sizeOf3|exact BF rfl (fun _=>rfl) rfl underlying34 rfl sizeOf3
  simp only[nmx,seval];apply VE.cons
  ·first|exact Ev.skip (fun _=>rfl)|exact BK rfl (fun _=>rfl) rfl rfl underlying3 rfl rfl|exact BR rfl (fun _=>rfl) rfl underlying3 rfl (by assumption)
  simp only[nmx,seval];apply VE.cons
  ·first|exact Ev.skip (fun _=>rfl)|exact BV (p:=false) rfl (fun _=>rfl) rfl rfl ht2
  simp only[nmx,seval];apply VE.cons
  ·first|exact CY rfl gg rfl rfl|exact Ca rfl gg rfl rfl
  simp only[nmx,seval];apply VE.cons
  ·exact CJ rfl gg
  simp only[nmx,seval];exact VE.nil _
 ·kernel_rfl
 refine Fp ?_;refine Fl ?_;apply vrp
 ·apply VE.cons
  ·exact Ap rfl gg
  simp only[nmx,seval];apply VE.cons
  ·exact D7 rfl gg rfl
  simp only[nmx,seval];apply VE.cons
  ·exact CJ rfl gg
  simp only[nmx,seval];exact VE.nil _
 ·kernel_rfl
 refine Cx ?_;apply vrp
 ·apply VE.cons
  ·exact CJ rfl gg
  simp only[nmx,seval];exact VE.nil _
 ·kernel_rfl
 change VOk _ _ _ _ _;exact AG (AD (AH results74 (AF rfl)) fun _ _ hr=>⟨rfl,hr.1⟩)
theorem UM(hx1: ∀(p q:Operand) (w:World),(do eqGuard .and 3 p q (.int .i64 us) (.int .i64 1);binOp .and 3 (.int .i64 us) (.int .i64 1):Sem Value).run prog w= .ok (.int .i64 x1) w)(hx2: ∀(p q:Operand) (w:World),(do eqGuard .and 3 p q (.int .i64 us) (.int .i64 use);binOp .and 3 (.int .i64 us) (.int .i64 use):Sem Value).run prog w= .ok (.int .i64 x2) w)(hn1:decide (x1≠0)=true)(hn2:decide (x2≠0)=true)(ht1:decide (now<fr)=false)(ht2:decide (now>to)=true):Calls prog 74 #[CHV cv rv now use,.int .i64 0,.agg #[.int .i64 se,.string (AB is),.string (AB su),.int .i64 fr,.int .i64 to,kv,.bool false,.int .i64 pa,.int .i64 us]] w fun e w'=> ∃v,e= .returned v∧Ae w w' v (Cp 0 7)∧Bw w w':=by
 go_enter func74,ntmps74
 refine Cg ?_;apply vrp
 ·apply VE.cons
  ·exact G3 rfl rfl gg rfl
  simp only[nmx,seval];apply VE.cons
  ·exact G3 rfl rfl gg rfl
  simp only[nmx,seval];apply VE.cons
  ·exact CJ rfl gg
  simp only[nmx,seval];exact VE.nil _
 ·kernel_rfl
 refine AU ?_;apply vrp
 ·apply VE.cons
  ·first|exact BG rfl gg rfl underlying34 rfl sizeOf4|exact BF rfl gg rfl underlying34 rfl sizeOf4
  simp only[nmx,seval];apply VE.cons
  ·first|exact BK rfl gg rfl rfl underlying4 rfl rfl|exact BR rfl gg rfl underlying4 rfl (by assumption)
  simp only[nmx,seval];apply VE.cons
  ·exact Ap rfl gg
  simp only[nmx,seval];apply VE.cons
  ·first|exact Ev.skip (fun _=>rfl)|exact BG rfl (fun _=>rfl) rfl underlying34 rfl sizeOf3|exact BF rfl (fun _=>rfl) rfl underlying34 rfl sizeOf3
  simp only[nmx,seval];apply VE.cons
  ·first|exact Ev.skip (fun _=>rfl)|exact BK rfl (fun _=>rfl) rfl rfl underlying3 rfl rfl|exact BR rfl (fun _=>rfl) rfl underlying3 rfl (by assumption)
  simp only[nmx,seval];apply VE.cons
  ·first|exact Ev.skip (fun _=>rfl)|exact Ap rfl (fun _=>rfl)
  simp only[nmx,seval];apply VE.cons
  ·first|exact Ev.skip (fun _=>rfl)|exact Bu (c:= -1) rfl (fun _=>rfl) rfl rfl (by decide)
  simp only[nmx,seval];apply VE.cons
  ·first|exact Ev.skip (fun _=>rfl)|exact B4 (p:=decide (pa≥ -1)) rfl (fun _=>rfl) rfl rfl rfl
  simp only[nmx,seval];apply VE.cons
  ·first|exact CY rfl gg rfl rfl|exact Ca rfl gg rfl rfl
  simp only[nmx,seval];apply VE.cons
  ·exact CJ rfl gg
  simp only[nmx,seval];exact VE.nil _
 ·kernel_rfl
 refine BP ?_;apply vrp
 ·apply VE.cons
  ·exact Ap rfl gg
  simp only[nmx,seval];apply VE.cons
  ·exact Ag (p:=true) rfl gg rfl rfl (by decide)
  simp only[nmx,seval];exact VE.nil _
 ·kernel_rfl
 refine EO ?_;apply vrp
 ·apply VE.cons
  ·first|exact BG rfl gg rfl underlying34 rfl sizeOf3|exact BF rfl gg rfl underlying34 rfl sizeOf3
  simp only[nmx,seval];apply VE.cons
  ·first|exact BK rfl gg rfl rfl underlying3 rfl rfl|exact BR rfl gg rfl underlying3 rfl (by assumption)
  simp only[nmx,seval];apply VE.cons
  ·exact AK (c:= .int .i64 x1) rfl gg rfl rfl (fun w=>hx1 _ _ w)
  simp only[nmx,seval];apply VE.cons
  ·exact BB (p:=true) rfl gg rfl rfl hn1
  simp only[nmx,seval];apply VE.cons
  ·exact Ap rfl gg
  simp only[nmx,seval];apply VE.cons
  ·first|exact Ev.skip (fun _=>rfl)|exact BG rfl (fun _=>rfl) rfl underlying34 rfl sizeOf3|exact BF rfl (fun _=>rfl) rfl underlying34 rfl sizeOf3
  simp only[nmx,seval];apply VE.cons
  ·first|exact Ev.skip (fun _=>rfl)|exact BK rfl (fun _=>rfl) rfl rfl underlying3 rfl rfl|exact BR rfl (fun _=>rfl) rfl underlying3 rfl (by assumption)
  simp only[nmx,seval];apply VE.cons
  ·first|exact Ev.skip (fun _=>rfl)|exact BG rfl (fun _=>rfl) rfl underlying95 rfl sizeOf3|exact BF rfl (fun _=>rfl) rfl underlying95 rfl sizeOf3
  simp only[nmx,seval];apply VE.cons
  ·first|exact Ev.skip (fun _=>rfl)|exact BK rfl (fun _=>rfl) rfl rfl underlying3 rfl rfl|exact BR rfl (fun _=>rfl) rfl underlying3 rfl (by assumption)
  simp only[nmx,seval];apply VE.cons
  ·first|exact Ev.skip (fun _=>rfl)|exact AK (c:= .int .i64 x2) rfl (fun _=>rfl) rfl rfl (fun w=>hx2 _ _ w)
  simp only[nmx,seval];apply VE.cons
  ·first|exact Ev.skip (fun _=>rfl)|exact BB (p:=true) rfl (fun _=>rfl) rfl rfl hn2
  simp only[nmx,seval];apply VE.cons
  ·first|exact CY rfl gg rfl rfl|exact Ca rfl gg rfl rfl
  simp only[nmx,seval];apply VE.cons
  ·exact CJ rfl gg
  simp only[nmx,seval];exact VE.nil _
 ·kernel_rfl
 refine AU ?_;refine mX ?_;apply vrp
 ·apply VE.cons
  ·first|exact BG rfl gg rfl underlying95 rfl sizeOf3|exact BF rfl gg rfl underlying95 rfl sizeOf3
  simp only[nmx,seval];apply VE.cons
  ·first|exact BK rfl gg rfl rfl underlying3 rfl rfl|exact BR rfl gg rfl underlying3 rfl (by assumption)
  simp only[nmx,seval];apply VE.cons
  ·first|exact BG rfl gg rfl underlying34 rfl sizeOf3|exact BF rfl gg rfl underlying34 rfl sizeOf3
  simp only[nmx,seval];apply VE.cons
  ·first|exact BK rfl gg rfl rfl underlying3 rfl rfl|exact BR rfl gg rfl underlying3 rfl (by assumption)
  simp only[nmx,seval];apply VE.cons
  ·exact BM (p:=false) rfl gg rfl rfl ht1
  simp only[nmx,seval];apply VE.cons
  ·exact Ap rfl gg
  simp only[nmx,seval];apply VE.cons
  ·first|exact Ev.skip (fun _=>rfl)|exact BG rfl (fun _=>rfl) rfl underlying95 rfl sizeOf3|exact BF rfl (fun _=>rfl) rfl underlying95 rfl sizeOf3
  simp only[nmx,seval];apply VE.cons
  ·first|exact Ev.skip (fun _=>rfl)|exact BK rfl (fun _=>rfl) rfl rfl underlying3 rfl rfl|exact BR rfl (fun _=>rfl) rfl underlying3 rfl (by assumption)
  simp only[nmx,seval];apply VE.cons
  ·first|exact Ev.skip (fun _=>rfl)|exact BG rfl (fun _=>rfl) rfl underlying34 rfl sizeOf3|exact BF rfl (fun _=>rfl) rfl underlying34 rfl sizeOf3
  simp only[nmx,seval];apply VE.cons
  ·first|exact Ev.skip (fun _=>rfl)|exact BK rfl (fun _=>rfl) rfl rfl underlying3 rfl rfl|exact BR rfl (fun _=>rfl) rfl underlying3 rfl (by assumption)
  simp only[nmx,seval];apply VE.cons
  ·first|exact Ev.skip (fun _=>rfl)|exact BV (p:=true) rfl (fun _=>rfl) rfl rfl ht2
  simp only[nmx,seval];apply VE.cons
  ·first|exact CY rfl gg rfl rfl|exact Ca rfl gg rfl rfl
  simp only[nmx,seval];apply VE.cons
  ·exact CJ rfl gg
  simp only[nmx,seval];exact VE.nil _
 ·kernel_rfl
 refine E7 ?_;apply vrp
 ·apply VE.cons
  ·exact Ap rfl gg
  simp only[nmx,seval];apply VE.cons
  ·exact Al (D:=Cp 0 7) [] rfl rfl gg rfl (eo func116) (fun ρ S w' hb hR=>IW _ _ w')
  simp only[nmx,seval];apply VE.cons
  ·exact CJ rfl gg
  simp only[nmx,seval];exact VE.nil _
 ·kernel_rfl
 refine Ci ?_;refine AD (AH results74 (AF rfl)) ?_;intro ρ w' hr;exact⟨_,rfl,FF 45 hr rfl,hr.1⟩
theorem Ml(hx1: ∀(p q:Operand) (w:World),(do eqGuard .and 3 p q (.int .i64 us) (.int .i64 1);binOp .and 3 (.int .i64 us) (.int .i64 1):Sem Value).run prog w= .ok (.int .i64 x1) w)(hx2: ∀(p q:Operand) (w:World),(do eqGuard .and 3 p q (.int .i64 us) (.int .i64 use);binOp .and 3 (.int .i64 us) (.int .i64 use):Sem Value).run prog w= .ok (.int .i64 x2) w)(hn1:decide (x1≠0)=true)(hn2:decide (x2≠0)=true)(ht1:decide (now<fr)=false)(ht2:decide (now>to)=false):Calls prog 74 #[CHV cv rv now use,.int .i64 0,.agg #[.int .i64 se,.string (AB is),.string (AB su),.int .i64 fr,.int .i64 to,kv,.bool true,.int .i64 pa,.int .i64 us]] w fun e w'=>e= .returned (.nilIface)∧Bw w w':=by
 go_enter func74,ntmps74
 refine Cg ?_;apply vrp
 ·apply VE.cons
  ·exact G3 rfl rfl gg rfl
  simp only[nmx,seval];apply VE.cons
  ·exact G3 rfl rfl gg rfl
  simp only[nmx,seval];apply VE.cons
  ·exact CJ rfl gg
  simp only[nmx,seval];exact VE.nil _
 ·kernel_rfl
 refine AU ?_;apply vrp
 ·apply VE.cons
  ·first|exact BG rfl gg rfl underlying34 rfl sizeOf4|exact BF rfl gg rfl underlying34 rfl sizeOf4
  simp only[nmx,seval];apply VE.cons
  ·first|exact BK rfl gg rfl rfl underlying4 rfl rfl|exact BR rfl gg rfl underlying4 rfl (by assumption)
  simp only[nmx,seval];apply VE.cons
  ·exact Ap rfl gg
  simp only[nmx,seval];apply VE.cons
  ·first|exact Ev.skip (fun _=>rfl)|exact BG rfl (fun _=>rfl) rfl underlying34 rfl sizeOf3|exact BF rfl (fun _=>rfl) rfl underlying34 rfl sizeOf3
  simp only[nmx,seval];apply VE.cons
  ·first|exact Ev.skip (fun _=>rfl)|exact BK rfl (fun _=>rfl) rfl rfl underlying3 rfl rfl|exact BR rfl (fun _=>rfl) rfl underlying3 rfl (by assumption)
  simp only[nmx,seval];apply VE.cons
  ·first|exact Ev.skip (fun _=>rfl)|exact Ap rfl (fun _=>rfl)
  simp only[nmx,seval];apply VE.cons
  ·first|exact Ev.skip (fun _=>rfl)|exact Bu (c:= -1) rfl (fun _=>rfl) rfl rfl (by decide)
  simp only[nmx,seval];apply VE.cons
  ·first|exact Ev.skip (fun _=>rfl)|exact B4 (p:=decide (pa≥ -1)) rfl (fun _=>rfl) rfl rfl rfl
  simp only[nmx,seval];apply VE.cons
  ·first|exact CY rfl gg rfl rfl|exact Ca rfl gg rfl rfl
  simp only[nmx,seval];apply VE.cons
  ·exact CJ rfl gg
  simp only[nmx,seval];exact VE.nil _
 ·kernel_rfl
 refine BP ?_;apply vrp
 ·apply VE.cons
  ·exact Ap rfl gg
  simp only[nmx,seval];apply VE.cons
  ·exact Ag (p:=true) rfl gg rfl rfl (by decide)
  simp only[nmx,seval];exact VE.nil _
 ·kernel_rfl
 refine EO ?_;apply vrp
 ·apply VE.cons
  ·first|exact BG rfl gg rfl underlying34 rfl sizeOf3|exact BF rfl gg rfl underlying34 rfl sizeOf3
  simp only[nmx,seval];apply VE.cons
  ·first|exact BK rfl gg rfl rfl underlying3 rfl rfl|exact BR rfl gg rfl underlying3 rfl (by assumption)
  simp only[nmx,seval];apply VE.cons
  ·exact AK (c:= .int .i64 x1) rfl gg rfl rfl (fun w=>hx1 _ _ w)
  simp only[nmx,seval];apply VE.cons
  ·exact BB (p:=true) rfl gg rfl rfl hn1
  simp only[nmx,seval];apply VE.cons
  ·exact Ap rfl gg
  simp only[nmx,seval];apply VE.cons
  ·first|exact Ev.skip (fun _=>rfl)|exact BG rfl (fun _=>rfl) rfl underlying34 rfl sizeOf3|exact BF rfl (fun _=>rfl) rfl underlying34 rfl sizeOf3
  simp only[nmx,seval];apply VE.cons
  ·first|exact Ev.skip (fun _=>rfl)|exact BK rfl (fun _=>rfl) rfl rfl underlying3 rfl rfl|exact BR rfl (fun _=>rfl) rfl underlying3 rfl (by assumption)
  simp only[nmx,seval];apply VE.cons
  ·first|exact Ev.skip (fun _=>rfl)|exact BG rfl (fun _=>rfl) rfl underlying95 rfl sizeOf3|exact BF rfl (fun _=>rfl) rfl underlying95 rfl sizeOf3
  simp only[nmx,seval];apply VE.cons
  ·first|exact Ev.skip (fun _=>rfl)|exact BK rfl (fun _=>rfl) rfl rfl underlying3 rfl rfl|exact BR rfl (fun _=>rfl) rfl underlying3 rfl (by assumption)
  simp only[nmx,seval];apply VE.cons
  ·first|exact Ev.skip (fun _=>rfl)|exact AK (c:= .int .i64 x2) rfl (fun _=>rfl) rfl rfl (fun w=>hx2 _ _ w)
  simp only[nmx,seval];apply VE.cons
  ·first|exact Ev.skip (fun _=>rfl)|exact BB (p:=true) rfl (fun _=>rfl) rfl rfl hn2
  simp only[nmx,seval];apply VE.cons
  ·first|exact CY rfl gg rfl rfl|exact Ca rfl gg rfl rfl
  simp only[nmx,seval];apply VE.cons
  ·exact CJ rfl gg
  simp only[nmx,seval];exact VE.nil _
 ·kernel_rfl
 refine AU ?_;refine mX ?_;apply vrp
 ·apply VE.cons
  ·first|exact BG rfl gg rfl underlying95 rfl sizeOf3|exact BF rfl gg rfl underlying95 rfl sizeOf3
  simp only[nmx,seval];apply VE.cons
  ·first|exact BK rfl gg rfl rfl underlying3 rfl rfl|exact BR rfl gg rfl underlying3 rfl (by assumption)
  simp only[nmx,seval];apply VE.cons
  ·first|exact BG rfl gg rfl underlying34 rfl sizeOf3|exact BF rfl gg rfl underlying34 rfl sizeOf3
  simp only[nmx,seval];apply VE.cons
  ·first|exact BK rfl gg rfl rfl underlying3 rfl rfl|exact BR rfl gg rfl underlying3 rfl (by assumption)
  simp only[nmx,seval];apply VE.cons
  ·exact BM (p:=false) rfl gg rfl rfl ht1
  simp only[nmx,seval];apply VE.cons
  ·exact Ap rfl gg
  simp only[nmx,seval];apply VE.cons
  ·first|exact Ev.skip (fun _=>rfl)|exact BG rfl (fun _=>rfl) rfl underlying95 rfl sizeOf3|exact BF rfl (fun _=>rfl) rfl underlying95 rfl sizeOf3
  simp only[nmx,seval];apply VE.cons
  ·first|exact Ev.skip (fun _=>rfl)|exact BK rfl (fun _=>rfl) rfl rfl underlying3 rfl rfl|exact BR rfl (fun _=>rfl) rfl underlying3 rfl (by assumption)
  simp only[nmx,seval];apply VE.cons
  ·first|exact Ev.skip (fun _=>rfl)|exact BG rfl (fun _=>rfl) rfl underlying34 rfl sizeOf3|exact BF rfl (fun _=>rfl) rfl underlying34 rfl sizeOf3
  simp only[nmx,seval];apply VE.cons
  ·first|exact Ev.skip (fun _=>rfl)|exact BK rfl (fun _=>rfl) rfl rfl underlying3 rfl rfl|exact BR rfl (fun _=>rfl) rfl underlying3 rfl (by assumption)
  simp only[nmx,seval];apply VE.cons
  ·first|exact Ev.skip (fun _=>rfl)|exact BV (p:=false) rfl (fun _=>rfl) rfl rfl ht2
  simp only[nmx,seval];apply VE.cons
  ·first|exact CY rfl gg rfl rfl|exact Ca rfl gg rfl rfl
  simp only[nmx,seval];apply VE.cons
  ·exact CJ rfl gg
  simp only[nmx,seval];exact VE.nil _
 ·kernel_rfl
 refine Fp ?_;refine Fl ?_;apply vrp
 ·apply VE.cons
  ·exact Ap rfl gg
  simp only[nmx,seval];apply VE.cons
  ·exact D7 rfl gg rfl
  simp only[nmx,seval];apply VE.cons
  ·exact CJ rfl gg
  simp only[nmx,seval];exact VE.nil _
 ·kernel_rfl
 refine Cx ?_;apply vrp
 ·apply VE.cons
  ·exact CJ rfl gg
  simp only[nmx,seval];exact VE.nil _
 ·kernel_rfl
 change VOk _ _ _ _ _;exact AG (AD (AH results74 (AF rfl)) fun _ _ hr=>⟨rfl,hr.1⟩)
theorem UL(hx1: ∀(p q:Operand) (w:World),(do eqGuard .and 3 p q (.int .i64 us) (.int .i64 1);binOp .and 3 (.int .i64 us) (.int .i64 1):Sem Value).run prog w= .ok (.int .i64 x1) w)(hx2: ∀(p q:Operand) (w:World),(do eqGuard .and 3 p q (.int .i64 us) (.int .i64 use);binOp .and 3 (.int .i64 us) (.int .i64 use):Sem Value).run prog w= .ok (.int .i64 x2) w)(hn1:decide (x1≠0)=true)(hn2:decide (x2≠0)=true)(ht1:decide (now<fr)=false)(ht2:decide (now>to)=true):Calls prog 74 #[CHV cv rv now use,.int .i64 0,.agg #[.int .i64 se,.string (AB is),.string (AB su),.int .i64 fr,.int .i64 to,kv,.bool true,.int .i64 pa,.int .i64 us]] w fun e w'=> ∃v,e= .returned v∧Ae w w' v (Cp 0 7)∧Bw w w':=by
 go_enter func74,ntmps74
 refine Cg ?_;apply vrp
 ·apply VE.cons
  ·exact G3 rfl rfl gg rfl
  simp only[nmx,seval];apply VE.cons
  ·exact G3 rfl rfl gg rfl
  simp only[nmx,seval];apply VE.cons
  ·exact CJ rfl gg
  simp only[nmx,seval];exact VE.nil _
 ·kernel_rfl
 refine AU ?_;apply vrp
 ·apply VE.cons
  ·first|exact BG rfl gg rfl underlying34 rfl sizeOf4|exact BF rfl gg rfl underlying34 rfl sizeOf4
  simp only[nmx,seval];apply VE.cons
  ·first|exact BK rfl gg rfl rfl underlying4 rfl rfl|exact BR rfl gg rfl underlying4 rfl (by assumption)
  simp only[nmx,seval];apply VE.cons
  ·exact Ap rfl gg
  simp only[nmx,seval];apply VE.cons
  ·first|exact Ev.skip (fun _=>rfl)|exact BG rfl (fun _=>rfl) rfl underlying34 rfl sizeOf3|exact BF rfl (fun _=>rfl) rfl underlying34 rfl sizeOf3
  simp only[nmx,seval];apply VE.cons
  ·first|exact Ev.skip (fun _=>rfl)|exact BK rfl (fun _=>rfl) rfl rfl underlying3 rfl rfl|exact BR rfl (fun _=>rfl) rfl underlying3 rfl (by assumption)
  simp only[nmx,seval];apply VE.cons
  ·first|exact Ev.skip (fun _=>rfl)|exact Ap rfl (fun _=>rfl)
  simp only[nmx,seval];apply VE.cons
  ·first|exact Ev.skip (fun _=>rfl)|exact Bu (c:= -1) rfl (fun _=>rfl) rfl rfl (by decide)
  simp only[nmx,seval];apply VE.cons
  ·first|exact Ev.skip (fun _=>rfl)|exact B4 (p:=decide (pa≥ -1)) rfl (fun _=>rfl) rfl rfl rfl
  simp only[nmx,seval];apply VE.cons
  ·first|exact CY rfl gg rfl rfl|exact Ca rfl gg rfl rfl
  simp only[nmx,seval];apply VE.cons
  ·exact CJ rfl gg
  simp only[nmx,seval];exact VE.nil _
 ·kernel_rfl
 refine BP ?_;apply vrp
 ·apply VE.cons
  ·exact Ap rfl gg
  simp only[nmx,seval];apply VE.cons
  ·exact Ag (p:=true) rfl gg rfl rfl (by decide)
  simp only[nmx,seval];exact VE.nil _
 ·kernel_rfl
 refine EO ?_;apply vrp
 ·apply VE.cons
  ·first|exact BG rfl gg rfl underlying34 rfl sizeOf3|exact BF rfl gg rfl underlying34 rfl sizeOf3
  simp only[nmx,seval];apply VE.cons
  ·first|exact BK rfl gg rfl rfl underlying3 rfl rfl|exact BR rfl gg rfl underlying3 rfl (by assumption)
  simp only[nmx,seval];apply VE.cons
  ·exact AK (c:= .int .i64 x1) rfl gg rfl rfl (fun w=>hx1 _ _ w)
  simp only[nmx,seval];apply VE.cons
  ·exact BB (p:=true) rfl gg rfl rfl hn1
  simp only[nmx,seval];apply VE.cons
  ·exact Ap rfl gg
  simp only[nmx,seval];apply VE.cons
  ·first|exact Ev.skip (fun _=>rfl)|exact BG rfl (fun _=>rfl) rfl underlying34 rfl sizeOf3|exact BF rfl (fun _=>rfl) rfl underlying34 rfl sizeOf3
  simp only[nmx,seval];apply VE.cons
  ·first|exact Ev.skip (fun _=>rfl)|exact BK rfl (fun _=>rfl) rfl rfl underlying3 rfl rfl|exact BR rfl (fun _=>rfl) rfl underlying3 rfl (by assumption)
  simp only[nmx,seval];apply VE.cons
  ·first|exact Ev.skip (fun _=>rfl)|exact BG rfl (fun _=>rfl) rfl underlying95 rfl sizeOf3|exact BF rfl (fun _=>rfl) rfl underlying95 rfl sizeOf3
  simp only[nmx,seval];apply VE.cons
  ·first|exact Ev.skip (fun _=>rfl)|exact BK rfl (fun _=>rfl) rfl rfl underlying3 rfl rfl|exact BR rfl (fun _=>rfl) rfl underlying3 rfl (by assumption)
  simp only[nmx,seval];apply VE.cons
  ·first|exact Ev.skip (fun _=>rfl)|exact AK (c:= .int .i64 x2) rfl (fun _=>rfl) rfl rfl (fun w=>hx2 _ _ w)
  simp only[nmx,seval];apply VE.cons
  ·first|exact Ev.skip (fun _=>rfl)|exact BB (p:=true) rfl (fun _=>rfl) rfl rfl hn2
  simp only[nmx,seval];apply VE.cons
  ·first|exact CY rfl gg rfl rfl|exact Ca rfl gg rfl rfl
  simp only[nmx,seval];apply VE.cons
  ·exact CJ rfl gg
  simp only[nmx,seval];exact VE.nil _
 ·kernel_rfl
 refine AU ?_;refine mX ?_;apply vrp
 ·apply VE.cons
  ·first|exact BG rfl gg rfl underlying95 rfl sizeOf3|exact BF rfl gg rfl underlying95 rfl sizeOf3
  simp only[nmx,seval];apply VE.cons
  ·first|exact BK rfl gg rfl rfl underlying3 rfl rfl|exact BR rfl gg rfl underlying3 rfl (by assumption)
  simp only[nmx,seval];apply VE.cons
  ·first|exact BG rfl gg rfl underlying34 rfl sizeOf3|exact BF rfl gg rfl underlying34 rfl sizeOf3
  simp only[nmx,seval];apply VE.cons
  ·first|exact BK rfl gg rfl rfl underlying3 rfl rfl|exact BR rfl gg rfl underlying3 rfl (by assumption)
  simp only[nmx,seval];apply VE.cons
  ·exact BM (p:=false) rfl gg rfl rfl ht1
  simp only[nmx,seval];apply VE.cons
  ·exact Ap rfl gg
  simp only[nmx,seval];apply VE.cons
  ·first|exact Ev.skip (fun _=>rfl)|exact BG rfl (fun _=>rfl) rfl underlying95 rfl sizeOf3|exact BF rfl (fun _=>rfl) rfl underlying95 rfl sizeOf3
  simp only[nmx,seval];apply VE.cons
  ·first|exact Ev.skip (fun _=>rfl)|exact BK rfl (fun _=>rfl) rfl rfl underlying3 rfl rfl|exact BR rfl (fun _=>rfl) rfl underlying3 rfl (by assumption)
  simp only[nmx,seval];apply VE.cons
  ·first|exact Ev.skip (fun _=>rfl)|exact BG rfl (fun _=>rfl) rfl underlying34 rfl sizeOf3|exact BF rfl (fun _=>rfl) rfl underlying34 rfl sizeOf3
  simp only[nmx,seval];apply VE.cons
  ·first|exact Ev.skip (fun _=>rfl)|exact BK rfl (fun _=>rfl) rfl rfl underlying3 rfl rfl|exact BR rfl (fun _=>rfl) rfl underlying3 rfl (by assumption)
  simp only[nmx,seval];apply VE.cons
  ·first|exact Ev.skip (fun _=>rfl)|exact BV (p:=true) rfl (fun _=>rfl) rfl rfl ht2
  simp only[nmx,seval];apply VE.cons
  ·first|exact CY rfl gg rfl rfl|exact Ca rfl gg rfl rfl
  simp only[nmx,seval];apply VE.cons
  ·exact CJ rfl gg
  simp only[nmx,seval];exact VE.nil _
 ·kernel_rfl
 refine E7 ?_;apply vrp
 ·apply VE.cons
  ·exact Ap rfl gg
  simp only[nmx,seval];apply VE.cons
  ·exact Al (D:=Cp 0 7) [] rfl rfl gg rfl (eo func116) (fun ρ S w' hb hR=>IW _ _ w')
  simp only[nmx,seval];apply VE.cons
  ·exact CJ rfl gg
  simp only[nmx,seval];exact VE.nil _
 ·kernel_rfl
 refine Ci ?_;refine AD (AH results74 (AF rfl)) ?_;intro ρ w' hr;exact⟨_,rfl,FF 45 hr rfl,hr.1⟩
end Go.Proofs.YtafbhakmkbehiaaGreatDoor
