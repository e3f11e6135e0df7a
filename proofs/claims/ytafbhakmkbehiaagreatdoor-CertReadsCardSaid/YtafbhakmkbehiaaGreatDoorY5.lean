import Derived.Test.YtafbhakmkbehiaaGreatDoorY2
open Go.Proofs.Tryz
set_option maxHeartbeats 4000000
set_option maxRecDepth 100000
namespace Go.Proofs.YtafbhakmkbehiaaGreatDoor
open Go.RowKit Go.Toll
theorem kF(f:Nat→Nat→Nat)(lt:Nat→Nat→Bool)(eq1:Nat→Bool)(a0 a1 a2 a3 b0 b1 b2 b3:Nat)(w:World)
 (hf: ∀(x y:Nat) (p q:Operand) (w:World),(do eqGuard .add 49 p q (.int .u64 (x:Nat)) (.int .u64 (y:Nat));binOp .add 49 (.int .u64 (x:Nat)) (.int .u64 (y:Nat)):Sem Value).run prog w= .ok (.int .u64 (f x y:Nat)) w)
 (_hf0: ∀(x:Nat) (p q:Operand) (w:World),(do eqGuard .add 49 p q (.int .u64 (x:Nat)) (.int .u64 0);binOp .add 49 (.int .u64 (x:Nat)) (.int .u64 0):Sem Value).run prog w= .ok (.int .u64 (f x 0:Nat)) w)
 (hlt: ∀(x y:Nat) (p q:Operand) (w:World),(do eqGuard .lss 49 p q (.int .u64 (x:Nat)) (.int .u64 (y:Nat));binOp .lss 49 (.int .u64 (x:Nat)) (.int .u64 (y:Nat)):Sem Value).run prog w= .ok (.bool (lt x y)) w)
 (_hlt0: ∀(x:Nat) (p q:Operand) (w:World),(do eqGuard .lss 49 p q (.int .u64 (x:Nat)) (.int .u64 0);binOp .lss 49 (.int .u64 (x:Nat)) (.int .u64 0):Sem Value).run prog w= .ok (.bool (lt x 0)) w)
 (he: ∀(x:Nat) (p q:Operand) (w:World),(do eqGuard .eql 49 p q (.int .u64 (x:Nat)) (.int .u64 1);binOp .eql 49 (.int .u64 (x:Nat)) (.int .u64 1):Sem Value).run prog w= .ok (.bool (eq1 x)) w):
 Calls prog 187 #[.agg #[.int .u64 (a0:Nat),.int .u64 (a1:Nat),.int .u64 (a2:Nat),.int .u64 (a3:Nat)],.agg #[.int .u64 (b0:Nat),.int .u64 (b1:Nat),.int .u64 (b2:Nat),.int .u64 (b3:Nat)]] w fun e w'=>e= .returned (.tuple #[.agg #[.int .u64 ((f (f a0 b0) 0):Nat),.int .u64 ((f (f a1 b1) (bn ((false||lt (f a0 b0) a0)||lt (f (f a0 b0) 0) (f a0 b0)))):Nat),.int .u64 ((f (f a2 b2) (bn ((false||lt (f a1 b1) a1)||lt (f (f a1 b1) (bn ((false||lt (f a0 b0) a0)||lt (f (f a0 b0) 0) (f a0 b0)))) (f a1 b1)))):Nat),.int .u64 ((f (f a3 b3) (bn ((false||lt (f a2 b2) a2)||lt (f (f a2 b2) (bn ((false||lt (f a1 b1) a1)||lt (f (f a1 b1) (bn ((false||lt (f a0 b0) a0)||lt (f (f a0 b0) 0) (f a0 b0)))) (f a1 b1)))) (f a2 b2)))):Nat)],.bool (eq1 (bn ((false||lt (f a3 b3) a3)||lt (f (f a3 b3) (bn ((false||lt (f a2 b2) a2)||lt (f (f a2 b2) (bn ((false||lt (f a1 b1) a1)||lt (f (f a1 b1) (bn ((false||lt (f a0 b0) a0)||lt (f (f a0 b0) 0) (f a0 b0)))) (f a1 b1)))) (f a2 b2)))) (f a3 b3))))])∧Gw w w':=by
 go_enter func187,ntmps187
 refine Fq ?_
 refine Fs ?_;iterate 4 refine t_k ?_
 refine Fs ?_;iterate 11 refine t_k ?_
 refine Br 5 ?_
 iterate 4
  refine C0 ?_
  refine E1 ?_
  refine DF ?_;refine t_4 ?_;refine t_k ?_;refine DF ?_;refine t_4 ?_;refine t_s (by exact AK rfl gg rfl rfl (fun w=>hf _ _ _ _ w)) ?_;iterate 11 refine t_k ?_
  refine DF ?_;refine t_4 ?_;refine t_s (by exact AK rfl gg rfl rfl (fun w=>hlt _ _ _ _ w)) ?_;refine t_k ?_;refine Ld (b0:=false) (d:=10) rfl rfl (fun Q hQ=> ?_) ?_
  ·change VOk _ _ _ _ _
   iterate 3 refine t_k ?_
   exact hQ
  simp only[List.set_cons_zero,List.set_cons_succ];change VOk _ _ _ _ _;iterate 5 refine t_k ?_
  refine t_s (by first|exact AK rfl gg rfl rfl (fun w=>hf _ _ _ _ w)|exact AK rfl gg rfl rfl (fun w=>hf0 _ _ _ w)) ?_;refine DF ?_;refine GX ?_;iterate 5 refine t_k ?_
  refine DF ?_;refine t_4 ?_;refine t_k ?_;refine t_s (by exact AK rfl gg rfl rfl (fun w=>hlt _ _ _ _ w)) ?_;refine t_k ?_;refine Ld (b0:=_) (d:=10) rfl rfl (fun Q hQ=> ?_) ?_
  ·change VOk _ _ _ _ _
   iterate 3 refine t_k ?_
   exact hQ
  simp only[List.set_cons_zero,List.set_cons_succ];change VOk _ _ _ _ _;iterate 6 refine t_k ?_
  refine Cw ?_
 refine C0 ?_
 refine Cw ?_
 refine As ?_;refine Bv ?_
 refine t_5 ?_;refine t_k ?_;refine t_s (by exact AK rfl gg rfl rfl (fun w=>he _ _ _ w)) ?_;refine Ft ?_;iterate 2 refine t_k ?_
 refine AG ?_;refine AD (Av results187 (Ac rfl rfl underlying146 rfl sizeOf146 rfl rfl) (AF rfl)) ?_;intro w' hg;exact⟨rfl,hg⟩
theorem ll(f:Nat→Nat→Nat)(lt:Nat→Nat→Bool)(a0 a1 a2 a3 b0 b1 b2 b3:Nat)(w:World)
 (hf: ∀(x y:Nat) (p q:Operand) (w:World),(do eqGuard .sub 49 p q (.int .u64 (x:Nat)) (.int .u64 (y:Nat));binOp .sub 49 (.int .u64 (x:Nat)) (.int .u64 (y:Nat)):Sem Value).run prog w= .ok (.int .u64 (f x y:Nat)) w)
 (_hf0: ∀(x:Nat) (p q:Operand) (w:World),(do eqGuard .sub 49 p q (.int .u64 (x:Nat)) (.int .u64 0);binOp .sub 49 (.int .u64 (x:Nat)) (.int .u64 0):Sem Value).run prog w= .ok (.int .u64 (f x 0:Nat)) w)
 (hlt: ∀(x y:Nat) (p q:Operand) (w:World),(do eqGuard .lss 49 p q (.int .u64 (x:Nat)) (.int .u64 (y:Nat));binOp .lss 49 (.int .u64 (x:Nat)) (.int .u64 (y:Nat)):Sem Value).run prog w= .ok (.bool (lt x y)) w)
 (_hlt0: ∀(x:Nat) (p q:Operand) (w:World),(do eqGuard .lss 49 p q (.int .u64 (x:Nat)) (.int .u64 0);binOp .lss 49 (.int .u64 (x:Nat)) (.int .u64 0):Sem Value).run prog w= .ok (.bool (lt x 0)) w):
 Calls prog 188 #[.agg #[.int .u64 (a0:Nat),.int .u64 (a1:Nat),.int .u64 (a2:Nat),.int .u64 (a3:Nat)],.agg #[.int .u64 (b0:Nat),.int .u64 (b1:Nat),.int .u64 (b2:Nat),.int .u64 (b3:Nat)]] w fun e w'=>e= .returned (.agg #[.int .u64 ((f (f a0 b0) 0):Nat),.int .u64 ((f (f a1 b1) (bn ((false||lt a0 b0)||lt (f a0 b0) 0))):Nat),.int .u64 ((f (f a2 b2) (bn ((false||lt a1 b1)||lt (f a1 b1) (bn ((false||lt a0 b0)||lt (f a0 b0) 0))))):Nat),.int .u64 ((f (f a3 b3) (bn ((false||lt a2 b2)||lt (f a2 b2) (bn ((false||lt a1 b1)||lt (f a1 b1) (bn ((false||lt a0 b0)||lt (f a0 b0) 0))))))):Nat)])∧Gw w w':=by
 go_enter func188,ntmps188
 refine Fq ?_
 refine GV ?_
 refine Fs ?_;iterate 11 refine t_k ?_
 refine Br 5 ?_
 iterate 4
  refine C0 ?_
  refine E1 ?_
  refine DF ?_;refine t_4 ?_;refine t_k ?_;refine DF ?_;refine t_4 ?_;refine t_s (by exact AK rfl gg rfl rfl (fun w=>hf _ _ _ _ w)) ?_;iterate 10 refine t_k ?_
  refine DF ?_;refine t_4 ?_;refine t_k ?_;refine DF ?_;refine t_4 ?_;refine t_s (by exact AK rfl gg rfl rfl (fun w=>hlt _ _ _ _ w)) ?_;refine t_k ?_;refine Ld (b0:=false) (d:=9) rfl rfl (fun Q hQ=> ?_) ?_
  ·change VOk _ _ _ _ _
   iterate 3 refine t_k ?_
   exact hQ
  simp only[List.set_cons_zero,List.set_cons_succ];change VOk _ _ _ _ _;iterate 5 refine t_k ?_
  refine t_s (by first|exact AK rfl gg rfl rfl (fun w=>hf _ _ _ _ w)|exact AK rfl gg rfl rfl (fun w=>hf0 _ _ _ w)) ?_;refine DF ?_;refine GX ?_;iterate 6 refine t_k ?_
  refine t_s (by first|exact AK rfl gg rfl rfl (fun w=>hlt _ _ _ _ w)|exact AK rfl gg rfl rfl (fun w=>hlt0 _ _ _ w)) ?_;refine t_k ?_;refine Ld (b0:=_) (d:=9) rfl rfl (fun Q hQ=> ?_) ?_
  ·change VOk _ _ _ _ _
   iterate 3 refine t_k ?_
   exact hQ
  simp only[List.set_cons_zero,List.set_cons_succ];change VOk _ _ _ _ _;iterate 6 refine t_k ?_
  refine Cw ?_
 refine C0 ?_
 refine Cw ?_
 refine As ?_;refine Bv ?_
 refine t_5 ?_;refine GU ?_;refine AD (AH results188 (Ac rfl rfl underlying146 rfl sizeOf146 rfl rfl)) ?_;intro w' hg;exact⟨rfl,hg⟩
theorem gJ(r:Bool)(a0 a1 a2 a3 b0 b1 b2 b3:Nat)(w:World)
 (n3: ∀(p q:Operand) (w:World),(do eqGuard .neq 49 p q (.int .u64 (a3:Nat)) (.int .u64 (b3:Nat));binOp .neq 49 (.int .u64 (a3:Nat)) (.int .u64 (b3:Nat)):Sem Value).run prog w= .ok (.bool true) w)
 (hl: ∀(p q:Operand) (w:World),(do eqGuard .lss 49 p q (.int .u64 (a3:Nat)) (.int .u64 (b3:Nat));binOp .lss 49 (.int .u64 (a3:Nat)) (.int .u64 (b3:Nat)):Sem Value).run prog w= .ok (.bool r) w):
 Calls prog 162 #[.agg #[.int .u64 (a0:Nat),.int .u64 (a1:Nat),.int .u64 (a2:Nat),.int .u64 (a3:Nat)],.agg #[.int .u64 (b0:Nat),.int .u64 (b1:Nat),.int .u64 (b2:Nat),.int .u64 (b3:Nat)]] w fun e w'=>e= .returned (.bool r)∧Gw w w':=by
 go_enter func162,ntmps162
 refine Lk ?_
 refine Br 5 ?_;refine C0 ?_
 refine Cz ?_
 apply vrd (by kernel_rfl)
 ·apply VE.cons
  iterate 2
   ·exact Ap rfl gg
   simp only[nm,seval];apply VE.cons
   ·first|exact C7 rfl gg rfl rfl underlying146 sizeOf49 (by decide) (by decide)|exact DK rfl gg rfl rfl underlying146 sizeOf49 (by decide) (by decide)
   simp only[nm,seval];apply VE.cons
   ·first|exact BK rfl gg rfl rfl underlying49 rfl rfl|exact BR rfl gg rfl underlying49 rfl (by first|assumption|exact hm 0 _ rfl|exact hm 1 _ rfl|exact hm 2 _ rfl|exact hm 3 _ rfl)
   simp only[nm,seval];apply VE.cons
  ·first|exact AK rfl gg rfl rfl (fun w=>n3 _ _ w)
  simp only[nm,seval];exact VE.nil _
 ·kernel_rfl
 refine Bv ?_
 apply vrd (by kernel_rfl)
 ·apply VE.cons
  iterate 2
   ·exact Ap rfl gg
   simp only[nm,seval];apply VE.cons
   ·first|exact C7 rfl gg rfl rfl underlying146 sizeOf49 (by decide) (by decide)|exact DK rfl gg rfl rfl underlying146 sizeOf49 (by decide) (by decide)
   simp only[nm,seval];apply VE.cons
   ·first|exact BK rfl gg rfl rfl underlying49 rfl rfl|exact BR rfl gg rfl underlying49 rfl (by first|assumption|exact hm 0 _ rfl|exact hm 1 _ rfl|exact hm 2 _ rfl|exact hm 3 _ rfl)
   simp only[nm,seval];apply VE.cons
  ·exact AK rfl gg rfl rfl (fun w=>hl _ _ w)
  simp only[nm,seval];apply VE.cons
  ·exact CJ rfl gg
  simp only[nm,seval];exact VE.nil _
 ·kernel_rfl
 change VOk _ _ _ _ _;refine AG ?_;refine AD (AH results162 (AF rfl)) ?_;intro w' hg;exact⟨rfl,hg⟩
theorem gK(r:Bool)(a0 a1 a2 a3 b0 b1 b2 b3:Nat)(w:World)
 (n3: ∀(p q:Operand) (w:World),(do eqGuard .neq 49 p q (.int .u64 (a3:Nat)) (.int .u64 (b3:Nat));binOp .neq 49 (.int .u64 (a3:Nat)) (.int .u64 (b3:Nat)):Sem Value).run prog w= .ok (.bool false) w)
 (n2: ∀(p q:Operand) (w:World),(do eqGuard .neq 49 p q (.int .u64 (a2:Nat)) (.int .u64 (b2:Nat));binOp .neq 49 (.int .u64 (a2:Nat)) (.int .u64 (b2:Nat)):Sem Value).run prog w= .ok (.bool true) w)
 (hl: ∀(p q:Operand) (w:World),(do eqGuard .lss 49 p q (.int .u64 (a2:Nat)) (.int .u64 (b2:Nat));binOp .lss 49 (.int .u64 (a2:Nat)) (.int .u64 (b2:Nat)):Sem Value).run prog w= .ok (.bool r) w):
 Calls prog 162 #[.agg #[.int .u64 (a0:Nat),.int .u64 (a1:Nat),.int .u64 (a2:Nat),.int .u64 (a3:Nat)],.agg #[.int .u64 (b0:Nat),.int .u64 (b1:Nat),.int .u64 (b2:Nat),.int .u64 (b3:Nat)]] w fun e w'=>e= .returned (.bool r)∧Gw w w':=by
 go_enter func162,ntmps162
 refine Lk ?_
 refine Br 5 ?_;refine C0 ?_
 refine Cz ?_
 apply vrd (by kernel_rfl)
 ·apply VE.cons
  iterate 2
   ·exact Ap rfl gg
   simp only[nm,seval];apply VE.cons
   ·first|exact C7 rfl gg rfl rfl underlying146 sizeOf49 (by decide) (by decide)|exact DK rfl gg rfl rfl underlying146 sizeOf49 (by decide) (by decide)
   simp only[nm,seval];apply VE.cons
   ·first|exact BK rfl gg rfl rfl underlying49 rfl rfl|exact BR rfl gg rfl underlying49 rfl (by first|assumption|exact hm 0 _ rfl|exact hm 1 _ rfl|exact hm 2 _ rfl|exact hm 3 _ rfl)
   simp only[nm,seval];apply VE.cons
  ·first|exact AK rfl gg rfl rfl (fun w=>n3 _ _ w)|exact AK rfl gg rfl rfl (fun w=>n2 _ _ w)
  simp only[nm,seval];exact VE.nil _
 ·kernel_rfl
 refine C0 ?_
 refine Cz ?_
 refine Cz ?_
 apply vrd (by kernel_rfl)
 ·apply VE.cons
  iterate 2
   ·exact Ap rfl gg
   simp only[nm,seval];apply VE.cons
   ·first|exact C7 rfl gg rfl rfl underlying146 sizeOf49 (by decide) (by decide)|exact DK rfl gg rfl rfl underlying146 sizeOf49 (by decide) (by decide)
   simp only[nm,seval];apply VE.cons
   ·first|exact BK rfl gg rfl rfl underlying49 rfl rfl|exact BR rfl gg rfl underlying49 rfl (by first|assumption|exact hm 0 _ rfl|exact hm 1 _ rfl|exact hm 2 _ rfl|exact hm 3 _ rfl)
   simp only[nm,seval];apply VE.cons
  ·first|exact AK rfl gg rfl rfl (fun w=>n3 _ _ w)|exact AK rfl gg rfl rfl (fun w=>n2 _ _ w)
  simp only[nm,seval];exact VE.nil _
 ·kernel_rfl
 refine Bv ?_
 apply vrd (by kernel_rfl)
 ·apply VE.cons
  iterate 2
   ·exact Ap rfl gg
   simp only[nm,seval];apply VE.cons
   ·first|exact C7 rfl gg rfl rfl underlying146 sizeOf49 (by decide) (by decide)|exact DK rfl gg rfl rfl underlying146 sizeOf49 (by decide) (by decide)
   simp only[nm,seval];apply VE.cons
   ·first|exact BK rfl gg rfl rfl underlying49 rfl rfl|exact BR rfl gg rfl underlying49 rfl (by first|assumption|exact hm 0 _ rfl|exact hm 1 _ rfl|exact hm 2 _ rfl|exact hm 3 _ rfl)
   simp only[nm,seval];apply VE.cons
  ·exact AK rfl gg rfl rfl (fun w=>hl _ _ w)
  simp only[nm,seval];apply VE.cons
  ·exact CJ rfl gg
  simp only[nm,seval];exact VE.nil _
 ·kernel_rfl
 change VOk _ _ _ _ _;refine AG ?_;refine AD (AH results162 (AF rfl)) ?_;intro w' hg;exact⟨rfl,hg⟩
theorem gL(r:Bool)(a0 a1 a2 a3 b0 b1 b2 b3:Nat)(w:World)
 (n3: ∀(p q:Operand) (w:World),(do eqGuard .neq 49 p q (.int .u64 (a3:Nat)) (.int .u64 (b3:Nat));binOp .neq 49 (.int .u64 (a3:Nat)) (.int .u64 (b3:Nat)):Sem Value).run prog w= .ok (.bool false) w)
 (n2: ∀(p q:Operand) (w:World),(do eqGuard .neq 49 p q (.int .u64 (a2:Nat)) (.int .u64 (b2:Nat));binOp .neq 49 (.int .u64 (a2:Nat)) (.int .u64 (b2:Nat)):Sem Value).run prog w= .ok (.bool false) w)
 (n1: ∀(p q:Operand) (w:World),(do eqGuard .neq 49 p q (.int .u64 (a1:Nat)) (.int .u64 (b1:Nat));binOp .neq 49 (.int .u64 (a1:Nat)) (.int .u64 (b1:Nat)):Sem Value).run prog w= .ok (.bool true) w)
 (hl: ∀(p q:Operand) (w:World),(do eqGuard .lss 49 p q (.int .u64 (a1:Nat)) (.int .u64 (b1:Nat));binOp .lss 49 (.int .u64 (a1:Nat)) (.int .u64 (b1:Nat)):Sem Value).run prog w= .ok (.bool r) w):
 Calls prog 162 #[.agg #[.int .u64 (a0:Nat),.int .u64 (a1:Nat),.int .u64 (a2:Nat),.int .u64 (a3:Nat)],.agg #[.int .u64 (b0:Nat),.int .u64 (b1:Nat),.int .u64 (b2:Nat),.int .u64 (b3:Nat)]] w fun e w'=>e= .returned (.bool r)∧Gw w w':=by
 go_enter func162,ntmps162
 refine Lk ?_
 refine Br 5 ?_
 iterate 2
  refine C0 ?_
  refine E1 ?_
  refine DF ?_;refine t_4 ?_;refine t_k ?_;refine DF ?_;refine t_4 ?_;refine t_s (by first|exact AK rfl gg rfl rfl (fun w=>n3 _ _ w)|exact AK rfl gg rfl rfl (fun w=>n2 _ _ w)|exact AK rfl gg rfl rfl (fun w=>n1 _ _ w)) ?_;iterate 5 refine t_k ?_
  refine Cw ?_
 refine C0 ?_
 refine Cz ?_
 apply vrd (by kernel_rfl)
 ·apply VE.cons
  iterate 2
   ·exact Ap rfl gg
   simp only[nm,seval];apply VE.cons
   ·first|exact C7 rfl gg rfl rfl underlying146 sizeOf49 (by decide) (by decide)|exact DK rfl gg rfl rfl underlying146 sizeOf49 (by decide) (by decide)
   simp only[nm,seval];apply VE.cons
   ·first|exact BK rfl gg rfl rfl underlying49 rfl rfl|exact BR rfl gg rfl underlying49 rfl (by first|assumption|exact hm 0 _ rfl|exact hm 1 _ rfl|exact hm 2 _ rfl|exact hm 3 _ rfl)
   simp only[nm,seval];apply VE.cons
  ·first|exact AK rfl gg rfl rfl (fun w=>n3 _ _ w)|exact AK rfl gg rfl rfl (fun w=>n2 _ _ w)|exact AK rfl gg rfl rfl (fun w=>n1 _ _ w)
  simp only[nm,seval];exact VE.nil _
 ·kernel_rfl
 refine Bv ?_
 apply vrd (by kernel_rfl)
 ·apply VE.cons
  iterate 2
   ·exact Ap rfl gg
   simp only[nm,seval];apply VE.cons
   ·first|exact C7 rfl gg rfl rfl underlying146 sizeOf49 (by decide) (by decide)|exact DK rfl gg rfl rfl underlying146 sizeOf49 (by decide) (by decide)
   simp only[nm,seval];apply VE.cons
   ·first|exact BK rfl gg rfl rfl underlying49 rfl rfl|exact BR rfl gg rfl underlying49 rfl (by first|assumption|exact hm 0 _ rfl|exact hm 1 _ rfl|exact hm 2 _ rfl|exact hm 3 _ rfl)
   simp only[nm,seval];apply VE.cons
  ·exact AK rfl gg rfl rfl (fun w=>hl _ _ w)
  simp only[nm,seval];apply VE.cons
  ·exact CJ rfl gg
  simp only[nm,seval];exact VE.nil _
 ·kernel_rfl
 change VOk _ _ _ _ _;refine AG ?_;refine AD (AH results162 (AF rfl)) ?_;intro w' hg;exact⟨rfl,hg⟩
theorem gM(r:Bool)(a0 a1 a2 a3 b0 b1 b2 b3:Nat)(w:World)
 (n3: ∀(p q:Operand) (w:World),(do eqGuard .neq 49 p q (.int .u64 (a3:Nat)) (.int .u64 (b3:Nat));binOp .neq 49 (.int .u64 (a3:Nat)) (.int .u64 (b3:Nat)):Sem Value).run prog w= .ok (.bool false) w)
 (n2: ∀(p q:Operand) (w:World),(do eqGuard .neq 49 p q (.int .u64 (a2:Nat)) (.int .u64 (b2:Nat));binOp .neq 49 (.int .u64 (a2:Nat)) (.int .u64 (b2:Nat)):Sem Value).run prog w= .ok (.bool false) w)
 (n1: ∀(p q:Operand) (w:World),(do eqGuard .neq 49 p q (.int .u64 (a1:Nat)) (.int .u64 (b1:Nat));binOp .neq 49 (.int .u64 (a1:Nat)) (.int .u64 (b1:Nat)):Sem Value).run prog w= .ok (.bool false) w)
 (n0: ∀(p q:Operand) (w:World),(do eqGuard .neq 49 p q (.int .u64 (a0:Nat)) (.int .u64 (b0:Nat));binOp .neq 49 (.int .u64 (a0:Nat)) (.int .u64 (b0:Nat)):Sem Value).run prog w= .ok (.bool true) w)
 (hl: ∀(p q:Operand) (w:World),(do eqGuard .lss 49 p q (.int .u64 (a0:Nat)) (.int .u64 (b0:Nat));binOp .lss 49 (.int .u64 (a0:Nat)) (.int .u64 (b0:Nat)):Sem Value).run prog w= .ok (.bool r) w):
 Calls prog 162 #[.agg #[.int .u64 (a0:Nat),.int .u64 (a1:Nat),.int .u64 (a2:Nat),.int .u64 (a3:Nat)],.agg #[.int .u64 (b0:Nat),.int .u64 (b1:Nat),.int .u64 (b2:Nat),.int .u64 (b3:Nat)]] w fun e w'=>e= .returned (.bool r)∧Gw w w':=by
 go_enter func162,ntmps162
 refine Lk ?_
 refine Br 5 ?_
 iterate 3
  refine C0 ?_
  refine E1 ?_
  refine DF ?_;refine t_4 ?_;refine t_k ?_;refine DF ?_;refine t_4 ?_;refine Va ?_;iterate 5 refine t_k ?_
  refine Cw ?_
 refine C0 ?_
 refine Cz ?_
 apply vrd (by kernel_rfl)
 ·apply VE.cons
  iterate 2
   ·exact Ap rfl gg
   simp only[nm,seval];apply VE.cons
   ·first|exact C7 rfl gg rfl rfl underlying146 sizeOf49 (by decide) (by decide)|exact DK rfl gg rfl rfl underlying146 sizeOf49 (by decide) (by decide)
   simp only[nm,seval];apply VE.cons
   ·first|exact BK rfl gg rfl rfl underlying49 rfl rfl|exact BR rfl gg rfl underlying49 rfl (by first|assumption|exact hm 0 _ rfl|exact hm 1 _ rfl|exact hm 2 _ rfl|exact hm 3 _ rfl)
   simp only[nm,seval];apply VE.cons
  ·first|exact AK rfl gg rfl rfl (fun w=>n3 _ _ w)|exact AK rfl gg rfl rfl (fun w=>n2 _ _ w)|exact AK rfl gg rfl rfl (fun w=>n1 _ _ w)|exact AK rfl gg rfl rfl (fun w=>n0 _ _ w)
  simp only[nm,seval];exact VE.nil _
 ·kernel_rfl
 refine Bv ?_
 apply vrd (by kernel_rfl)
 ·apply VE.cons
  iterate 2
   ·exact Ap rfl gg
   simp only[nm,seval];apply VE.cons
   ·first|exact C7 rfl gg rfl rfl underlying146 sizeOf49 (by decide) (by decide)|exact DK rfl gg rfl rfl underlying146 sizeOf49 (by decide) (by decide)
   simp only[nm,seval];apply VE.cons
   ·first|exact BK rfl gg rfl rfl underlying49 rfl rfl|exact BR rfl gg rfl underlying49 rfl (by first|assumption|exact hm 0 _ rfl|exact hm 1 _ rfl|exact hm 2 _ rfl|exact hm 3 _ rfl)
   simp only[nm,seval];apply VE.cons
  ·exact AK rfl gg rfl rfl (fun w=>hl _ _ w)
  simp only[nm,seval];apply VE.cons
  ·exact CJ rfl gg
  simp only[nm,seval];exact VE.nil _
 ·kernel_rfl
 change VOk _ _ _ _ _;refine AG ?_;refine AD (AH results162 (AF rfl)) ?_;intro w' hg;exact⟨rfl,hg⟩
theorem gI(a0 a1 a2 a3 b0 b1 b2 b3:Nat)(w:World)
 (n3: ∀(p q:Operand) (w:World),(do eqGuard .neq 49 p q (.int .u64 (a3:Nat)) (.int .u64 (b3:Nat));binOp .neq 49 (.int .u64 (a3:Nat)) (.int .u64 (b3:Nat)):Sem Value).run prog w= .ok (.bool false) w)
 (n2: ∀(p q:Operand) (w:World),(do eqGuard .neq 49 p q (.int .u64 (a2:Nat)) (.int .u64 (b2:Nat));binOp .neq 49 (.int .u64 (a2:Nat)) (.int .u64 (b2:Nat)):Sem Value).run prog w= .ok (.bool false) w)
 (n1: ∀(p q:Operand) (w:World),(do eqGuard .neq 49 p q (.int .u64 (a1:Nat)) (.int .u64 (b1:Nat));binOp .neq 49 (.int .u64 (a1:Nat)) (.int .u64 (b1:Nat)):Sem Value).run prog w= .ok (.bool false) w)
 (n0: ∀(p q:Operand) (w:World),(do eqGuard .neq 49 p q (.int .u64 (a0:Nat)) (.int .u64 (b0:Nat));binOp .neq 49 (.int .u64 (a0:Nat)) (.int .u64 (b0:Nat)):Sem Value).run prog w= .ok (.bool false) w):
 Calls prog 162 #[.agg #[.int .u64 (a0:Nat),.int .u64 (a1:Nat),.int .u64 (a2:Nat),.int .u64 (a3:Nat)],.agg #[.int .u64 (b0:Nat),.int .u64 (b1:Nat),.int .u64 (b2:Nat),.int .u64 (b3:Nat)]] w fun e w'=>e= .returned (.bool false)∧Gw w w':=by
 go_enter func162,ntmps162
 refine Lk ?_
 refine Br 5 ?_
 iterate 4
  refine C0 ?_
  refine E1 ?_
  refine DF ?_;refine t_4 ?_;refine t_k ?_;refine DF ?_;refine t_4 ?_;refine Va ?_;iterate 5 refine t_k ?_
  refine Cw ?_
 refine C0 ?_
 refine Cw ?_
 refine As ?_;refine C0 ?_
 refine AG ?_;refine AD (AH results162 (AF rfl)) ?_;intro w' hg;exact⟨rfl,hg⟩
theorem iY(a0 a1 a2 a3 b0 b1 b2 b3 m0 m1 m2 m3 s0 s1 s2 s3 z0 z1 z2 z3:Nat)(w:World)
 (h1: ∀w',Gw w w'→Calls prog 187 #[.agg #[.int .u64 (a0:Nat),.int .u64 (a1:Nat),.int .u64 (a2:Nat),.int .u64 (a3:Nat)],.agg #[.int .u64 (b0:Nat),.int .u64 (b1:Nat),.int .u64 (b2:Nat),.int .u64 (b3:Nat)]] w' fun e w''=>e= .returned (.tuple #[.agg #[.int .u64 (s0:Nat),.int .u64 (s1:Nat),.int .u64 (s2:Nat),.int .u64 (s3:Nat)],.bool true])∧Gw w' w'')
 (h3: ∀w',Gw w w'→Calls prog 188 #[.agg #[.int .u64 (s0:Nat),.int .u64 (s1:Nat),.int .u64 (s2:Nat),.int .u64 (s3:Nat)],.agg #[.int .u64 (m0:Nat),.int .u64 (m1:Nat),.int .u64 (m2:Nat),.int .u64 (m3:Nat)]] w' fun e w''=>e= .returned (.agg #[.int .u64 (z0:Nat),.int .u64 (z1:Nat),.int .u64 (z2:Nat),.int .u64 (z3:Nat)])∧Gw w' w''):
 Calls prog 186 #[.agg #[.int .u64 (a0:Nat),.int .u64 (a1:Nat),.int .u64 (a2:Nat),.int .u64 (a3:Nat)],.agg #[.int .u64 (b0:Nat),.int .u64 (b1:Nat),.int .u64 (b2:Nat),.int .u64 (b3:Nat)],.agg #[.int .u64 (m0:Nat),.int .u64 (m1:Nat),.int .u64 (m2:Nat),.int .u64 (m3:Nat)]] w fun e w'=>e= .returned (.agg #[.int .u64 (z0:Nat),.int .u64 (z1:Nat),.int .u64 (z2:Nat),.int .u64 (z3:Nat)])∧Gw w w':=by
 go_enter func186,ntmps186
 refine Io ?_
 refine GV ?_
 iterate 2 refine t_5 ?_
 refine t_s (by exact AM rfl gg rfl (eo func187) h1) ?_;iterate 3 refine t_k ?_
 refine Fs ?_;refine Ft ?_;iterate 7 refine t_k ?_
 iterate 2 refine RX ?_
 iterate 2 refine Hn ?_
 refine E3 ?_
 iterate 2 refine t_5 ?_
 refine OM ?_;refine GU ?_;refine AD (AH results186 (Ac rfl rfl underlying146 rfl sizeOf146 rfl rfl)) ?_;intro w' hg;exact⟨rfl,hg⟩
theorem ia(a0 a1 a2 a3 b0 b1 b2 b3 m0 m1 m2 m3 s0 s1 s2 s3:Nat)(w:World)
 (h1: ∀w',Gw w w'→Calls prog 187 #[.agg #[.int .u64 (a0:Nat),.int .u64 (a1:Nat),.int .u64 (a2:Nat),.int .u64 (a3:Nat)],.agg #[.int .u64 (b0:Nat),.int .u64 (b1:Nat),.int .u64 (b2:Nat),.int .u64 (b3:Nat)]] w' fun e w''=>e= .returned (.tuple #[.agg #[.int .u64 (s0:Nat),.int .u64 (s1:Nat),.int .u64 (s2:Nat),.int .u64 (s3:Nat)],.bool false])∧Gw w' w'')
 (h2: ∀w',Gw w w'→Calls prog 162 #[.agg #[.int .u64 (s0:Nat),.int .u64 (s1:Nat),.int .u64 (s2:Nat),.int .u64 (s3:Nat)],.agg #[.int .u64 (m0:Nat),.int .u64 (m1:Nat),.int .u64 (m2:Nat),.int .u64 (m3:Nat)]] w' fun e w''=>e= .returned (.bool true)∧Gw w' w''):
 Calls prog 186 #[.agg #[.int .u64 (a0:Nat),.int .u64 (a1:Nat),.int .u64 (a2:Nat),.int .u64 (a3:Nat)],.agg #[.int .u64 (b0:Nat),.int .u64 (b1:Nat),.int .u64 (b2:Nat),.int .u64 (b3:Nat)],.agg #[.int .u64 (m0:Nat),.int .u64 (m1:Nat),.int .u64 (m2:Nat),.int .u64 (m3:Nat)]] w fun e w'=>e= .returned (.agg #[.int .u64 (s0:Nat),.int .u64 (s1:Nat),.int .u64 (s2:Nat),.int .u64 (s3:Nat)])∧Gw w w':=by
 go_enter func186,ntmps186
 refine Io ?_
 refine GV ?_
 iterate 2 refine t_5 ?_
 refine t_s (by exact AM rfl gg rfl (eo func187) h1) ?_;iterate 3 refine t_k ?_
 refine Fs ?_;refine Ft ?_;iterate 7 refine t_k ?_
 iterate 2 refine RX ?_
 refine t_s (by first|exact Ev.skip (fun _=>rfl)|exact AM rfl (fun _=>rfl) rfl (eo func162) h2) ?_;refine Hn ?_;refine Hk ?_
 refine t_5 ?_;refine GU ?_;refine AD (AH results186 (Ac rfl rfl underlying146 rfl sizeOf146 rfl rfl)) ?_;intro w' hg;exact⟨rfl,hg⟩
theorem iZ(a0 a1 a2 a3 b0 b1 b2 b3 m0 m1 m2 m3 s0 s1 s2 s3 z0 z1 z2 z3:Nat)(w:World)
 (h1: ∀w',Gw w w'→Calls prog 187 #[.agg #[.int .u64 (a0:Nat),.int .u64 (a1:Nat),.int .u64 (a2:Nat),.int .u64 (a3:Nat)],.agg #[.int .u64 (b0:Nat),.int .u64 (b1:Nat),.int .u64 (b2:Nat),.int .u64 (b3:Nat)]] w' fun e w''=>e= .returned (.tuple #[.agg #[.int .u64 (s0:Nat),.int .u64 (s1:Nat),.int .u64 (s2:Nat),.int .u64 (s3:Nat)],.bool false])∧Gw w' w'')
 (h2: ∀w',Gw w w'→Calls prog 162 #[.agg #[.int .u64 (s0:Nat),.int .u64 (s1:Nat),.int .u64 (s2:Nat),.int .u64 (s3:Nat)],.agg #[.int .u64 (m0:Nat),.int .u64 (m1:Nat),.int .u64 (m2:Nat),.int .u64 (m3:Nat)]] w' fun e w''=>e= .returned (.bool false)∧Gw w' w'')
 (h3: ∀w',Gw w w'→Calls prog 188 #[.agg #[.int .u64 (s0:Nat),.int .u64 (s1:Nat),.int .u64 (s2:Nat),.int .u64 (s3:Nat)],.agg #[.int .u64 (m0:Nat),.int .u64 (m1:Nat),.int .u64 (m2:Nat),.int .u64 (m3:Nat)]] w' fun e w''=>e= .returned (.agg #[.int .u64 (z0:Nat),.int .u64 (z1:Nat),.int .u64 (z2:Nat),.int .u64 (z3:Nat)])∧Gw w' w''):
 Calls prog 186 #[.agg #[.int .u64 (a0:Nat),.int .u64 (a1:Nat),.int .u64 (a2:Nat),.int .u64 (a3:Nat)],.agg #[.int .u64 (b0:Nat),.int .u64 (b1:Nat),.int .u64 (b2:Nat),.int .u64 (b3:Nat)],.agg #[.int .u64 (m0:Nat),.int .u64 (m1:Nat),.int .u64 (m2:Nat),.int .u64 (m3:Nat)]] w fun e w'=>e= .returned (.agg #[.int .u64 (z0:Nat),.int .u64 (z1:Nat),.int .u64 (z2:Nat),.int .u64 (z3:Nat)])∧Gw w w':=by
 go_enter func186,ntmps186
 refine Io ?_
 refine GV ?_
 iterate 2 refine t_5 ?_
 refine t_s (by exact AM rfl gg rfl (eo func187) h1) ?_;iterate 3 refine t_k ?_
 refine Fs ?_;refine Ft ?_;iterate 7 refine t_k ?_
 iterate 2 refine RX ?_
 refine t_s (by first|exact Ev.skip (fun _=>rfl)|exact AM rfl (fun _=>rfl) rfl (eo func162) h2) ?_;refine Hn ?_;refine E3 ?_
 iterate 2 refine t_5 ?_
 refine OM ?_;refine GU ?_;refine AD (AH results186 (Ac rfl rfl underlying146 rfl sizeOf146 rfl rfl)) ?_;intro w' hg;exact⟨rfl,hg⟩
theorem jQ(a0 a1 a2 a3 b0 b1 b2 b3 m0 m1 m2 m3 x0 x1 x2 x3 y0 y1 y2 y3 z0 z1 z2 z3:Nat)(w:World)
 (h1: ∀w',Gw w w'→Calls prog 185 #[.agg #[.int .u64 (a0:Nat),.int .u64 (a1:Nat),.int .u64 (a2:Nat),.int .u64 (a3:Nat)],.agg #[.int .u64 (m0:Nat),.int .u64 (m1:Nat),.int .u64 (m2:Nat),.int .u64 (m3:Nat)]] w' fun e w''=>e= .returned (.agg #[.int .u64 (x0:Nat),.int .u64 (x1:Nat),.int .u64 (x2:Nat),.int .u64 (x3:Nat)])∧Gw w' w'')(h2: ∀w',Gw w w'→Calls prog 185 #[.agg #[.int .u64 (b0:Nat),.int .u64 (b1:Nat),.int .u64 (b2:Nat),.int .u64 (b3:Nat)],.agg #[.int .u64 (m0:Nat),.int .u64 (m1:Nat),.int .u64 (m2:Nat),.int .u64 (m3:Nat)]] w' fun e w''=>e= .returned (.agg #[.int .u64 (y0:Nat),.int .u64 (y1:Nat),.int .u64 (y2:Nat),.int .u64 (y3:Nat)])∧Gw w' w'')(h3: ∀w',Gw w w'→Calls prog 186 #[.agg #[.int .u64 (x0:Nat),.int .u64 (x1:Nat),.int .u64 (x2:Nat),.int .u64 (x3:Nat)],.agg #[.int .u64 (y0:Nat),.int .u64 (y1:Nat),.int .u64 (y2:Nat),.int .u64 (y3:Nat)],.agg #[.int .u64 (m0:Nat),.int .u64 (m1:Nat),.int .u64 (m2:Nat),.int .u64 (m3:Nat)]] w' fun e w''=>e= .returned (.agg #[.int .u64 (z0:Nat),.int .u64 (z1:Nat),.int .u64 (z2:Nat),.int .u64 (z3:Nat)])∧Gw w' w''):
 Calls prog 164 #[.agg #[.int .u64 (a0:Nat),.int .u64 (a1:Nat),.int .u64 (a2:Nat),.int .u64 (a3:Nat)],.agg #[.int .u64 (b0:Nat),.int .u64 (b1:Nat),.int .u64 (b2:Nat),.int .u64 (b3:Nat)],.agg #[.int .u64 (m0:Nat),.int .u64 (m1:Nat),.int .u64 (m2:Nat),.int .u64 (m3:Nat)]] w fun e w'=>e= .returned (.agg #[.int .u64 (z0:Nat),.int .u64 (z1:Nat),.int .u64 (z2:Nat),.int .u64 (z3:Nat)])∧Gw w w':=by
 go_enter func164,ntmps164
 refine Io ?_
 refine GV ?_
 iterate 2 refine t_5 ?_
 refine t_s (by exact AM rfl gg rfl (eo func185) h1) ?_;iterate 2 refine t_5 ?_
 refine t_s (by exact AM rfl gg rfl (eo func185) h2) ?_;refine t_5 ?_;refine t_s (by exact AM rfl gg rfl (eo func186) h3) ?_;refine GU ?_;refine AD (AH results164 (Ac rfl rfl underlying146 rfl sizeOf146 rfl rfl)) ?_;intro w' hg;exact⟨rfl,hg⟩
theorem i9(a0 a1 a2 a3 b0 b1 b2 b3 m0 m1 m2 m3 x0 x1 x2 x3 y0 y1 y2 y3 z0 z1 z2 z3 t0 t1 t2 t3:Nat)(c:Bool)(w:World)(h1: ∀w',Gw w w'→Calls prog 185 #[.agg #[.int .u64 (a0:Nat),.int .u64 (a1:Nat),.int .u64 (a2:Nat),.int .u64 (a3:Nat)],.agg #[.int .u64 (m0:Nat),.int .u64 (m1:Nat),.int .u64 (m2:Nat),.int .u64 (m3:Nat)]] w' fun e w''=>e= .returned (.agg #[.int .u64 (x0:Nat),.int .u64 (x1:Nat),.int .u64 (x2:Nat),.int .u64 (x3:Nat)])∧Gw w' w'')(h2: ∀w',Gw w w'→Calls prog 185 #[.agg #[.int .u64 (b0:Nat),.int .u64 (b1:Nat),.int .u64 (b2:Nat),.int .u64 (b3:Nat)],.agg #[.int .u64 (m0:Nat),.int .u64 (m1:Nat),.int .u64 (m2:Nat),.int .u64 (m3:Nat)]] w' fun e w''=>e= .returned (.agg #[.int .u64 (y0:Nat),.int .u64 (y1:Nat),.int .u64 (y2:Nat),.int .u64 (y3:Nat)])∧Gw w' w'')(hl: ∀w',Gw w w'→Calls prog 162 #[.agg #[.int .u64 (x0:Nat),.int .u64 (x1:Nat),.int .u64 (x2:Nat),.int .u64 (x3:Nat)],.agg #[.int .u64 (y0:Nat),.int .u64 (y1:Nat),.int .u64 (y2:Nat),.int .u64 (y3:Nat)]] w' fun e w''=>e= .returned (.bool true)∧Gw w' w'')(h3: ∀w',Gw w w'→Calls prog 188 #[.agg #[.int .u64 (m0:Nat),.int .u64 (m1:Nat),.int .u64 (m2:Nat),.int .u64 (m3:Nat)],.agg #[.int .u64 (y0:Nat),.int .u64 (y1:Nat),.int .u64 (y2:Nat),.int .u64 (y3:Nat)]] w' fun e w''=>e= .returned (.agg #[.int .u64 (t0:Nat),.int .u64 (t1:Nat),.int .u64 (t2:Nat),.int .u64 (t3:Nat)])∧Gw w' w'')(h4: ∀w',Gw w w'→Calls prog 187 #[.agg #[.int .u64 (x0:Nat),.int .u64 (x1:Nat),.int .u64 (x2:Nat),.int .u64 (x3:Nat)],.agg #[.int .u64 (t0:Nat),.int .u64 (t1:Nat),.int .u64 (t2:Nat),.int .u64 (t3:Nat)]] w' fun e w''=>e= .returned (.tuple #[.agg #[.int .u64 (z0:Nat),.int .u64 (z1:Nat),.int .u64 (z2:Nat),.int .u64 (z3:Nat)],.bool c])∧Gw w' w''):
 Calls prog 165 #[.agg #[.int .u64 (a0:Nat),.int .u64 (a1:Nat),.int .u64 (a2:Nat),.int .u64 (a3:Nat)],.agg #[.int .u64 (b0:Nat),.int .u64 (b1:Nat),.int .u64 (b2:Nat),.int .u64 (b3:Nat)],.agg #[.int .u64 (m0:Nat),.int .u64 (m1:Nat),.int .u64 (m2:Nat),.int .u64 (m3:Nat)]] w fun e w'=>e= .returned (.agg #[.int .u64 (z0:Nat),.int .u64 (z1:Nat),.int .u64 (z2:Nat),.int .u64 (z3:Nat)])∧Gw w w':=by
 go_enter func165,ntmps165
 refine Io ?_
 refine GV ?_
 iterate 2 refine t_5 ?_
 refine t_s (by exact AM rfl gg rfl (eo func185) h1) ?_;iterate 2 refine t_5 ?_
 refine t_s (by exact AM rfl gg rfl (eo func185) h2) ?_;iterate 2 refine Ft ?_
 iterate 4 refine t_k ?_
 iterate 2 refine t_5 ?_
 refine t_s (by exact AM rfl gg rfl (eo func162) hl) ?_;iterate 4 refine t_k ?_
 iterate 3 refine t_5 ?_
 refine OM ?_;refine t_s (by exact AM rfl gg rfl (eo func187) h4) ?_;iterate 3 refine t_k ?_
 refine Fs ?_;refine Lo ?_
 refine t_5 ?_;refine GU ?_;refine AD (AH results165 (Ac rfl rfl underlying146 rfl sizeOf146 rfl rfl)) ?_;intro w' hg;exact⟨rfl,hg⟩
theorem jA(a0 a1 a2 a3 b0 b1 b2 b3 m0 m1 m2 m3 x0 x1 x2 x3 y0 y1 y2 y3 z0 z1 z2 z3:Nat)(w:World)(h1: ∀w',Gw w w'→Calls prog 185 #[.agg #[.int .u64 (a0:Nat),.int .u64 (a1:Nat),.int .u64 (a2:Nat),.int .u64 (a3:Nat)],.agg #[.int .u64 (m0:Nat),.int .u64 (m1:Nat),.int .u64 (m2:Nat),.int .u64 (m3:Nat)]] w' fun e w''=>e= .returned (.agg #[.int .u64 (x0:Nat),.int .u64 (x1:Nat),.int .u64 (x2:Nat),.int .u64 (x3:Nat)])∧Gw w' w'')(h2: ∀w',Gw w w'→Calls prog 185 #[.agg #[.int .u64 (b0:Nat),.int .u64 (b1:Nat),.int .u64 (b2:Nat),.int .u64 (b3:Nat)],.agg #[.int .u64 (m0:Nat),.int .u64 (m1:Nat),.int .u64 (m2:Nat),.int .u64 (m3:Nat)]] w' fun e w''=>e= .returned (.agg #[.int .u64 (y0:Nat),.int .u64 (y1:Nat),.int .u64 (y2:Nat),.int .u64 (y3:Nat)])∧Gw w' w'')(hl: ∀w',Gw w w'→Calls prog 162 #[.agg #[.int .u64 (x0:Nat),.int .u64 (x1:Nat),.int .u64 (x2:Nat),.int .u64 (x3:Nat)],.agg #[.int .u64 (y0:Nat),.int .u64 (y1:Nat),.int .u64 (y2:Nat),.int .u64 (y3:Nat)]] w' fun e w''=>e= .returned (.bool false)∧Gw w' w'')(h3: ∀w',Gw w w'→Calls prog 188 #[.agg #[.int .u64 (x0:Nat),.int .u64 (x1:Nat),.int .u64 (x2:Nat),.int .u64 (x3:Nat)],.agg #[.int .u64 (y0:Nat),.int .u64 (y1:Nat),.int .u64 (y2:Nat),.int .u64 (y3:Nat)]] w' fun e w''=>e= .returned (.agg #[.int .u64 (z0:Nat),.int .u64 (z1:Nat),.int .u64 (z2:Nat),.int .u64 (z3:Nat)])∧Gw w' w''):
 Calls prog 165 #[.agg #[.int .u64 (a0:Nat),.int .u64 (a1:Nat),.int .u64 (a2:Nat),.int .u64 (a3:Nat)],.agg #[.int .u64 (b0:Nat),.int .u64 (b1:Nat),.int .u64 (b2:Nat),.int .u64 (b3:Nat)],.agg #[.int .u64 (m0:Nat),.int .u64 (m1:Nat),.int .u64 (m2:Nat),.int .u64 (m3:Nat)]] w fun e w'=>e= .returned (.agg #[.int .u64 (z0:Nat),.int .u64 (z1:Nat),.int .u64 (z2:Nat),.int .u64 (z3:Nat)])∧Gw w w':=by
 go_enter func165,ntmps165
 refine Io ?_
 refine GV ?_
 iterate 2 refine t_5 ?_
 refine t_s (by exact AM rfl gg rfl (eo func185) h1) ?_;iterate 2 refine t_5 ?_
 refine t_s (by exact AM rfl gg rfl (eo func185) h2) ?_;iterate 2 refine Ft ?_
 iterate 4 refine t_k ?_
 iterate 2 refine t_5 ?_
 refine t_s (by exact AM rfl gg rfl (eo func162) hl) ?_;iterate 5 refine t_k ?_
 iterate 2 refine t_5 ?_
 refine OM ?_;refine GU ?_;refine AD (AH results165 (Ac rfl rfl underlying146 rfl sizeOf146 rfl rfl)) ?_;intro w' hg;exact⟨rfl,hg⟩
theorem fl(l:Nat→Nat→Nat)(x m z zr:Nat)(w:World)(bt qo le rm sr:Nat→Nat)(sq ml _fz:Nat→Nat)(R:Nat→Nat→Prop)
 (hzero:l zr 0=0∧l zr 1=0∧l zr 2=0∧l zr 3=0)
 (hq: ∀(k:Nat) (_:k<256) (p q:Operand) (w:World),(do eqGuard .quo 3 p q (.int .i64 (((k+1:Nat):Int)-1)) (.int .i64 64);binOp .quo 3 (.int .i64 (((k+1:Nat):Int)-1)) (.int .i64 64):Sem Value).run prog w= .ok (.int .i64 (qo k:Nat)) w)
 (hq4: ∀k,k<256→qo k<4)
 (hle: ∀k,k<256→([.v (.int .u64 (l x 0:Nat)),.v (.int .u64 (l x 1:Nat)),.v (.int .u64 (l x 2:Nat)),.v (.int .u64 (l x 3:Nat))]:List SV)[qo k]? =some (.v (.int .u64 (le k:Nat))))
 (hr: ∀(k:Nat) (p q:Operand) (w:World),(do eqGuard .rem 3 p q (.int .i64 (((k+1:Nat):Int)-1)) (.int .i64 64);binOp .rem 3 (.int .i64 (((k+1:Nat):Int)-1)) (.int .i64 64):Sem Value).run prog w= .ok (.int .i64 (rm k:Nat)) w)
 (hsr: ∀(k:Nat) (p q:Operand) (w:World),(do eqGuard .shr 49 p q (.int .u64 (le k:Nat)) (.int .i64 (rm k:Nat));binOp .shr 49 (.int .u64 (le k:Nat)) (.int .i64 (rm k:Nat)):Sem Value).run prog w= .ok (.int .u64 (sr k:Nat)) w)
 (hr2: ∀(k:Nat) (p q:Operand) (w:World),(do eqGuard .rem 49 p q (.int .u64 (sr k:Nat)) (.int .u64 2);binOp .rem 49 (.int .u64 (sr k:Nat)) (.int .u64 2):Sem Value).run prog w= .ok (.int .u64 (bt k:Nat)) w)
 (hR:R 256 zr)
 (hsq: ∀k y,k<256→R (k+1) y→ ∀w',Gw w w'→Calls prog 186 #[.agg #[.int .u64 (l y 0:Nat),.int .u64 (l y 1:Nat),.int .u64 (l y 2:Nat),.int .u64 (l y 3:Nat)],.agg #[.int .u64 (l y 0:Nat),.int .u64 (l y 1:Nat),.int .u64 (l y 2:Nat),.int .u64 (l y 3:Nat)],.agg #[.int .u64 (l m 0:Nat),.int .u64 (l m 1:Nat),.int .u64 (l m 2:Nat),.int .u64 (l m 3:Nat)]] w' fun e w''=>e= .returned (.agg #[.int .u64 (l (sq y) 0:Nat),.int .u64 (l (sq y) 1:Nat),.int .u64 (l (sq y) 2:Nat),.int .u64 (l (sq y) 3:Nat)])∧Gw w' w'')
 (hml: ∀k y,k<256→R (k+1) y→bt k=1→ ∀w',Gw w w'→Calls prog 186 #[.agg #[.int .u64 (l (sq y) 0:Nat),.int .u64 (l (sq y) 1:Nat),.int .u64 (l (sq y) 2:Nat),.int .u64 (l (sq y) 3:Nat)],.agg #[.int .u64 1,.int .u64 0,.int .u64 0,.int .u64 0],.agg #[.int .u64 (l m 0:Nat),.int .u64 (l m 1:Nat),.int .u64 (l m 2:Nat),.int .u64 (l m 3:Nat)]] w' fun e w''=>e= .returned (.agg #[.int .u64 (l (ml y) 0:Nat),.int .u64 (l (ml y) 1:Nat),.int .u64 (l (ml y) 2:Nat),.int .u64 (l (ml y) 3:Nat)])∧Gw w' w'')
 (hs1: ∀k y,k<256→R (k+1) y→bt k=1→R k (ml y))
 (hs0: ∀k y,k<256→R (k+1) y→bt k≠1→R k (sq y))
 (hz: ∀y,R 0 y→(.agg #[.int .u64 (l y 0:Nat),.int .u64 (l y 1:Nat),.int .u64 (l y 2:Nat),.int .u64 (l y 3:Nat)]:Value)=(.agg #[.int .u64 (l z 0:Nat),.int .u64 (l z 1:Nat),.int .u64 (l z 2:Nat),.int .u64 (l z 3:Nat)]:Value)):
 Calls prog 185 #[.agg #[.int .u64 (l x 0:Nat),.int .u64 (l x 1:Nat),.int .u64 (l x 2:Nat),.int .u64 (l x 3:Nat)],.agg #[.int .u64 (l m 0:Nat),.int .u64 (l m 1:Nat),.int .u64 (l m 2:Nat),.int .u64 (l m 3:Nat)]] w fun e w'=>e= .returned (.agg #[.int .u64 (l z 0:Nat),.int .u64 (l z 1:Nat),.int .u64 (l z 2:Nat),.int .u64 (l z 3:Nat)])∧Gw w w':=by
 go_enter func185,ntmps185
 refine Fq ?_
 refine GV ?_
 refine Fs ?_;iterate 7 refine t_k ?_
 refine Ii (fun n s=> ∃(y:Nat),n≤256∧R n y∧s.fr=[.v (.agg #[.int .u64 (l x 0:Nat),.int .u64 (l x 1:Nat),.int .u64 (l x 2:Nat),.int .u64 (l x 3:Nat)]),.v (.agg #[.int .u64 (l m 0:Nat),.int .u64 (l m 1:Nat),.int .u64 (l m 2:Nat),.int .u64 (l m 3:Nat)]),.p 2 0,.p 3 0,.p 4 0,.p 5 0,.v (.int .i64 ((n:Int)-1)),s.fr.getD 7 default,s.fr.getD 8 default,s.fr.getD 9 default,s.fr.getD 10 default,s.fr.getD 11 default,s.fr.getD 12 default,s.fr.getD 13 default,s.fr.getD 14 default,s.fr.getD 15 default,s.fr.getD 16 default,s.fr.getD 17 default,s.fr.getD 18 default,s.fr.getD 19 default,s.fr.getD 20 default,s.fr.getD 21 default,s.fr.getD 22 default,s.fr.getD 23 default,s.fr.getD 24 default,s.fr.getD 25 default,s.fr.getD 26 default,s.fr.getD 27 default,s.fr.getD 28 default]∧s.mem=AJ [(5,([.v (.int .u64 (l y 0:Nat)),.v (.int .u64 (l y 1:Nat)),.v (.int .u64 (l y 2:Nat)),.v (.int .u64 (l y 3:Nat))],146)),(4,([.v (.int .u64 0),.v (.int .u64 0),.v (.int .u64 0),.v (.int .u64 0)],146)),(3,([.v (.int .u64 (l m 0:Nat)),.v (.int .u64 (l m 1:Nat)),.v (.int .u64 (l m 2:Nat)),.v (.int .u64 (l m 3:Nat))],146)),(2,([.v (.int .u64 (l x 0:Nat)),.v (.int .u64 (l x 1:Nat)),.v (.int .u64 (l x 2:Nat)),.v (.int .u64 (l x 3:Nat))],146))]) ?_ 256 ?_;rotate_left
 ·exact⟨zr,Nat.le_refl _,hR,rfl,by simp only[hzero];rfl⟩
 rintro n ⟨fr,mm⟩ ⟨y,hn,hRn,hfr,hmm⟩;obtain⟨f,hf⟩: ∃f:Nat→SV,fr=[.v (.agg #[.int .u64 (l x 0:Nat),.int .u64 (l x 1:Nat),.int .u64 (l x 2:Nat),.int .u64 (l x 3:Nat)]),.v (.agg #[.int .u64 (l m 0:Nat),.int .u64 (l m 1:Nat),.int .u64 (l m 2:Nat),.int .u64 (l m 3:Nat)]),.p 2 0,.p 3 0,.p 4 0,.p 5 0,.v (.int .i64 ((n:Int)-1)),f 7,f 8,f 9,f 10,f 11,f 12,f 13,f 14,f 15,f 16,f 17,f 18,f 19,f 20,f 21,f 22,f 23,f 24,f 25,f 26,f 27,f 28]:=⟨fun i=>fr.getD i default,hfr⟩
 clear hfr;simp only at hmm;subst hf hmm;cases n with
 |succ k=>
  have hk:k<256:=by omega
  have hge:decide ((0:Int)≤((k+1:Nat):Int)-1)=true:=decide_eq_true (by omega);have hdn:IntKind.i64.wrap (((k+1:Nat):Int)-1-1)=(k:Int)-1:=by rw[Ah (by omega) (by omega)];omega
  by_cases hb:bt k=1
  ·have he:decide (((bt k:Nat):Int)=1)=true:=decide_eq_true (by omega)
   iterate 4 refine t_k ?_
   refine t_s (by exact B4 (p:=true) rfl gg rfl rfl hge) ?_;iterate 7 refine t_k ?_
   iterate 3 refine t_5 ?_
   refine OP ?_;refine Lo ?_
   refine OH ?_;refine OS ?_;refine OJ ?_;refine t_k ?_;refine OE ?_;refine OG ?_;refine OF ?_;refine t_s (by exact Ag (p:=true) rfl gg rfl rfl he) ?_;iterate 3 refine t_k ?_
   refine t_5 ?_;refine t_1 ?_;refine t_5 ?_;refine t_s (by exact AM rfl gg rfl (eo func186) (hml _ _ hk hRn hb)) ?_;refine Ft ?_;iterate 3 refine t_k ?_
   refine t_s (by exact Bu rfl gg rfl rfl hdn) ?_;iterate 2 refine t_k ?_
   exact⟨k,by omega,_,by omega,hs1 _ _ hk hRn hb,rfl,rfl⟩
  ·have he:decide (((bt k:Nat):Int)=1)=false:=decide_eq_false (by omega)
   iterate 4 refine t_k ?_
   refine t_s (by exact B4 (p:=true) rfl gg rfl rfl hge) ?_;iterate 7 refine t_k ?_
   iterate 3 refine t_5 ?_
   refine OP ?_;refine Lo ?_
   refine OH ?_;refine OS ?_;refine OJ ?_;refine t_k ?_;refine OE ?_;refine OG ?_;refine OF ?_;refine t_s (by exact Ag (p:=false) rfl gg rfl rfl he) ?_;iterate 5 refine t_k ?_
   refine t_s (by exact Bu rfl gg rfl rfl hdn) ?_;iterate 2 refine t_k ?_
   exact⟨k,by omega,_,by omega,hs0 _ _ hk hRn hb,rfl,rfl⟩
 |zero=>
  iterate 4 refine t_k ?_
  refine t_s (by exact B4 (p:=false) rfl gg rfl rfl (by decide)) ?_;iterate 2 refine t_k ?_
  refine As ?_;change VOk _ _ _ _ _;refine Bv ?_
  refine t_5 ?_;refine GU ?_;refine AD (AH results185 (Ac rfl rfl underlying146 rfl sizeOf146 rfl rfl)) ?_;intro w' hg;exact⟨by rw[hz y hRn],hg⟩
theorem gG(l:Nat→Nat→Nat)(a e m x z zr:Nat)(w:World)(bt qo le rm sr:Nat→Nat)(sq ml _fz:Nat→Nat)(R:Nat→Nat→Prop)
 (hzero:l zr 0=0∧l zr 1=0∧l zr 2=0∧l zr 3=0)
 (h1: ∀w',Gw w w'→Calls prog 185 #[.agg #[.int .u64 (l a 0:Nat),.int .u64 (l a 1:Nat),.int .u64 (l a 2:Nat),.int .u64 (l a 3:Nat)],.agg #[.int .u64 (l m 0:Nat),.int .u64 (l m 1:Nat),.int .u64 (l m 2:Nat),.int .u64 (l m 3:Nat)]] w' fun e w''=>e= .returned (.agg #[.int .u64 (l x 0:Nat),.int .u64 (l x 1:Nat),.int .u64 (l x 2:Nat),.int .u64 (l x 3:Nat)])∧Gw w' w'')
 (hq: ∀(k:Nat) (_:k<256) (p q:Operand) (w:World),(do eqGuard .quo 3 p q (.int .i64 (((k+1:Nat):Int)-1)) (.int .i64 64);binOp .quo 3 (.int .i64 (((k+1:Nat):Int)-1)) (.int .i64 64):Sem Value).run prog w= .ok (.int .i64 (qo k:Nat)) w)
 (hq4: ∀k,k<256→qo k<4)
 (hle: ∀k,k<256→([.v (.int .u64 (l e 0:Nat)),.v (.int .u64 (l e 1:Nat)),.v (.int .u64 (l e 2:Nat)),.v (.int .u64 (l e 3:Nat))]:List SV)[qo k]? =some (.v (.int .u64 (le k:Nat))))
 (hr: ∀(k:Nat) (p q:Operand) (w:World),(do eqGuard .rem 3 p q (.int .i64 (((k+1:Nat):Int)-1)) (.int .i64 64);binOp .rem 3 (.int .i64 (((k+1:Nat):Int)-1)) (.int .i64 64):Sem Value).run prog w= .ok (.int .i64 (rm k:Nat)) w)
 (hsr: ∀(k:Nat) (p q:Operand) (w:World),(do eqGuard .shr 49 p q (.int .u64 (le k:Nat)) (.int .i64 (rm k:Nat));binOp .shr 49 (.int .u64 (le k:Nat)) (.int .i64 (rm k:Nat)):Sem Value).run prog w= .ok (.int .u64 (sr k:Nat)) w)
 (hr2: ∀(k:Nat) (p q:Operand) (w:World),(do eqGuard .rem 49 p q (.int .u64 (sr k:Nat)) (.int .u64 2);binOp .rem 49 (.int .u64 (sr k:Nat)) (.int .u64 2):Sem Value).run prog w= .ok (.int .u64 (bt k:Nat)) w)
 (hR:R 256 zr)
 (hsq: ∀k y,k<256→R (k+1) y→ ∀w',Gw w w'→Calls prog 186 #[.agg #[.int .u64 (l y 0:Nat),.int .u64 (l y 1:Nat),.int .u64 (l y 2:Nat),.int .u64 (l y 3:Nat)],.agg #[.int .u64 (l y 0:Nat),.int .u64 (l y 1:Nat),.int .u64 (l y 2:Nat),.int .u64 (l y 3:Nat)],.agg #[.int .u64 (l m 0:Nat),.int .u64 (l m 1:Nat),.int .u64 (l m 2:Nat),.int .u64 (l m 3:Nat)]] w' fun e w''=>e= .returned (.agg #[.int .u64 (l (sq y) 0:Nat),.int .u64 (l (sq y) 1:Nat),.int .u64 (l (sq y) 2:Nat),.int .u64 (l (sq y) 3:Nat)])∧Gw w' w'')
 (hml: ∀k y,k<256→R (k+1) y→bt k=1→ ∀w',Gw w w'→Calls prog 186 #[.agg #[.int .u64 (l (sq y) 0:Nat),.int .u64 (l (sq y) 1:Nat),.int .u64 (l (sq y) 2:Nat),.int .u64 (l (sq y) 3:Nat)],.agg #[.int .u64 (l x 0:Nat),.int .u64 (l x 1:Nat),.int .u64 (l x 2:Nat),.int .u64 (l x 3:Nat)],.agg #[.int .u64 (l m 0:Nat),.int .u64 (l m 1:Nat),.int .u64 (l m 2:Nat),.int .u64 (l m 3:Nat)]] w' fun e w''=>e= .returned (.agg #[.int .u64 (l (ml y) 0:Nat),.int .u64 (l (ml y) 1:Nat),.int .u64 (l (ml y) 2:Nat),.int .u64 (l (ml y) 3:Nat)])∧Gw w' w'')
 (hs1: ∀k y,k<256→R (k+1) y→bt k=1→R k (ml y))
 (hs0: ∀k y,k<256→R (k+1) y→bt k≠1→R k (sq y))
 (hz: ∀y,R 0 y→(.agg #[.int .u64 (l y 0:Nat),.int .u64 (l y 1:Nat),.int .u64 (l y 2:Nat),.int .u64 (l y 3:Nat)]:Value)=(.agg #[.int .u64 (l z 0:Nat),.int .u64 (l z 1:Nat),.int .u64 (l z 2:Nat),.int .u64 (l z 3:Nat)]:Value)):
 Calls prog 163 #[.agg #[.int .u64 (l a 0:Nat),.int .u64 (l a 1:Nat),.int .u64 (l a 2:Nat),.int .u64 (l a 3:Nat)],.agg #[.int .u64 (l e 0:Nat),.int .u64 (l e 1:Nat),.int .u64 (l e 2:Nat),.int .u64 (l e 3:Nat)],.agg #[.int .u64 (l m 0:Nat),.int .u64 (l m 1:Nat),.int .u64 (l m 2:Nat),.int .u64 (l m 3:Nat)]] w fun e w'=>e= .returned (.agg #[.int .u64 (l z 0:Nat),.int .u64 (l z 1:Nat),.int .u64 (l z 2:Nat),.int .u64 (l z 3:Nat)])∧Gw w w':=by
 go_enter func163,ntmps163
 refine Io ?_
 refine GV ?_
 iterate 2 refine t_5 ?_
 refine t_s (by exact AM rfl gg rfl (eo func185) (h1)) ?_;refine Ft ?_;iterate 3 refine t_k ?_
 refine Fs ?_;iterate 7 refine t_k ?_
 refine Ii (fun n s=> ∃(y:Nat),n≤256∧R n y∧s.fr=[.v (.agg #[.int .u64 (l a 0:Nat),.int .u64 (l a 1:Nat),.int .u64 (l a 2:Nat),.int .u64 (l a 3:Nat)]),.v (.agg #[.int .u64 (l e 0:Nat),.int .u64 (l e 1:Nat),.int .u64 (l e 2:Nat),.int .u64 (l e 3:Nat)]),.v (.agg #[.int .u64 (l m 0:Nat),.int .u64 (l m 1:Nat),.int .u64 (l m 2:Nat),.int .u64 (l m 3:Nat)]),.p 3 0,.p 4 0,.p 5 0,.p 6 0,.p 7 0,.v (.int .i64 ((n:Int)-1)),s.fr.getD 9 default,s.fr.getD 10 default,s.fr.getD 11 default,s.fr.getD 12 default,s.fr.getD 13 default,s.fr.getD 14 default,s.fr.getD 15 default,s.fr.getD 16 default,s.fr.getD 17 default,s.fr.getD 18 default,s.fr.getD 19 default,s.fr.getD 20 default,s.fr.getD 21 default,s.fr.getD 22 default,s.fr.getD 23 default,s.fr.getD 24 default,s.fr.getD 25 default,s.fr.getD 26 default,s.fr.getD 27 default,s.fr.getD 28 default,s.fr.getD 29 default,s.fr.getD 30 default,s.fr.getD 31 default,s.fr.getD 32 default,s.fr.getD 33 default]∧s.mem=AJ [(7,([.v (.int .u64 (l y 0:Nat)),.v (.int .u64 (l y 1:Nat)),.v (.int .u64 (l y 2:Nat)),.v (.int .u64 (l y 3:Nat))],146)),(6,([.v (.int .u64 0),.v (.int .u64 0),.v (.int .u64 0),.v (.int .u64 0)],146)),(5,([.v (.int .u64 (l m 0:Nat)),.v (.int .u64 (l m 1:Nat)),.v (.int .u64 (l m 2:Nat)),.v (.int .u64 (l m 3:Nat))],146)),(4,([.v (.int .u64 (l e 0:Nat)),.v (.int .u64 (l e 1:Nat)),.v (.int .u64 (l e 2:Nat)),.v (.int .u64 (l e 3:Nat))],146)),(3,([.v (.int .u64 (l x 0:Nat)),.v (.int .u64 (l x 1:Nat)),.v (.int .u64 (l x 2:Nat)),.v (.int .u64 (l x 3:Nat))],146))]) ?_ 256 ?_;rotate_left
 ·exact⟨zr,Nat.le_refl _,hR,rfl,by simp only[hzero];rfl⟩
 rintro n ⟨fr,mm⟩ ⟨y,hn,hRn,hfr,hmm⟩;obtain⟨f,hf⟩: ∃f:Nat→SV,fr=[.v (.agg #[.int .u64 (l a 0:Nat),.int .u64 (l a 1:Nat),.int .u64 (l a 2:Nat),.int .u64 (l a 3:Nat)]),.v (.agg #[.int .u64 (l e 0:Nat),.int .u64 (l e 1:Nat),.int .u64 (l e 2:Nat),.int .u64 (l e 3:Nat)]),.v (.agg #[.int .u64 (l m 0:Nat),.int .u64 (l m 1:Nat),.int .u64 (l m 2:Nat),.int .u64 (l m 3:Nat)]),.p 3 0,.p 4 0,.p 5 0,.p 6 0,.p 7 0,.v (.int .i64 ((n:Int)-1)),f 9,f 10,f 11,f 12,f 13,f 14,f 15,f 16,f 17,f 18,f 19,f 20,f 21,f 22,f 23,f 24,f 25,f 26,f 27,f 28,f 29,f 30,f 31,f 32,f 33]:=⟨fun i=>fr.getD i default,hfr⟩
 clear hfr;simp only at hmm;subst hf hmm;cases n with
 |succ k=>
  have hk:k<256:=by omega
  have hge:decide ((0:Int)≤((k+1:Nat):Int)-1)=true:=decide_eq_true (by omega);have hdn:IntKind.i64.wrap (((k+1:Nat):Int)-1-1)=(k:Int)-1:=by rw[Ah (by omega) (by omega)];omega
  by_cases hb:bt k=1
  ·have he:decide (((bt k:Nat):Int)=1)=true:=decide_eq_true (by omega)
   iterate 4 refine t_k ?_
   refine t_s (by exact B4 (p:=true) rfl gg rfl rfl hge) ?_;iterate 7 refine t_k ?_
   iterate 3 refine t_5 ?_
   refine OP ?_;refine Lo ?_
   refine OH ?_;refine OS ?_;refine OJ ?_;refine t_k ?_;refine OE ?_;refine OG ?_;refine OF ?_;refine t_s (by exact Ag (p:=true) rfl gg rfl rfl he) ?_;iterate 3 refine t_k ?_
   iterate 3 refine t_5 ?_
   refine t_s (by exact AM rfl gg rfl (eo func186) (hml _ _ hk hRn hb)) ?_;refine Ft ?_;iterate 3 refine t_k ?_
   refine t_s (by exact Bu rfl gg rfl rfl hdn) ?_;iterate 2 refine t_k ?_
   exact⟨k,by omega,_,by omega,hs1 _ _ hk hRn hb,rfl,rfl⟩
  ·have he:decide (((bt k:Nat):Int)=1)=false:=decide_eq_false (by omega)
   iterate 4 refine t_k ?_
   refine t_s (by exact B4 (p:=true) rfl gg rfl rfl hge) ?_;iterate 7 refine t_k ?_
   iterate 3 refine t_5 ?_
   refine OP ?_;refine Lo ?_
   refine OH ?_;refine OS ?_;refine OJ ?_;refine t_k ?_;refine OE ?_;refine OG ?_;refine OF ?_;refine t_s (by exact Ag (p:=false) rfl gg rfl rfl he) ?_;iterate 5 refine t_k ?_
   refine t_s (by exact Bu rfl gg rfl rfl hdn) ?_;iterate 2 refine t_k ?_
   exact⟨k,by omega,_,by omega,hs0 _ _ hk hRn hb,rfl,rfl⟩
 |zero=>
  iterate 4 refine t_k ?_
  refine t_s (by exact B4 (p:=false) rfl gg rfl rfl (by decide)) ?_;iterate 2 refine t_k ?_
  refine As ?_;change VOk _ _ _ _ _;refine Bv ?_
  refine t_5 ?_;refine GU ?_;refine AD (AH results163 (Ac rfl rfl underlying146 rfl sizeOf146 rfl rfl)) ?_;intro w' hg;exact⟨by rw[hz y hRn],hg⟩
end Go.Proofs.YtafbhakmkbehiaaGreatDoor
