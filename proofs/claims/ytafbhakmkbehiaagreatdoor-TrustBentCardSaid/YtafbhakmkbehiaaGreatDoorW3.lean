import Derived.Test.YtafbhakmkbehiaaGreatDoorW1
open Go.Proofs.Tryz
set_option maxHeartbeats 4000000
set_option maxRecDepth 100000
namespace Go.Proofs.YtafbhakmkbehiaaGreatDoor
open Go.RowKit Go.Toll
theorem kF(f:Nat->Nat->Nat)(lt:Nat->Nat->Bool)(k:Nat->Bool)(a c g i b0 e h j:Nat)(w:World)
 (n:∀(x y:Nat) (p q:Operand) (w:World),(do eqGuard .add 49 p q (.int .u64 (x:Nat)) (.int .u64 (y:Nat));binOp .add 49 (.int .u64 (x:Nat)) (.int .u64 (y:Nat)):Sem Value).run prog w=.ok (.int .u64 (f x y:Nat)) w)
 (_hf0:∀(x:Nat) (p q:Operand) (w:World),(do eqGuard .add 49 p q (.int .u64 (x:Nat)) (.int .u64 0);binOp .add 49 (.int .u64 (x:Nat)) (.int .u64 0):Sem Value).run prog w=.ok (.int .u64 (f x 0:Nat)) w)
 (l:∀(x y:Nat) (p q:Operand) (w:World),(do eqGuard .lss 49 p q (.int .u64 (x:Nat)) (.int .u64 (y:Nat));binOp .lss 49 (.int .u64 (x:Nat)) (.int .u64 (y:Nat)):Sem Value).run prog w=.ok (.bool (lt x y)) w)
 (_hlt0:∀(x:Nat) (p q:Operand) (w:World),(do eqGuard .lss 49 p q (.int .u64 (x:Nat)) (.int .u64 0);binOp .lss 49 (.int .u64 (x:Nat)) (.int .u64 0):Sem Value).run prog w=.ok (.bool (lt x 0)) w)
 (o:∀(x:Nat) (p q:Operand) (w:World),(do eqGuard .eql 49 p q (.int .u64 (x:Nat)) (.int .u64 1);binOp .eql 49 (.int .u64 (x:Nat)) (.int .u64 1):Sem Value).run prog w=.ok (.bool (k x)) w):
 CGy 187 #[A4y a c g i,A4y b0 e h j] w (.tuple #[.agg #[.int .u64 ((f (f a b0) 0):Nat),.int .u64 ((f (f c e) (bn ((false||lt (f a b0) a)||lt (f (f a b0) 0) (f a b0)))):Nat),.int .u64 ((f (f g h) (bn ((false||lt (f c e) c)||lt (f (f c e) (bn ((false||lt (f a b0) a)||lt (f (f a b0) 0) (f a b0)))) (f c e)))):Nat),.int .u64 ((f (f i j) (bn ((false||lt (f g h) g)||lt (f (f g h) (bn ((false||lt (f c e) c)||lt (f (f c e) (bn ((false||lt (f a b0) a)||lt (f (f a b0) 0) (f a b0)))) (f c e)))) (f g h)))):Nat)],.bool (k (bn ((false||lt (f i j) i)||lt (f (f i j) (bn ((false||lt (f g h) g)||lt (f (f g h) (bn ((false||lt (f c e) c)||lt (f (f c e) (bn ((false||lt (f a b0) a)||lt (f (f a b0) 0) (f a b0)))) (f c e)))) (f g h)))) (f i j))))]):=by
 go_enter func187,ntmps187
 refine E8 ?_
 refine Fs ?_;iterate 4 refine iN ?_
 refine Fs ?_;iterate 11 refine iN ?_
 refine Br 5 ?_
 iterate 4
  refine C3 ?_
  refine ET ?_
  refine DF ?_;refine t_4 ?_;refine iN ?_;refine DF ?_;refine t_4 ?_;refine n9 (by exact AK rfl gg rfl rfl (λw=>n _ _ _ _ w)) ?_;iterate 11 refine iN ?_
  refine DF ?_;refine t_4 ?_;refine n9 (by exact AK rfl gg rfl rfl (λw=>l _ _ _ _ w)) ?_;refine iN ?_;refine Ld (b0:=false) (d:=10) rfl rfl (λQ m=> ?_) ?_
  .change VOk _ _ _ _ _
   iterate 3 refine iN ?_
   exact m
  simp only[List.set_cons_zero,List.set_cons_succ];change VOk _ _ _ _ _;iterate 5 refine iN ?_
  refine n9 (by first|exact AK rfl gg rfl rfl (λw=>n _ _ _ _ w)|exact AK rfl gg rfl rfl (λw=>hf0 _ _ _ w)) ?_;refine DF ?_;refine GX ?_;iterate 5 refine iN ?_
  refine DF ?_;refine t_4 ?_;refine iN ?_;refine n9 (by exact AK rfl gg rfl rfl (λw=>l _ _ _ _ w)) ?_;refine iN ?_;refine Ld (b0:=_) (d:=10) rfl rfl (λQ m=> ?_) ?_
  .change VOk _ _ _ _ _
   iterate 3 refine iN ?_
   exact m
  simp only[List.set_cons_zero,List.set_cons_succ];change VOk _ _ _ _ _;iterate 6 refine iN ?_
  refine Dx ?_
 refine C3 ?_
 refine Dx ?_
 refine As ?_;refine BP ?_
 refine t_5 ?_;refine iN ?_;refine n9 (by exact AK rfl gg rfl rfl (λw=>o _ _ _ w)) ?_;refine Ft ?_;iterate 2 refine iN ?_
 refine AG ?_;refine AD (Av results187 (Ac rfl rfl underlying146 rfl sizeOf146 rfl rfl) (AF rfl)) ?_;intro s r;exact⟨rfl,r⟩
theorem ll(f:Nat->Nat->Nat)(lt:Nat->Nat->Bool)(a c h k b0 e i l:Nat)(w:World)
 (m:∀(x y:Nat) (p q:Operand) (w:World),(do eqGuard .sub 49 p q (.int .u64 (x:Nat)) (.int .u64 (y:Nat));binOp .sub 49 (.int .u64 (x:Nat)) (.int .u64 (y:Nat)):Sem Value).run prog w=.ok (.int .u64 (f x y:Nat)) w)
 (_hf0:∀(x:Nat) (p q:Operand) (w:World),(do eqGuard .sub 49 p q (.int .u64 (x:Nat)) (.int .u64 0);binOp .sub 49 (.int .u64 (x:Nat)) (.int .u64 0):Sem Value).run prog w=.ok (.int .u64 (f x 0:Nat)) w)
 (g:∀(x y:Nat) (p q:Operand) (w:World),(do eqGuard .lss 49 p q (.int .u64 (x:Nat)) (.int .u64 (y:Nat));binOp .lss 49 (.int .u64 (x:Nat)) (.int .u64 (y:Nat)):Sem Value).run prog w=.ok (.bool (lt x y)) w)
 (_hlt0:∀(x:Nat) (p q:Operand) (w:World),(do eqGuard .lss 49 p q (.int .u64 (x:Nat)) (.int .u64 0);binOp .lss 49 (.int .u64 (x:Nat)) (.int .u64 0):Sem Value).run prog w=.ok (.bool (lt x 0)) w):
 CGy 188 #[A4y a c h k,A4y b0 e i l] w (.agg #[.int .u64 ((f (f a b0) 0):Nat),.int .u64 ((f (f c e) (bn ((false||lt a b0)||lt (f a b0) 0))):Nat),.int .u64 ((f (f h i) (bn ((false||lt c e)||lt (f c e) (bn ((false||lt a b0)||lt (f a b0) 0))))):Nat),.int .u64 ((f (f k l) (bn ((false||lt h i)||lt (f h i) (bn ((false||lt c e)||lt (f c e) (bn ((false||lt a b0)||lt (f a b0) 0))))))):Nat)]):=by
 go_enter func188,ntmps188
 refine E8 ?_
 refine E9 ?_
 refine Fs ?_;iterate 11 refine iN ?_
 refine Br 5 ?_
 iterate 4
  refine C3 ?_
  refine ET ?_
  refine DF ?_;refine t_4 ?_;refine iN ?_;refine DF ?_;refine t_4 ?_;refine n9 (by exact AK rfl gg rfl rfl (λw=>m _ _ _ _ w)) ?_;iterate 10 refine iN ?_
  refine DF ?_;refine t_4 ?_;refine iN ?_;refine DF ?_;refine t_4 ?_;refine n9 (by exact AK rfl gg rfl rfl (λw=>g _ _ _ _ w)) ?_;refine iN ?_;refine Ld (b0:=false) (d:=9) rfl rfl (λQ j=> ?_) ?_
  .change VOk _ _ _ _ _
   iterate 3 refine iN ?_
   exact j
  simp only[List.set_cons_zero,List.set_cons_succ];change VOk _ _ _ _ _;iterate 5 refine iN ?_
  refine n9 (by first|exact AK rfl gg rfl rfl (λw=>m _ _ _ _ w)|exact AK rfl gg rfl rfl (λw=>hf0 _ _ _ w)) ?_;refine DF ?_;refine GX ?_;iterate 6 refine iN ?_
  refine n9 (by first|exact AK rfl gg rfl rfl (λw=>g _ _ _ _ w)|exact AK rfl gg rfl rfl (λw=>hlt0 _ _ _ w)) ?_;refine iN ?_;refine Ld (b0:=_) (d:=9) rfl rfl (λQ j=> ?_) ?_
  .change VOk _ _ _ _ _
   iterate 3 refine iN ?_
   exact j
  simp only[List.set_cons_zero,List.set_cons_succ];change VOk _ _ _ _ _;iterate 6 refine iN ?_
  refine Dx ?_
 refine C3 ?_
 refine Dx ?_
 refine As ?_;refine BP ?_
 refine t_5 ?_;refine Hl ?_;refine AD (AH results188 (Ac rfl rfl underlying146 rfl sizeOf146 rfl rfl)) ?_;intro o n;exact⟨rfl,n⟩
theorem gJ(r:Bool)(d e f a g h i c:Nat)(w:World)
 (l:∀(p q:Operand) (w:World),(do eqGuard .neq 49 p q (.int .u64 (a:Nat)) (.int .u64 (c:Nat));binOp .neq 49 (.int .u64 (a:Nat)) (.int .u64 (c:Nat)):Sem Value).run prog w=.ok (.bool true) w)
 (k:∀(p q:Operand) (w:World),(do eqGuard .lss 49 p q (.int .u64 (a:Nat)) (.int .u64 (c:Nat));binOp .lss 49 (.int .u64 (a:Nat)) (.int .u64 (c:Nat)):Sem Value).run prog w=.ok (.bool r) w):
 CGy 162 #[A4y d e f a,A4y g h i c] w (.bool r):=by
 go_enter func162,ntmps162
 refine I4 ?_
 refine Br 5 ?_;refine C3 ?_
 refine Bv ?_
 apply vrd (by kernel_rfl)
 .apply VE.cons
  iterate 2
   .exact Ap rfl gg
   simp only[nm,seval];apply VE.cons
   .first|exact C7 rfl gg rfl rfl underlying146 zF (by decide) (by decide)|exact DK rfl gg rfl rfl underlying146 zF (by decide) (by decide)
   simp only[nm,seval];apply VE.cons
   .first|exact BK rfl gg rfl rfl zN rfl rfl|exact BR rfl gg rfl zN rfl (by first|assumption|exact hm 0 _ rfl|exact hm 1 _ rfl|exact hm 2 _ rfl|exact hm 3 _ rfl)
   simp only[nm,seval];apply VE.cons
  .first|exact AK rfl gg rfl rfl (λw=>l _ _ w)
  simp only[nm,seval];exact VE.nil _
 .kernel_rfl
 refine BP ?_
 apply vrd (by kernel_rfl)
 .apply VE.cons
  iterate 2
   .exact Ap rfl gg
   simp only[nm,seval];apply VE.cons
   .first|exact C7 rfl gg rfl rfl underlying146 zF (by decide) (by decide)|exact DK rfl gg rfl rfl underlying146 zF (by decide) (by decide)
   simp only[nm,seval];apply VE.cons
   .first|exact BK rfl gg rfl rfl zN rfl rfl|exact BR rfl gg rfl zN rfl (by first|assumption|exact hm 0 _ rfl|exact hm 1 _ rfl|exact hm 2 _ rfl|exact hm 3 _ rfl)
   simp only[nm,seval];apply VE.cons
  .exact AK rfl gg rfl rfl (λw=>k _ _ w)
  simp only[nm,seval];apply VE.cons
  .exact CJ rfl gg
  simp only[nm,seval];exact VE.nil _
 .kernel_rfl
 change VOk _ _ _ _ _;refine AG ?_;refine AD (AH results162 (AF rfl)) ?_;intro m j;exact⟨rfl,j⟩
theorem gK(r:Bool)(h i a d j k c e:Nat)(w:World)
 (g:∀(p q:Operand) (w:World),(do eqGuard .neq 49 p q (.int .u64 (d:Nat)) (.int .u64 (e:Nat));binOp .neq 49 (.int .u64 (d:Nat)) (.int .u64 (e:Nat)):Sem Value).run prog w=.ok (.bool false) w)
 (f:∀(p q:Operand) (w:World),(do eqGuard .neq 49 p q (.int .u64 (a:Nat)) (.int .u64 (c:Nat));binOp .neq 49 (.int .u64 (a:Nat)) (.int .u64 (c:Nat)):Sem Value).run prog w=.ok (.bool true) w)
 (m:∀(p q:Operand) (w:World),(do eqGuard .lss 49 p q (.int .u64 (a:Nat)) (.int .u64 (c:Nat));binOp .lss 49 (.int .u64 (a:Nat)) (.int .u64 (c:Nat)):Sem Value).run prog w=.ok (.bool r) w):
 CGy 162 #[A4y h i a d,A4y j k c e] w (.bool r):=by
 go_enter func162,ntmps162
 refine I4 ?_
 refine Br 5 ?_;refine C3 ?_
 refine Bv ?_
 apply vrd (by kernel_rfl)
 .apply VE.cons
  iterate 2
   .exact Ap rfl gg
   simp only[nm,seval];apply VE.cons
   .first|exact C7 rfl gg rfl rfl underlying146 zF (by decide) (by decide)|exact DK rfl gg rfl rfl underlying146 zF (by decide) (by decide)
   simp only[nm,seval];apply VE.cons
   .first|exact BK rfl gg rfl rfl zN rfl rfl|exact BR rfl gg rfl zN rfl (by first|assumption|exact hm 0 _ rfl|exact hm 1 _ rfl|exact hm 2 _ rfl|exact hm 3 _ rfl)
   simp only[nm,seval];apply VE.cons
  .first|exact AK rfl gg rfl rfl (λw=>g _ _ w)|exact AK rfl gg rfl rfl (λw=>f _ _ w)
  simp only[nm,seval];exact VE.nil _
 .kernel_rfl
 refine C3 ?_
 refine Bv ?_
 refine Bv ?_
 apply vrd (by kernel_rfl)
 .apply VE.cons
  iterate 2
   .exact Ap rfl gg
   simp only[nm,seval];apply VE.cons
   .first|exact C7 rfl gg rfl rfl underlying146 zF (by decide) (by decide)|exact DK rfl gg rfl rfl underlying146 zF (by decide) (by decide)
   simp only[nm,seval];apply VE.cons
   .first|exact BK rfl gg rfl rfl zN rfl rfl|exact BR rfl gg rfl zN rfl (by first|assumption|exact hm 0 _ rfl|exact hm 1 _ rfl|exact hm 2 _ rfl|exact hm 3 _ rfl)
   simp only[nm,seval];apply VE.cons
  .first|exact AK rfl gg rfl rfl (λw=>g _ _ w)|exact AK rfl gg rfl rfl (λw=>f _ _ w)
  simp only[nm,seval];exact VE.nil _
 .kernel_rfl
 refine BP ?_
 apply vrd (by kernel_rfl)
 .apply VE.cons
  iterate 2
   .exact Ap rfl gg
   simp only[nm,seval];apply VE.cons
   .first|exact C7 rfl gg rfl rfl underlying146 zF (by decide) (by decide)|exact DK rfl gg rfl rfl underlying146 zF (by decide) (by decide)
   simp only[nm,seval];apply VE.cons
   .first|exact BK rfl gg rfl rfl zN rfl rfl|exact BR rfl gg rfl zN rfl (by first|assumption|exact hm 0 _ rfl|exact hm 1 _ rfl|exact hm 2 _ rfl|exact hm 3 _ rfl)
   simp only[nm,seval];apply VE.cons
  .exact AK rfl gg rfl rfl (λw=>m _ _ w)
  simp only[nm,seval];apply VE.cons
  .exact CJ rfl gg
  simp only[nm,seval];exact VE.nil _
 .kernel_rfl
 change VOk _ _ _ _ _;refine AG ?_;refine AD (AH results162 (AF rfl)) ?_;intro n l;exact⟨rfl,l⟩
theorem gL(r:Bool)(k a d e l c f g:Nat)(w:World)
 (j:∀(p q:Operand) (w:World),(do eqGuard .neq 49 p q (.int .u64 (e:Nat)) (.int .u64 (g:Nat));binOp .neq 49 (.int .u64 (e:Nat)) (.int .u64 (g:Nat)):Sem Value).run prog w=.ok (.bool false) w)
 (i:∀(p q:Operand) (w:World),(do eqGuard .neq 49 p q (.int .u64 (d:Nat)) (.int .u64 (f:Nat));binOp .neq 49 (.int .u64 (d:Nat)) (.int .u64 (f:Nat)):Sem Value).run prog w=.ok (.bool false) w)
 (h:∀(p q:Operand) (w:World),(do eqGuard .neq 49 p q (.int .u64 (a:Nat)) (.int .u64 (c:Nat));binOp .neq 49 (.int .u64 (a:Nat)) (.int .u64 (c:Nat)):Sem Value).run prog w=.ok (.bool true) w)
 (n:∀(p q:Operand) (w:World),(do eqGuard .lss 49 p q (.int .u64 (a:Nat)) (.int .u64 (c:Nat));binOp .lss 49 (.int .u64 (a:Nat)) (.int .u64 (c:Nat)):Sem Value).run prog w=.ok (.bool r) w):
 CGy 162 #[A4y k a d e,A4y l c f g] w (.bool r):=by
 go_enter func162,ntmps162
 refine I4 ?_
 refine Br 5 ?_
 iterate 2
  refine C3 ?_
  refine ET ?_
  refine DF ?_;refine t_4 ?_;refine iN ?_;refine DF ?_;refine t_4 ?_;refine n9 (by first|exact AK rfl gg rfl rfl (λw=>j _ _ w)|exact AK rfl gg rfl rfl (λw=>i _ _ w)|exact AK rfl gg rfl rfl (λw=>h _ _ w)) ?_;iterate 5 refine iN ?_
  refine Dx ?_
 refine C3 ?_
 refine Bv ?_
 apply vrd (by kernel_rfl)
 .apply VE.cons
  iterate 2
   .exact Ap rfl gg
   simp only[nm,seval];apply VE.cons
   .first|exact C7 rfl gg rfl rfl underlying146 zF (by decide) (by decide)|exact DK rfl gg rfl rfl underlying146 zF (by decide) (by decide)
   simp only[nm,seval];apply VE.cons
   .first|exact BK rfl gg rfl rfl zN rfl rfl|exact BR rfl gg rfl zN rfl (by first|assumption|exact hm 0 _ rfl|exact hm 1 _ rfl|exact hm 2 _ rfl|exact hm 3 _ rfl)
   simp only[nm,seval];apply VE.cons
  .first|exact AK rfl gg rfl rfl (λw=>j _ _ w)|exact AK rfl gg rfl rfl (λw=>i _ _ w)|exact AK rfl gg rfl rfl (λw=>h _ _ w)
  simp only[nm,seval];exact VE.nil _
 .kernel_rfl
 refine BP ?_
 apply vrd (by kernel_rfl)
 .apply VE.cons
  iterate 2
   .exact Ap rfl gg
   simp only[nm,seval];apply VE.cons
   .first|exact C7 rfl gg rfl rfl underlying146 zF (by decide) (by decide)|exact DK rfl gg rfl rfl underlying146 zF (by decide) (by decide)
   simp only[nm,seval];apply VE.cons
   .first|exact BK rfl gg rfl rfl zN rfl rfl|exact BR rfl gg rfl zN rfl (by first|assumption|exact hm 0 _ rfl|exact hm 1 _ rfl|exact hm 2 _ rfl|exact hm 3 _ rfl)
   simp only[nm,seval];apply VE.cons
  .exact AK rfl gg rfl rfl (λw=>n _ _ w)
  simp only[nm,seval];apply VE.cons
  .exact CJ rfl gg
  simp only[nm,seval];exact VE.nil _
 .kernel_rfl
 change VOk _ _ _ _ _;refine AG ?_;refine AD (AH results162 (AF rfl)) ?_;intro o m;exact⟨rfl,m⟩
theorem gM(r:Bool)(a d e f c g h i:Nat)(w:World)
 (n3:∀(p q:Operand) (w:World),(do eqGuard .neq 49 p q (.int .u64 (f:Nat)) (.int .u64 (i:Nat));binOp .neq 49 (.int .u64 (f:Nat)) (.int .u64 (i:Nat)):Sem Value).run prog w=.ok (.bool false) w)
 (n2:∀(p q:Operand) (w:World),(do eqGuard .neq 49 p q (.int .u64 (e:Nat)) (.int .u64 (h:Nat));binOp .neq 49 (.int .u64 (e:Nat)) (.int .u64 (h:Nat)):Sem Value).run prog w=.ok (.bool false) w)
 (n1:∀(p q:Operand) (w:World),(do eqGuard .neq 49 p q (.int .u64 (d:Nat)) (.int .u64 (g:Nat));binOp .neq 49 (.int .u64 (d:Nat)) (.int .u64 (g:Nat)):Sem Value).run prog w=.ok (.bool false) w)
 (n0:∀(p q:Operand) (w:World),(do eqGuard .neq 49 p q (.int .u64 (a:Nat)) (.int .u64 (c:Nat));binOp .neq 49 (.int .u64 (a:Nat)) (.int .u64 (c:Nat)):Sem Value).run prog w=.ok (.bool true) w)
 (k:∀(p q:Operand) (w:World),(do eqGuard .lss 49 p q (.int .u64 (a:Nat)) (.int .u64 (c:Nat));binOp .lss 49 (.int .u64 (a:Nat)) (.int .u64 (c:Nat)):Sem Value).run prog w=.ok (.bool r) w):
 CGy 162 #[A4y a d e f,A4y c g h i] w (.bool r):=by
 go_enter func162,ntmps162
 refine I4 ?_
 refine Br 5 ?_
 iterate 3
  refine C3 ?_
  refine ET ?_
  refine DF ?_;refine t_4 ?_;refine iN ?_;refine DF ?_;refine t_4 ?_;refine Va ?_;iterate 5 refine iN ?_
  refine Dx ?_
 refine C3 ?_
 refine Bv ?_
 apply vrd (by kernel_rfl)
 .apply VE.cons
  iterate 2
   .exact Ap rfl gg
   simp only[nm,seval];apply VE.cons
   .first|exact C7 rfl gg rfl rfl underlying146 zF (by decide) (by decide)|exact DK rfl gg rfl rfl underlying146 zF (by decide) (by decide)
   simp only[nm,seval];apply VE.cons
   .first|exact BK rfl gg rfl rfl zN rfl rfl|exact BR rfl gg rfl zN rfl (by first|assumption|exact hm 0 _ rfl|exact hm 1 _ rfl|exact hm 2 _ rfl|exact hm 3 _ rfl)
   simp only[nm,seval];apply VE.cons
  .first|exact AK rfl gg rfl rfl (λw=>n3 _ _ w)|exact AK rfl gg rfl rfl (λw=>n2 _ _ w)|exact AK rfl gg rfl rfl (λw=>n1 _ _ w)|exact AK rfl gg rfl rfl (λw=>n0 _ _ w)
  simp only[nm,seval];exact VE.nil _
 .kernel_rfl
 refine BP ?_
 apply vrd (by kernel_rfl)
 .apply VE.cons
  iterate 2
   .exact Ap rfl gg
   simp only[nm,seval];apply VE.cons
   .first|exact C7 rfl gg rfl rfl underlying146 zF (by decide) (by decide)|exact DK rfl gg rfl rfl underlying146 zF (by decide) (by decide)
   simp only[nm,seval];apply VE.cons
   .first|exact BK rfl gg rfl rfl zN rfl rfl|exact BR rfl gg rfl zN rfl (by first|assumption|exact hm 0 _ rfl|exact hm 1 _ rfl|exact hm 2 _ rfl|exact hm 3 _ rfl)
   simp only[nm,seval];apply VE.cons
  .exact AK rfl gg rfl rfl (λw=>k _ _ w)
  simp only[nm,seval];apply VE.cons
  .exact CJ rfl gg
  simp only[nm,seval];exact VE.nil _
 .kernel_rfl
 change VOk _ _ _ _ _;refine AG ?_;refine AD (AH results162 (AF rfl)) ?_;intro l j;exact⟨rfl,j⟩
theorem gI(a c d e f g h i:Nat)(w:World)
 (n3:∀(p q:Operand) (w:World),(do eqGuard .neq 49 p q (.int .u64 (e:Nat)) (.int .u64 (i:Nat));binOp .neq 49 (.int .u64 (e:Nat)) (.int .u64 (i:Nat)):Sem Value).run prog w=.ok (.bool false) w)
 (n2:∀(p q:Operand) (w:World),(do eqGuard .neq 49 p q (.int .u64 (d:Nat)) (.int .u64 (h:Nat));binOp .neq 49 (.int .u64 (d:Nat)) (.int .u64 (h:Nat)):Sem Value).run prog w=.ok (.bool false) w)
 (n1:∀(p q:Operand) (w:World),(do eqGuard .neq 49 p q (.int .u64 (c:Nat)) (.int .u64 (g:Nat));binOp .neq 49 (.int .u64 (c:Nat)) (.int .u64 (g:Nat)):Sem Value).run prog w=.ok (.bool false) w)
 (n0:∀(p q:Operand) (w:World),(do eqGuard .neq 49 p q (.int .u64 (a:Nat)) (.int .u64 (f:Nat));binOp .neq 49 (.int .u64 (a:Nat)) (.int .u64 (f:Nat)):Sem Value).run prog w=.ok (.bool false) w):
 CGy 162 #[A4y a c d e,A4y f g h i] w (.bool false):=by
 go_enter func162,ntmps162
 refine I4 ?_
 refine Br 5 ?_
 iterate 4
  refine C3 ?_
  refine ET ?_
  refine DF ?_;refine t_4 ?_;refine iN ?_;refine DF ?_;refine t_4 ?_;refine Va ?_;iterate 5 refine iN ?_
  refine Dx ?_
 refine C3 ?_
 refine Dx ?_
 refine As ?_;refine C3 ?_
 refine AG ?_;refine AD (AH results162 (AF rfl)) ?_;intro k j;exact⟨rfl,j⟩
theorem iY(c d e g h i j k l m n o p q r s t u v x:Nat)(w:World)
 (y:∀a,Gw w a->CGy 187 #[A4y c d e g,A4y h i j k] a (.tuple #[A4y p q r s,.bool true]))
 (h3:∀a,Gw w a->CGy 188 #[A4y p q r s,A4y l m n o] a (A4y t u v x)):
 CGy 186 #[A4y c d e g,A4y h i j k,A4y l m n o] w (A4y t u v x):=by
 go_enter func186,ntmps186
 refine Gg ?_
 refine E9 ?_
 iterate 2 refine t_5 ?_
 refine n9 (by exact AM rfl gg rfl (eo func187) y) ?_;iterate 3 refine iN ?_
 refine Fs ?_;refine Ft ?_;iterate 7 refine iN ?_
 iterate 2 refine RX ?_
 iterate 2 refine Hn ?_
 refine EQ ?_
 iterate 2 refine t_5 ?_
 refine OM ?_;refine Hl ?_;refine AD (AH results186 (Ac rfl rfl underlying146 rfl sizeOf146 rfl rfl)) ?_;intro a z;exact⟨rfl,z⟩
theorem ia(h i j k l m n o p q r s c d e g:Nat)(w:World)
 (t:∀a,Gw w a->CGy 187 #[A4y h i j k,A4y l m n o] a (.tuple #[A4y c d e g,.bool false]))
 (u:∀a,Gw w a->CGy 162 #[A4y c d e g,A4y p q r s] a (.bool true)):
 CGy 186 #[A4y h i j k,A4y l m n o,A4y p q r s] w (A4y c d e g):=by
 go_enter func186,ntmps186
 refine Gg ?_
 refine E9 ?_
 iterate 2 refine t_5 ?_
 refine n9 (by exact AM rfl gg rfl (eo func187) t) ?_;iterate 3 refine iN ?_
 refine Fs ?_;refine Ft ?_;iterate 7 refine iN ?_
 iterate 2 refine RX ?_
 refine n9 (by first|exact Ev.skip (λ_=>rfl)|exact AM rfl (λ_=>rfl) rfl (eo func162) u) ?_;refine Hn ?_;refine Fo ?_
 refine t_5 ?_;refine Hl ?_;refine AD (AH results186 (Ac rfl rfl underlying146 rfl sizeOf146 rfl rfl)) ?_;intro a v;exact⟨rfl,v⟩
theorem iZ(l m n o p q r s c d e g h i j k t u v x:Nat)(w:World)
 (y:∀a,Gw w a->CGy 187 #[A4y l m n o,A4y p q r s] a (.tuple #[A4y h i j k,.bool false]))
 (z:∀a,Gw w a->CGy 162 #[A4y h i j k,A4y c d e g] a (.bool false))
 (h3:∀a,Gw w a->CGy 188 #[A4y h i j k,A4y c d e g] a (A4y t u v x)):
 CGy 186 #[A4y l m n o,A4y p q r s,A4y c d e g] w (A4y t u v x):=by
 go_enter func186,ntmps186
 refine Gg ?_
 refine E9 ?_
 iterate 2 refine t_5 ?_
 refine n9 (by exact AM rfl gg rfl (eo func187) y) ?_;iterate 3 refine iN ?_
 refine Fs ?_;refine Ft ?_;iterate 7 refine iN ?_
 iterate 2 refine RX ?_
 refine n9 (by first|exact Ev.skip (λ_=>rfl)|exact AM rfl (λ_=>rfl) rfl (eo func162) z) ?_;refine Hn ?_;refine EQ ?_
 iterate 2 refine t_5 ?_
 refine OM ?_;refine Hl ?_;refine AD (AH results186 (Ac rfl rfl underlying146 rfl sizeOf146 rfl rfl)) ?_;intro a A;exact⟨rfl,A⟩
theorem jQ(h i j k l m n o c d e g p q r s t u v x y z A B:Nat)(w:World)
 (C:∀a,Gw w a->CGy 185 #[A4y h i j k,A4y c d e g] a (A4y p q r s))(D:∀a,Gw w a->CGy 185 #[A4y l m n o,A4y c d e g] a (A4y t u v x))(E:∀a,Gw w a->CGy 186 #[A4y p q r s,A4y t u v x,A4y c d e g] a (A4y y z A B)):
 CGy 164 #[A4y h i j k,A4y l m n o,A4y c d e g] w (A4y y z A B):=by
 go_enter func164,ntmps164
 refine Gg ?_
 refine E9 ?_
 iterate 2 refine t_5 ?_
 refine n9 (by exact AM rfl gg rfl (eo func185) C) ?_;iterate 2 refine t_5 ?_
 refine n9 (by exact AM rfl gg rfl (eo func185) D) ?_;refine t_5 ?_;refine n9 (by exact AM rfl gg rfl (eo func186) E) ?_;refine Hl ?_;refine AD (AH results164 (Ac rfl rfl underlying146 rfl sizeOf146 rfl rfl)) ?_;intro a F;exact⟨rfl,F⟩
theorem i9(q r s t u v x y d e g h i j k l m n o p D E F G z A B C:Nat)(c:Bool)(w:World)(H:∀a,Gw w a->CGy 185 #[A4y q r s t,A4y d e g h] a (A4y i j k l))(I:∀a,Gw w a->CGy 185 #[A4y u v x y,A4y d e g h] a (A4y m n o p))(L:∀a,Gw w a->CGy 162 #[A4y i j k l,A4y m n o p] a (.bool true))(h3:∀a,Gw w a->CGy 188 #[A4y d e g h,A4y m n o p] a (A4y z A B C))(J:∀a,Gw w a->CGy 187 #[A4y i j k l,A4y z A B C] a (.tuple #[A4y D E F G,.bool c])):
 CGy 165 #[A4y q r s t,A4y u v x y,A4y d e g h] w (A4y D E F G):=by
 go_enter func165,ntmps165
 refine Gg ?_
 refine E9 ?_
 iterate 2 refine t_5 ?_
 refine n9 (by exact AM rfl gg rfl (eo func185) H) ?_;iterate 2 refine t_5 ?_
 refine n9 (by exact AM rfl gg rfl (eo func185) I) ?_;iterate 2 refine Ft ?_
 iterate 4 refine iN ?_
 iterate 2 refine t_5 ?_
 refine n9 (by exact AM rfl gg rfl (eo func162) L) ?_;iterate 4 refine iN ?_
 iterate 3 refine t_5 ?_
 refine OM ?_;refine n9 (by exact AM rfl gg rfl (eo func187) J) ?_;iterate 3 refine iN ?_
 refine Fs ?_;refine J1 ?_
 refine t_5 ?_;refine Hl ?_;refine AD (AH results165 (Ac rfl rfl underlying146 rfl sizeOf146 rfl rfl)) ?_;intro a K;exact⟨rfl,K⟩
theorem jA(p q r s t u v x c d e g h i j k l m n o y z A B:Nat)(w:World)(C:∀a,Gw w a->CGy 185 #[A4y p q r s,A4y c d e g] a (A4y h i j k))(D:∀a,Gw w a->CGy 185 #[A4y t u v x,A4y c d e g] a (A4y l m n o))(F:∀a,Gw w a->CGy 162 #[A4y h i j k,A4y l m n o] a (.bool false))(h3:∀a,Gw w a->CGy 188 #[A4y h i j k,A4y l m n o] a (A4y y z A B)):
 CGy 165 #[A4y p q r s,A4y t u v x,A4y c d e g] w (A4y y z A B):=by
 go_enter func165,ntmps165
 refine Gg ?_
 refine E9 ?_
 iterate 2 refine t_5 ?_
 refine n9 (by exact AM rfl gg rfl (eo func185) C) ?_;iterate 2 refine t_5 ?_
 refine n9 (by exact AM rfl gg rfl (eo func185) D) ?_;iterate 2 refine Ft ?_
 iterate 4 refine iN ?_
 iterate 2 refine t_5 ?_
 refine n9 (by exact AM rfl gg rfl (eo func162) F) ?_;iterate 5 refine iN ?_
 iterate 2 refine t_5 ?_
 refine OM ?_;refine Hl ?_;refine AD (AH results165 (Ac rfl rfl underlying146 rfl sizeOf146 rfl rfl)) ?_;intro a E;exact⟨rfl,E⟩
theorem fl(l:Nat->Nat->Nat)(x m z e:Nat)(w:World)(a D C E G:Nat->Nat)(F I _fz:Nat->Nat)(R:Nat->Nat->Prop)
 (c:l e 0=0/\l e 1=0/\l e 2=0/\l e 3=0)
 (hq:∀(k:Nat) (_:k<256) (p q:Operand) (w:World),(do eqGuard .quo 3 p q (.int .i64 (((k+1:Nat):Int)-1)) (.int .i64 64);binOp .quo 3 (.int .i64 (((k+1:Nat):Int)-1)) (.int .i64 64):Sem Value).run prog w=.ok (.int .i64 (D k:Nat)) w)
 (hq4:∀k,k<256->D k<4)
 (hle:∀k,k<256->([.v (.int .u64 (l x 0:Nat)),.v (.int .u64 (l x 1:Nat)),.v (.int .u64 (l x 2:Nat)),.v (.int .u64 (l x 3:Nat))]:List SV)[D k]? =some (.v (.int .u64 (C k:Nat))))
 (hr:∀(k:Nat) (p q:Operand) (w:World),(do eqGuard .rem 3 p q (.int .i64 (((k+1:Nat):Int)-1)) (.int .i64 64);binOp .rem 3 (.int .i64 (((k+1:Nat):Int)-1)) (.int .i64 64):Sem Value).run prog w=.ok (.int .i64 (E k:Nat)) w)
 (hsr:∀(k:Nat) (p q:Operand) (w:World),(do eqGuard .shr 49 p q (.int .u64 (C k:Nat)) (.int .i64 (E k:Nat));binOp .shr 49 (.int .u64 (C k:Nat)) (.int .i64 (E k:Nat)):Sem Value).run prog w=.ok (.int .u64 (G k:Nat)) w)
 (hr2:∀(k:Nat) (p q:Operand) (w:World),(do eqGuard .rem 49 p q (.int .u64 (G k:Nat)) (.int .u64 2);binOp .rem 49 (.int .u64 (G k:Nat)) (.int .u64 2):Sem Value).run prog w=.ok (.int .u64 (a k:Nat)) w)
 (J:R 256 e)
 (hsq:∀k y,k<256->R (k+1) y-> ∀d,Gw w d->CGy 186 #[q4y l y,q4y l y,q4y l m] d (q4y l (F y)))
 (u:∀k y,k<256->R (k+1) y->a k=1-> ∀d,Gw w d->CGy 186 #[q4y l (F y),.agg #[.int .u64 1,.int .u64 0,.int .u64 0,.int .u64 0],q4y l m] d (q4y l (I y)))
 (B:∀k y,k<256->R (k+1) y->a k=1->R k (I y))
 (A:∀k y,k<256->R (k+1) y->a k≠1->R k (F y))
 (M:∀y,R 0 y->(.agg #[.int .u64 (l y 0:Nat),.int .u64 (l y 1:Nat),.int .u64 (l y 2:Nat),.int .u64 (l y 3:Nat)]:Value)=(.agg #[.int .u64 (l z 0:Nat),.int .u64 (l z 1:Nat),.int .u64 (l z 2:Nat),.int .u64 (l z 3:Nat)]:Value)):
 CGy 185 #[q4y l x,q4y l m] w (q4y l z):=by
 go_enter func185,ntmps185
 refine E8 ?_
 refine E9 ?_
 refine Fs ?_;iterate 7 refine iN ?_
 refine Ii (λn s=> ∃(y:Nat),n<=256/\R n y/\s.fr=[.v (q4y l x),.v (q4y l m),.p 2 0,.p 3 0,.p 4 0,.p 5 0,.v (.int .i64 ((n:Int)-1)),s.fr.getD 7 default,s.fr.getD 8 default,s.fr.getD 9 default,s.fr.getD 10 default,s.fr.getD 11 default,s.fr.getD 12 default,s.fr.getD 13 default,s.fr.getD 14 default,s.fr.getD 15 default,s.fr.getD 16 default,s.fr.getD 17 default,s.fr.getD 18 default,s.fr.getD 19 default,s.fr.getD 20 default,s.fr.getD 21 default,s.fr.getD 22 default,s.fr.getD 23 default,s.fr.getD 24 default,s.fr.getD 25 default,s.fr.getD 26 default,s.fr.getD 27 default,s.fr.getD 28 default]/\s.mem=AJ [(5,([.v (.int .u64 (l y 0:Nat)),.v (.int .u64 (l y 1:Nat)),.v (.int .u64 (l y 2:Nat)),.v (.int .u64 (l y 3:Nat))],146)),(4,([.v (.int .u64 0),.v (.int .u64 0),.v (.int .u64 0),.v (.int .u64 0)],146)),(3,([.v (.int .u64 (l m 0:Nat)),.v (.int .u64 (l m 1:Nat)),.v (.int .u64 (l m 2:Nat)),.v (.int .u64 (l m 3:Nat))],146)),(2,([.v (.int .u64 (l x 0:Nat)),.v (.int .u64 (l x 1:Nat)),.v (.int .u64 (l x 2:Nat)),.v (.int .u64 (l x 3:Nat))],146))]) ?_ 256 ?_;rotate_left
 .exact⟨e,yD _,J,rfl,by simp only[c];rfl⟩
 rintro n ⟨H,O⟩ ⟨y,N,hRn,h,o⟩;obtain⟨f,K⟩:∃f:Nat->SV,H=[.v (q4y l x),.v (q4y l m),.p 2 0,.p 3 0,.p 4 0,.p 5 0,.v (.int .i64 ((n:Int)-1)),f 7,f 8,f 9,f 10,f 11,f 12,f 13,f 14,f 15,f 16,f 17,f 18,f 19,f 20,f 21,f 22,f 23,f 24,f 25,f 26,f 27,f 28]:=⟨λi=>H.getD i default,h⟩
 clear h;simp only at o;subst K o;cases n with
 |succ k=>
  have hk:k<256:=by omega
  have j:decide ((0:Int)<=((k+1:Nat):Int)-1)=true:=yE (by omega);have g:IntKind.i64.wrap (((k+1:Nat):Int)-1-1)=(k:Int)-1:=by rw[Ah (by omega) (by omega)];omega
  by_cases r:a k=1
  .have t:decide (((a k:Nat):Int)=1)=true:=yE (by omega)
   iterate 4 refine iN ?_
   refine n9 (by exact B4 (p:=true) rfl gg rfl rfl j) ?_;iterate 7 refine iN ?_
   iterate 3 refine t_5 ?_
   refine OP ?_;refine J1 ?_
   refine OH ?_;refine OS ?_;refine OJ ?_;refine iN ?_;refine OE ?_;refine OG ?_;refine OF ?_;refine n9 (by exact Ag (p:=true) rfl gg rfl rfl t) ?_;iterate 3 refine iN ?_
   refine t_5 ?_;refine t_1 ?_;refine t_5 ?_;refine n9 (by exact AM rfl gg rfl (eo func186) (u _ _ hk hRn r)) ?_;refine Ft ?_;iterate 3 refine iN ?_
   refine n9 (by exact Bu rfl gg rfl rfl g) ?_;iterate 2 refine iN ?_
   exact⟨k,by omega,_,by omega,B _ _ hk hRn r,rfl,rfl⟩
  .have t:decide (((a k:Nat):Int)=1)=false:=yB (by omega)
   iterate 4 refine iN ?_
   refine n9 (by exact B4 (p:=true) rfl gg rfl rfl j) ?_;iterate 7 refine iN ?_
   iterate 3 refine t_5 ?_
   refine OP ?_;refine J1 ?_
   refine OH ?_;refine OS ?_;refine OJ ?_;refine iN ?_;refine OE ?_;refine OG ?_;refine OF ?_;refine n9 (by exact Ag (p:=false) rfl gg rfl rfl t) ?_;iterate 5 refine iN ?_
   refine n9 (by exact Bu rfl gg rfl rfl g) ?_;iterate 2 refine iN ?_
   exact⟨k,by omega,_,by omega,A _ _ hk hRn r,rfl,rfl⟩
 |zero=>
  iterate 4 refine iN ?_
  refine n9 (by exact B4 (p:=false) rfl gg rfl rfl (by decide)) ?_;iterate 2 refine iN ?_
  refine As ?_;change VOk _ _ _ _ _;refine BP ?_
  refine t_5 ?_;refine Hl ?_;refine AD (AH results185 (Ac rfl rfl underlying146 rfl sizeOf146 rfl rfl)) ?_;intro d L;exact⟨by rw[M y hRn],L⟩
theorem gG(l:Nat->Nat->Nat)(a e m x z h:Nat)(w:World)(d F E G I:Nat->Nat)(H K _fz:Nat->Nat)(R:Nat->Nat->Prop)
 (g:l h 0=0/\l h 1=0/\l h 2=0/\l h 3=0)
 (L:∀c,Gw w c->CGy 185 #[q4y l a,q4y l m] c (q4y l x))
 (hq:∀(k:Nat) (_:k<256) (p q:Operand) (w:World),(do eqGuard .quo 3 p q (.int .i64 (((k+1:Nat):Int)-1)) (.int .i64 64);binOp .quo 3 (.int .i64 (((k+1:Nat):Int)-1)) (.int .i64 64):Sem Value).run prog w=.ok (.int .i64 (F k:Nat)) w)
 (hq4:∀k,k<256->F k<4)
 (hle:∀k,k<256->([.v (.int .u64 (l e 0:Nat)),.v (.int .u64 (l e 1:Nat)),.v (.int .u64 (l e 2:Nat)),.v (.int .u64 (l e 3:Nat))]:List SV)[F k]? =some (.v (.int .u64 (E k:Nat))))
 (hr:∀(k:Nat) (p q:Operand) (w:World),(do eqGuard .rem 3 p q (.int .i64 (((k+1:Nat):Int)-1)) (.int .i64 64);binOp .rem 3 (.int .i64 (((k+1:Nat):Int)-1)) (.int .i64 64):Sem Value).run prog w=.ok (.int .i64 (G k:Nat)) w)
 (hsr:∀(k:Nat) (p q:Operand) (w:World),(do eqGuard .shr 49 p q (.int .u64 (E k:Nat)) (.int .i64 (G k:Nat));binOp .shr 49 (.int .u64 (E k:Nat)) (.int .i64 (G k:Nat)):Sem Value).run prog w=.ok (.int .u64 (I k:Nat)) w)
 (hr2:∀(k:Nat) (p q:Operand) (w:World),(do eqGuard .rem 49 p q (.int .u64 (I k:Nat)) (.int .u64 2);binOp .rem 49 (.int .u64 (I k:Nat)) (.int .u64 2):Sem Value).run prog w=.ok (.int .u64 (d k:Nat)) w)
 (M:R 256 h)
 (hsq:∀k y,k<256->R (k+1) y-> ∀c,Gw w c->CGy 186 #[q4y l y,q4y l y,q4y l m] c (q4y l (H y)))
 (B:∀k y,k<256->R (k+1) y->d k=1-> ∀c,Gw w c->CGy 186 #[q4y l (H y),q4y l x,q4y l m] c (q4y l (K y)))
 (D:∀k y,k<256->R (k+1) y->d k=1->R k (K y))
 (C:∀k y,k<256->R (k+1) y->d k≠1->R k (H y))
 (P:∀y,R 0 y->(.agg #[.int .u64 (l y 0:Nat),.int .u64 (l y 1:Nat),.int .u64 (l y 2:Nat),.int .u64 (l y 3:Nat)]:Value)=(.agg #[.int .u64 (l z 0:Nat),.int .u64 (l z 1:Nat),.int .u64 (l z 2:Nat),.int .u64 (l z 3:Nat)]:Value)):
 CGy 163 #[q4y l a,q4y l e,q4y l m] w (q4y l z):=by
 go_enter func163,ntmps163
 refine Gg ?_
 refine E9 ?_
 iterate 2 refine t_5 ?_
 refine n9 (by exact AM rfl gg rfl (eo func185) (L)) ?_;refine Ft ?_;iterate 3 refine iN ?_
 refine Fs ?_;iterate 7 refine iN ?_
 refine Ii (λn s=> ∃(y:Nat),n<=256/\R n y/\s.fr=[.v (q4y l a),.v (q4y l e),.v (q4y l m),.p 3 0,.p 4 0,.p 5 0,.p 6 0,.p 7 0,.v (.int .i64 ((n:Int)-1)),s.fr.getD 9 default,s.fr.getD 10 default,s.fr.getD 11 default,s.fr.getD 12 default,s.fr.getD 13 default,s.fr.getD 14 default,s.fr.getD 15 default,s.fr.getD 16 default,s.fr.getD 17 default,s.fr.getD 18 default,s.fr.getD 19 default,s.fr.getD 20 default,s.fr.getD 21 default,s.fr.getD 22 default,s.fr.getD 23 default,s.fr.getD 24 default,s.fr.getD 25 default,s.fr.getD 26 default,s.fr.getD 27 default,s.fr.getD 28 default,s.fr.getD 29 default,s.fr.getD 30 default,s.fr.getD 31 default,s.fr.getD 32 default,s.fr.getD 33 default]/\s.mem=AJ [(7,([.v (.int .u64 (l y 0:Nat)),.v (.int .u64 (l y 1:Nat)),.v (.int .u64 (l y 2:Nat)),.v (.int .u64 (l y 3:Nat))],146)),(6,([.v (.int .u64 0),.v (.int .u64 0),.v (.int .u64 0),.v (.int .u64 0)],146)),(5,([.v (.int .u64 (l m 0:Nat)),.v (.int .u64 (l m 1:Nat)),.v (.int .u64 (l m 2:Nat)),.v (.int .u64 (l m 3:Nat))],146)),(4,([.v (.int .u64 (l e 0:Nat)),.v (.int .u64 (l e 1:Nat)),.v (.int .u64 (l e 2:Nat)),.v (.int .u64 (l e 3:Nat))],146)),(3,([.v (.int .u64 (l x 0:Nat)),.v (.int .u64 (l x 1:Nat)),.v (.int .u64 (l x 2:Nat)),.v (.int .u64 (l x 3:Nat))],146))]) ?_ 256 ?_;rotate_left
 .exact⟨h,yD _,M,rfl,by simp only[g];rfl⟩
 rintro n ⟨J,S⟩ ⟨y,Q,hRn,o,t⟩;obtain⟨f,N⟩:∃f:Nat->SV,J=[.v (q4y l a),.v (q4y l e),.v (q4y l m),.p 3 0,.p 4 0,.p 5 0,.p 6 0,.p 7 0,.v (.int .i64 ((n:Int)-1)),f 9,f 10,f 11,f 12,f 13,f 14,f 15,f 16,f 17,f 18,f 19,f 20,f 21,f 22,f 23,f 24,f 25,f 26,f 27,f 28,f 29,f 30,f 31,f 32,f 33]:=⟨λi=>J.getD i default,o⟩
 clear o;simp only at t;subst N t;cases n with
 |succ k=>
  have hk:k<256:=by omega
  have r:decide ((0:Int)<=((k+1:Nat):Int)-1)=true:=yE (by omega);have j:IntKind.i64.wrap (((k+1:Nat):Int)-1-1)=(k:Int)-1:=by rw[Ah (by omega) (by omega)];omega
  by_cases u:d k=1
  .have A:decide (((d k:Nat):Int)=1)=true:=yE (by omega)
   iterate 4 refine iN ?_
   refine n9 (by exact B4 (p:=true) rfl gg rfl rfl r) ?_;iterate 7 refine iN ?_
   iterate 3 refine t_5 ?_
   refine OP ?_;refine J1 ?_
   refine OH ?_;refine OS ?_;refine OJ ?_;refine iN ?_;refine OE ?_;refine OG ?_;refine OF ?_;refine n9 (by exact Ag (p:=true) rfl gg rfl rfl A) ?_;iterate 3 refine iN ?_
   iterate 3 refine t_5 ?_
   refine n9 (by exact AM rfl gg rfl (eo func186) (B _ _ hk hRn u)) ?_;refine Ft ?_;iterate 3 refine iN ?_
   refine n9 (by exact Bu rfl gg rfl rfl j) ?_;iterate 2 refine iN ?_
   exact⟨k,by omega,_,by omega,D _ _ hk hRn u,rfl,rfl⟩
  .have A:decide (((d k:Nat):Int)=1)=false:=yB (by omega)
   iterate 4 refine iN ?_
   refine n9 (by exact B4 (p:=true) rfl gg rfl rfl r) ?_;iterate 7 refine iN ?_
   iterate 3 refine t_5 ?_
   refine OP ?_;refine J1 ?_
   refine OH ?_;refine OS ?_;refine OJ ?_;refine iN ?_;refine OE ?_;refine OG ?_;refine OF ?_;refine n9 (by exact Ag (p:=false) rfl gg rfl rfl A) ?_;iterate 5 refine iN ?_
   refine n9 (by exact Bu rfl gg rfl rfl j) ?_;iterate 2 refine iN ?_
   exact⟨k,by omega,_,by omega,C _ _ hk hRn u,rfl,rfl⟩
 |zero=>
  iterate 4 refine iN ?_
  refine n9 (by exact B4 (p:=false) rfl gg rfl rfl (by decide)) ?_;iterate 2 refine iN ?_
  refine As ?_;change VOk _ _ _ _ _;refine BP ?_
  refine t_5 ?_;refine Hl ?_;refine AD (AH results163 (Ac rfl rfl underlying146 rfl sizeOf146 rfl rfl)) ?_;intro c O;exact⟨by rw[P y hRn],O⟩
theorem eZ(a c d e g h i j o p q r k l m n:Nat)(w:World)
 (s:∀w:World,(callFunc 171 #[.int .u64 (a:Nat),.int .u64 (g:Nat),.int .u64 0]).run prog w=.ok (.value (.tuple #[.int .u64 (o:Nat),.int .u64 (k:Nat)])) w)
 (t:∀w:World,(callFunc 171 #[.int .u64 (c:Nat),.int .u64 (h:Nat),.int .u64 (k:Nat)]).run prog w=.ok (.value (.tuple #[.int .u64 (p:Nat),.int .u64 (l:Nat)])) w)
 (u:∀w:World,(callFunc 171 #[.int .u64 (d:Nat),.int .u64 (i:Nat),.int .u64 (l:Nat)]).run prog w=.ok (.value (.tuple #[.int .u64 (q:Nat),.int .u64 (m:Nat)])) w)
 (v:∀w:World,(callFunc 171 #[.int .u64 (e:Nat),.int .u64 (j:Nat),.int .u64 (m:Nat)]).run prog w=.ok (.value (.tuple #[.int .u64 (r:Nat),.int .u64 (n:Nat)])) w):
  CGy 129 #[A4y a c d e,A4y g h i j] w (.tuple #[A4y o p q r,.int .u64 (n:Nat)]):=by
 go_enter func129,ntmps129
 refine E8 ?_
 refine J2 ?_
 refine GY ?_;iterate 11 refine iN ?_
 refine Br 5 ?_
 iterate 4
  refine BP ?_
  refine t_1 ?_;iterate 14 refine iN ?_
  refine t_8 ?_;refine t_4 ?_;refine iN ?_;refine t_8 ?_;refine t_4 ?_;refine iN ?_;refine n9 (by exact G1 rfl gg rfl (by intro w;first|exact s w|exact t w|exact u w|exact v w)) ?_;iterate 3 refine iN ?_
  refine t_8 ?_;refine Hj ?_
  refine Dx ?_
 refine BP ?_
 refine FB ?_
 refine As ?_;refine BP ?_
 refine t_3 ?_;refine iN ?_;refine HN ?_
 refine AG ?_;refine AD (Av results129 (Ac rfl rfl y8 rfl zD rfl rfl) (AF rfl)) ?_;intro y x;exact⟨rfl,x⟩
theorem rv(a c d e g h i j o p q r k l m n:Nat)(w:World)
 (s:∀w:World,(callFunc 173 #[.int .u64 (a:Nat),.int .u64 (g:Nat),.int .u64 0]).run prog w=.ok (.value (.tuple #[.int .u64 (o:Nat),.int .u64 (k:Nat)])) w)
 (t:∀w:World,(callFunc 173 #[.int .u64 (c:Nat),.int .u64 (h:Nat),.int .u64 (k:Nat)]).run prog w=.ok (.value (.tuple #[.int .u64 (p:Nat),.int .u64 (l:Nat)])) w)
 (u:∀w:World,(callFunc 173 #[.int .u64 (d:Nat),.int .u64 (i:Nat),.int .u64 (l:Nat)]).run prog w=.ok (.value (.tuple #[.int .u64 (q:Nat),.int .u64 (m:Nat)])) w)
 (v:∀w:World,(callFunc 173 #[.int .u64 (e:Nat),.int .u64 (j:Nat),.int .u64 (m:Nat)]).run prog w=.ok (.value (.tuple #[.int .u64 (r:Nat),.int .u64 (n:Nat)])) w):
  CGy 159 #[A4y a c d e,A4y g h i j] w (.tuple #[A4y o p q r,.int .u64 (n:Nat)]):=by
 go_enter func159,ntmps159
 refine E8 ?_
 refine J2 ?_
 refine GY ?_;iterate 11 refine iN ?_
 refine Br 5 ?_
 iterate 4
  refine BP ?_
  refine t_1 ?_;iterate 14 refine iN ?_
  refine t_8 ?_;refine t_4 ?_;refine iN ?_;refine t_8 ?_;refine t_4 ?_;refine iN ?_;refine n9 (by exact G1 rfl gg rfl (by intro w;first|exact s w|exact t w|exact u w|exact v w)) ?_;iterate 3 refine iN ?_
  refine t_8 ?_;refine Hj ?_
  refine Dx ?_
 refine BP ?_
 refine FB ?_
 refine As ?_;refine BP ?_
 refine t_3 ?_;refine iN ?_;refine HN ?_
 refine AG ?_;refine AD (Av results159 (Ac rfl rfl y8 rfl zD rfl rfl) (AF rfl)) ?_;intro y x;exact⟨rfl,x⟩
theorem fN(b:Nat)(h i k l a c d e m n o p:Nat)(w:World)(r:∀(j:Nat) (v:Value),[.int .u64 (h:Nat),.int .u64 (i:Nat),.int .u64 (k:Nat),.int .u64 (l:Nat)][j]? =some v->w.cell? ⟨b,0+j,none⟩=some v)
 (hs:∀g,Gw w g->CGy 129 #[A4y a c d e,A4y h i k l] g (.tuple #[A4y m n o p,.int .u64 1])):
 CGy 160 #[.pointer (some ⟨b,0,none⟩),A4y a c d e,.int .u64 0] w (A4y a c d e):=by
 go_enter func160,ntmps160
 refine C0 ?_
 refine HR ?_
 refine t_3 ?_;iterate 2 refine iN ?_
 refine Ec ?_;refine t_3 ?_;refine HO ?_
 refine GV ?_
 refine t_1 ?_;refine Dy ?_;refine Hn ?_;refine EQ ?_
 refine t_3 ?_;refine Cw ?_;refine AD (AH results160 (Ac rfl rfl y8 rfl zD rfl rfl)) ?_;intro g q;exact⟨rfl,q⟩
theorem fO(b:Nat)(m n o p c d e g h i k l:Nat)(w:World)(r:∀(j:Nat) (v:Value),[.int .u64 (m:Nat),.int .u64 (n:Nat),.int .u64 (o:Nat),.int .u64 (p:Nat)][j]? =some v->w.cell? ⟨b,0+j,none⟩=some v)
 (hs:∀a,Gw w a->CGy 129 #[A4y c d e g,A4y m n o p] a (.tuple #[A4y h i k l,.int .u64 0])):
 CGy 160 #[.pointer (some ⟨b,0,none⟩),A4y c d e g,.int .u64 0] w (A4y h i k l):=by
 go_enter func160,ntmps160
 refine C0 ?_
 refine HR ?_
 refine t_3 ?_;iterate 2 refine iN ?_
 refine Ec ?_;refine t_3 ?_;refine HO ?_
 refine GV ?_
 refine t_1 ?_;refine Dy ?_;refine Hn ?_;refine Fo ?_
 refine t_3 ?_;refine Cw ?_;refine AD (AH results160 (Ac rfl rfl y8 rfl zD rfl rfl)) ?_;intro a q;exact⟨rfl,q⟩
theorem fL(b:Nat)(m n o p c d e g h i k l:Nat)(w:World)(r:∀(j:Nat) (v:Value),[.int .u64 (m:Nat),.int .u64 (n:Nat),.int .u64 (o:Nat),.int .u64 (p:Nat)][j]? =some v->w.cell? ⟨b,0+j,none⟩=some v)
 (hs:∀a,Gw w a->CGy 129 #[A4y c d e g,A4y m n o p] a (.tuple #[A4y h i k l,.int .u64 0])):
 CGy 160 #[.pointer (some ⟨b,0,none⟩),A4y c d e g,.int .u64 1] w (A4y h i k l):=by
 go_enter func160,ntmps160
 refine C0 ?_
 refine HR ?_
 refine t_3 ?_;iterate 2 refine iN ?_
 refine Ec ?_;refine t_3 ?_;refine HO ?_
 refine GV ?_
 refine t_1 ?_;refine Dy ?_;refine Hn ?_;refine Fo ?_
 refine t_3 ?_;refine Cw ?_;refine AD (AH results160 (Ac rfl rfl y8 rfl zD rfl rfl)) ?_;intro a q;exact⟨rfl,q⟩
theorem fJ(b:Nat)(m n o p c d e g h i k l:Nat)(w:World)(r:∀(j:Nat) (v:Value),[.int .u64 (m:Nat),.int .u64 (n:Nat),.int .u64 (o:Nat),.int .u64 (p:Nat)][j]? =some v->w.cell? ⟨b,0+j,none⟩=some v)
 (hs:∀a,Gw w a->CGy 129 #[A4y c d e g,A4y m n o p] a (.tuple #[A4y h i k l,.int .u64 1])):
 CGy 160 #[.pointer (some ⟨b,0,none⟩),A4y c d e g,.int .u64 1] w (A4y h i k l):=by
 go_enter func160,ntmps160
 refine C0 ?_
 refine HR ?_
 refine t_3 ?_;iterate 2 refine iN ?_
 refine Ec ?_;refine t_3 ?_;refine HO ?_
 refine GV ?_
 refine t_1 ?_;refine Dy ?_;refine Hn ?_;refine Fo ?_
 refine t_3 ?_;refine Cw ?_;refine AD (AH results160 (Ac rfl rfl y8 rfl zD rfl rfl)) ?_;intro a q;exact⟨rfl,q⟩
theorem mH(c d e g h i j k l m n o:Nat)(w:World)
 (hs:∀a,Gw w a->CGy 129 #[A4y c d e g,A4y h i j k] a (.tuple #[A4y l m n o,.int .u64 0])):
 CGy 124 #[A4y c d e g,A4y h i j k] w (.bool false):=by
 go_enter func124,ntmps124
 refine Dl ?_;iterate 8 refine iN ?_
 iterate 2 refine t_3 ?_
 refine HO ?_
 refine Fp ?_;iterate 5 refine iN ?_
 refine Dx ?_
 refine AG ?_;refine AD (AH results124 (AF rfl)) ?_;intro a p;exact⟨rfl,p⟩
theorem mG(c d e g h i j k l m n o:Nat)(w:World)
 (hs:∀a,Gw w a->CGy 129 #[A4y c d e g,A4y h i j k] a (.tuple #[A4y l m n o,.int .u64 1])):
 CGy 124 #[A4y c d e g,A4y h i j k] w (.bool true):=by
 go_enter func124,ntmps124
 refine Dl ?_;iterate 8 refine iN ?_
 iterate 2 refine t_3 ?_
 refine HO ?_
 refine Fp ?_;iterate 5 refine iN ?_
 refine Dx ?_
 refine AG ?_;refine AD (AH results124 (AF rfl)) ?_;intro a p;exact⟨rfl,p⟩
theorem gU(b:Nat)(h i k l c d e g m n o p q r s t:Nat)(w:World)(z:∀(j:Nat) (v:Value),[.int .u64 (h:Nat),.int .u64 (i:Nat),.int .u64 (k:Nat),.int .u64 (l:Nat)][j]? =some v->w.cell? ⟨b,9+j,none⟩=some v)
 (u:∀a,Gw w a->CGy 131 #[.pointer (some ⟨b,0,none⟩),A4y c d e g,A4y h i k l] a (A4y m n o p))
 (x:∀a,Gw w a->CGy 131 #[.pointer (some ⟨b,0,none⟩),A4y m n o p,.agg #[.int .u64 1,.int .u64 0,.int .u64 0,.int .u64 0]] a (A4y q r s t)):
 CGy 88 #[.pointer (some ⟨b,0,none⟩),A4y c d e g] w (A4y q r s t):=by
 go_enter func88,ntmps88
 refine C0 ?_
 refine Hk ?_
 refine JM ?_
 refine t_3 ?_;iterate 2 refine iN ?_
 refine Ec ?_;refine t_3 ?_;refine n9 (by exact AM rfl gg rfl (eo func131) u) ?_;refine t_1 ?_;refine n9 (by exact AM rfl gg rfl (eo func131) x) ?_;refine Cw ?_;refine AD (AH results88 (Ac rfl rfl y8 rfl zD rfl rfl)) ?_;intro a y;exact⟨rfl,y⟩
theorem lX(b:Nat)(m n o p c d e g h i k l q r s t u x y z A B C D:Nat)(w:World)(H:∀(j:Nat) (v:Value),[.int .u64 (m:Nat),.int .u64 (n:Nat),.int .u64 (o:Nat),.int .u64 (p:Nat)][j]? =some v->w.cell? ⟨b,9+j,none⟩=some v)
 (E:∀a,Gw w a->CGy 131 #[.pointer (some ⟨b,0,none⟩),A4y c d e g,A4y m n o p] a (A4y q r s t))
 (h2:∀a,Gw w a->CGy 88 #[.pointer (some ⟨b,0,none⟩),A4y h i k l] a (A4y u x y z))
 (F:∀a,Gw w a->CGy 131 #[.pointer (some ⟨b,0,none⟩),A4y q r s t,A4y u x y z] a (A4y A B C D)):
 CGy 83 #[.pointer (some ⟨b,0,none⟩),A4y c d e g,A4y h i k l] w (A4y A B C D):=by
 go_enter zO,ntmps83
 refine E8 ?_
 refine Hk ?_
 refine JM ?_
 refine t_3 ?_;iterate 2 refine iN ?_
 refine Ec ?_;refine t_3 ?_;refine n9 (by exact AM rfl gg rfl (eo func131) E) ?_;refine iN ?_;refine t_3 ?_;refine Lr ?_;refine n9 (by exact AM rfl gg rfl (eo func131) F) ?_;refine Cw ?_;refine AD (AH results83 (Ac rfl rfl y8 rfl zD rfl rfl)) ?_;intro a G;exact⟨rfl,G⟩
theorem lq(b:Nat)(c d e g h i j k p q r s t u v x l m n o y z A B:Nat)(w:World)
 (h1:∀a,Gw w a->CGy 88 #[.pointer (some ⟨b,0,none⟩),A4y c d e g] a (A4y p q r s))
 (h2:∀a,Gw w a->CGy 88 #[.pointer (some ⟨b,0,none⟩),A4y h i j k] a (A4y t u v x))
 (C:∀a,Gw w a->CGy 159 #[A4y p q r s,A4y t u v x] a (.tuple #[A4y l m n o,.int .u64 0]))
 (D:∀a,Gw w a->CGy 160 #[.pointer (some ⟨b,0,none⟩),A4y l m n o,.int .u64 0] a (A4y y z A B)):
 CGy 106 #[.pointer (some ⟨b,0,none⟩),A4y c d e g,A4y h i j k] w (A4y y z A B):=by
 go_enter func106,ntmps106
 refine E8 ?_
 refine Hk ?_
 refine Bv ?_
 refine t_3 ?_;refine OK ?_;refine iN ?_;refine t_3 ?_;refine Lr ?_;refine n9 (by exact AM rfl gg rfl (eo func159) C) ?_;iterate 3 refine iN ?_
 refine Fp ?_;iterate 5 refine iN ?_
 refine t_3 ?_;refine iN ?_;refine n9 (by exact AM rfl gg rfl (eo func160) D) ?_;refine Cw ?_;refine AD (AH results106 (Ac rfl rfl y8 rfl zD rfl rfl)) ?_;intro a E;exact⟨rfl,E⟩
theorem lg(b:Nat)(r s t u h i l m n o p q x y z A B C D E c d e g H I J K:Nat)(k:Nat)(w:World)(_hm:∀(j:Nat) (v:Value),[.int .u64 (r:Nat),.int .u64 (s:Nat),.int .u64 (t:Nat),.int .u64 (u:Nat)][j]? =some v->w.cell? ⟨b,0+j,none⟩=some v)
 (h1:∀a,Gw w a->CGy 88 #[.pointer (some ⟨b,0,none⟩),A4y h i l m] a (A4y x y z A))
 (h2:∀a,Gw w a->CGy 88 #[.pointer (some ⟨b,0,none⟩),A4y n o p q] a (A4y B C D E))
 (F:∀a,Gw w a->CGy 129 #[A4y x y z A,A4y B C D E] a (.tuple #[A4y c d e g,.int .u64 0]))
 (_h4:∀a,Gw w a->CGy 159 #[A4y c d e g,A4y r s t u] a (.tuple #[A4y H I J K,.int .u64 (k:Nat)])):
 CGy 130 #[.pointer (some ⟨b,0,none⟩),A4y h i l m,A4y n o p q] w (A4y c d e g):=by
 go_enter func130,ntmps130
 refine E8 ?_
 refine Hk ?_
 refine Bv ?_
 refine t_3 ?_;refine OK ?_;refine iN ?_;refine t_3 ?_;refine Lr ?_;refine n9 (by exact AM rfl gg rfl (eo func129) F) ?_;iterate 3 refine iN ?_
 refine GV ?_
 refine Fo ?_
 refine t_3 ?_;refine Cw ?_;refine AD (AH results130 (Ac rfl rfl y8 rfl zD rfl rfl)) ?_;intro a G;exact⟨rfl,G⟩
theorem lp(b:Nat)(c d e g h i j k p q r s t u v x l m n o y z A B:Nat)(w:World)
 (h1:∀a,Gw w a->CGy 88 #[.pointer (some ⟨b,0,none⟩),A4y c d e g] a (A4y p q r s))
 (h2:∀a,Gw w a->CGy 88 #[.pointer (some ⟨b,0,none⟩),A4y h i j k] a (A4y t u v x))
 (C:∀a,Gw w a->CGy 159 #[A4y p q r s,A4y t u v x] a (.tuple #[A4y l m n o,.int .u64 1]))
 (D:∀a,Gw w a->CGy 160 #[.pointer (some ⟨b,0,none⟩),A4y l m n o,.int .u64 1] a (A4y y z A B)):
 CGy 106 #[.pointer (some ⟨b,0,none⟩),A4y c d e g,A4y h i j k] w (A4y y z A B):=by
 go_enter func106,ntmps106
 refine E8 ?_
 refine Hk ?_
 refine Bv ?_
 refine t_3 ?_;refine OK ?_;refine iN ?_;refine t_3 ?_;refine Lr ?_;refine n9 (by exact AM rfl gg rfl (eo func159) C) ?_;iterate 3 refine iN ?_
 refine Fp ?_;iterate 5 refine iN ?_
 refine t_3 ?_;refine iN ?_;refine n9 (by exact AM rfl gg rfl (eo func160) D) ?_;refine Cw ?_;refine AD (AH results106 (Ac rfl rfl y8 rfl zD rfl rfl)) ?_;intro a E;exact⟨rfl,E⟩
theorem lf(b:Nat)(n o p q c d e g h i l m x y z A B C D E r s t u F G H I:Nat)(k:Nat)(w:World)(M:∀(j:Nat) (v:Value),[.int .u64 (n:Nat),.int .u64 (o:Nat),.int .u64 (p:Nat),.int .u64 (q:Nat)][j]? =some v->w.cell? ⟨b,0+j,none⟩=some v)
 (h1:∀a,Gw w a->CGy 88 #[.pointer (some ⟨b,0,none⟩),A4y c d e g] a (A4y x y z A))
 (h2:∀a,Gw w a->CGy 88 #[.pointer (some ⟨b,0,none⟩),A4y h i l m] a (A4y B C D E))
 (J:∀a,Gw w a->CGy 129 #[A4y x y z A,A4y B C D E] a (.tuple #[A4y r s t u,.int .u64 1]))
 (K:∀a,Gw w a->CGy 159 #[A4y r s t u,A4y n o p q] a (.tuple #[A4y F G H I,.int .u64 (k:Nat)])):
 CGy 130 #[.pointer (some ⟨b,0,none⟩),A4y c d e g,A4y h i l m] w (A4y F G H I):=by
 go_enter func130,ntmps130
 refine E8 ?_
 refine Hk ?_
 refine Bv ?_
 refine t_3 ?_;refine OK ?_;refine iN ?_;refine t_3 ?_;refine Lr ?_;refine n9 (by exact AM rfl gg rfl (eo func129) J) ?_;iterate 3 refine iN ?_
 refine GV ?_
 refine FB ?_
 refine t_3 ?_;iterate 2 refine iN ?_
 refine Ec ?_;refine t_3 ?_;refine n9 (by exact AM rfl gg rfl (eo func159) K) ?_;iterate 3 refine iN ?_
 refine t_9 ?_;iterate 3 refine iN ?_
 refine t_3 ?_;refine Cw ?_;refine AD (AH results130 (Ac rfl rfl y8 rfl zD rfl rfl)) ?_;intro a L;exact⟨rfl,L⟩
end Go.Proofs.YtafbhakmkbehiaaGreatDoor
