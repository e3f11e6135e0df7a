import Derived.Test.YtafbhakmkbehiaaGreatDoorZ2
open Go.Proofs.Tryz
set_option maxHeartbeats 4000000
set_option maxRecDepth 100000
namespace Go.Proofs.YtafbhakmkbehiaaGreatDoor
open Go.RowKit Go.Toll
theorem lE(orr:Nat→Nat→Nat)(cv:Nat→Nat)(shl:Nat→Int→Nat)(c0 c1 c2 c3 c4 c5 c6 c7 c8 c9 c10 c11 c12 c13 c14 c15 c16 c17 c18 c19 c20 c21 c22 c23 c24 c25 c26 c27 c28 c29 c30 c31:Nat)(w:World)
 (hcv: ∀(x:Nat) (w:World),(convert 5 49 (.int .u8 (x:Nat))).run prog w= .ok (.int .u64 (cv x:Nat)) w)
 (hor: ∀(x y:Nat) (p q:Operand) (w:World),(do eqGuard .or 49 p q (.int .u64 (x:Nat)) (.int .u64 (y:Nat));binOp .or 49 (.int .u64 (x:Nat)) (.int .u64 (y:Nat)):Sem Value).run prog w= .ok (.int .u64 (orr x y:Nat)) w)
 (_hor0: ∀(y:Nat) (p q:Operand) (w:World),(do eqGuard .or 49 p q (.int .u64 0) (.int .u64 (y:Nat));binOp .or 49 (.int .u64 0) (.int .u64 (y:Nat)):Sem Value).run prog w= .ok (.int .u64 (orr 0 y:Nat)) w)
 (hshl: ∀(x:Nat) (s:Int) (_:0≤s) (_:s<64) (p q:Operand) (w:World),(do eqGuard .shl 49 p q (.int .u64 (x:Nat)) (.int .i64 s);binOp .shl 49 (.int .u64 (x:Nat)) (.int .i64 s):Sem Value).run prog w= .ok (.int .u64 (shl x s:Nat)) w):
 Calls prog 82 #[.agg #[.int .u8 (c0:Nat),.int .u8 (c1:Nat),.int .u8 (c2:Nat),.int .u8 (c3:Nat),.int .u8 (c4:Nat),.int .u8 (c5:Nat),.int .u8 (c6:Nat),.int .u8 (c7:Nat),.int .u8 (c8:Nat),.int .u8 (c9:Nat),.int .u8 (c10:Nat),.int .u8 (c11:Nat),.int .u8 (c12:Nat),.int .u8 (c13:Nat),.int .u8 (c14:Nat),.int .u8 (c15:Nat),.int .u8 (c16:Nat),.int .u8 (c17:Nat),.int .u8 (c18:Nat),.int .u8 (c19:Nat),.int .u8 (c20:Nat),.int .u8 (c21:Nat),.int .u8 (c22:Nat),.int .u8 (c23:Nat),.int .u8 (c24:Nat),.int .u8 (c25:Nat),.int .u8 (c26:Nat),.int .u8 (c27:Nat),.int .u8 (c28:Nat),.int .u8 (c29:Nat),.int .u8 (c30:Nat),.int .u8 (c31:Nat)]] w fun e w'=>e= .returned (.agg #[.int .u64 ((orr (orr (orr (orr (orr (orr (orr (orr 0 (shl (cv c24) 56)) (shl (cv c25) 48)) (shl (cv c26) 40)) (shl (cv c27) 32)) (shl (cv c28) 24)) (shl (cv c29) 16)) (shl (cv c30) 8)) (shl (cv c31) 0)):Nat),.int .u64 ((orr (orr (orr (orr (orr (orr (orr (orr 0 (shl (cv c16) 56)) (shl (cv c17) 48)) (shl (cv c18) 40)) (shl (cv c19) 32)) (shl (cv c20) 24)) (shl (cv c21) 16)) (shl (cv c22) 8)) (shl (cv c23) 0)):Nat),.int .u64 ((orr (orr (orr (orr (orr (orr (orr (orr 0 (shl (cv c8) 56)) (shl (cv c9) 48)) (shl (cv c10) 40)) (shl (cv c11) 32)) (shl (cv c12) 24)) (shl (cv c13) 16)) (shl (cv c14) 8)) (shl (cv c15) 0)):Nat),.int .u64 ((orr (orr (orr (orr (orr (orr (orr (orr 0 (shl (cv c0) 56)) (shl (cv c1) 48)) (shl (cv c2) 40)) (shl (cv c3) 32)) (shl (cv c4) 24)) (shl (cv c5) 16)) (shl (cv c6) 8)) (shl (cv c7) 0)):Nat)])∧Gw w w':=by
 go_enter func82,ntmps82
 refine Dr ?_
 refine Fu ?_
 refine GR ?_
 refine VY ?_;iterate 3 refine t_k ?_
 refine Br 33 ?_
 iterate 32
  refine Bv ?_
  refine t_1 ?_;iterate 9 refine t_k ?_
  refine J2 ?_
  iterate 2 refine t_1 ?_
  refine t_8 ?_;refine t_4 ?_;refine t_k ?_;refine t_s (by exact B1 rfl gg rfl (fun w=>hcv _ w)) ?_;refine t_k ?_;iterate 3 refine t_1 ?_
  refine t_s (by exact AK rfl gg rfl rfl (fun w=>hshl _ _ (by decide) (by decide) _ _ w)) ?_;refine t_s (by first|exact AK rfl gg rfl rfl (fun w=>hor _ _ _ _ w)|exact AK rfl gg rfl rfl (fun w=>hor0 _ _ _ w)) ?_;refine t_8 ?_;refine GX ?_;iterate 2 refine t_k ?_
  refine Cw ?_
 refine Bv ?_
 refine HC ?_
 refine As ?_;refine Bv ?_
 refine t_3 ?_;refine Dy ?_;refine AD (AH results82 (Ac rfl rfl underlying147 rfl sizeOf147 rfl rfl)) ?_;intro w' hg;exact⟨rfl,hg⟩
end Go.Proofs.YtafbhakmkbehiaaGreatDoor
