import Derived.Test.YtafbhakmkbehiaaGreatDoorZ2
open Go.Proofs.Tryz
set_option maxHeartbeats 400000
set_option maxRecDepth 100000
namespace Go.Proofs.YtafbhakmkbehiaaGreatDoor
open Go.RowKit Go.Toll
theorem eZ(a0 a1 a2 a3 b0 b1 b2 b3 s0 s1 s2 s3 c0 c1 c2 c3:Nat)(w:World)
 (h0: ∀w:World,(callFunc 171 #[.int .u64 (a0:Nat),.int .u64 (b0:Nat),.int .u64 0]).run prog w= .ok (.value (.tuple #[.int .u64 (s0:Nat),.int .u64 (c0:Nat)])) w)
 (h1: ∀w:World,(callFunc 171 #[.int .u64 (a1:Nat),.int .u64 (b1:Nat),.int .u64 (c0:Nat)]).run prog w= .ok (.value (.tuple #[.int .u64 (s1:Nat),.int .u64 (c1:Nat)])) w)
 (h2: ∀w:World,(callFunc 171 #[.int .u64 (a2:Nat),.int .u64 (b2:Nat),.int .u64 (c1:Nat)]).run prog w= .ok (.value (.tuple #[.int .u64 (s2:Nat),.int .u64 (c2:Nat)])) w)
 (h3: ∀w:World,(callFunc 171 #[.int .u64 (a3:Nat),.int .u64 (b3:Nat),.int .u64 (c2:Nat)]).run prog w= .ok (.value (.tuple #[.int .u64 (s3:Nat),.int .u64 (c3:Nat)])) w):
  Calls prog 129 #[.agg #[.int .u64 (a0:Nat),.int .u64 (a1:Nat),.int .u64 (a2:Nat),.int .u64 (a3:Nat)],.agg #[.int .u64 (b0:Nat),.int .u64 (b1:Nat),.int .u64 (b2:Nat),.int .u64 (b3:Nat)]] w fun e w'=>e= .returned (.tuple #[.agg #[.int .u64 (s0:Nat),.int .u64 (s1:Nat),.int .u64 (s2:Nat),.int .u64 (s3:Nat)],.int .u64 (c3:Nat)])∧Gw w w':=by
 go_enter func129,ntmps129
 refine E2 ?_
 refine GR ?_
 refine GY ?_;iterate 11 refine t_k ?_
 refine Br 5 ?_
 iterate 4
  refine Bv ?_
  refine t_1 ?_;iterate 14 refine t_k ?_
  refine t_8 ?_;refine t_4 ?_;refine t_k ?_;refine t_8 ?_;refine t_4 ?_;refine t_k ?_;refine t_s (by exact G1 rfl gg rfl (by intro w;first|exact h0 w|exact h1 w|exact h2 w|exact h3 w)) ?_;iterate 3 refine t_k ?_
  refine t_8 ?_;refine GU ?_
  refine Cw ?_
 refine Bv ?_
 refine HC ?_
 refine As ?_;refine Bv ?_
 refine t_3 ?_;refine t_k ?_;refine Fs ?_
 refine AG ?_;refine AD (Av results129 (Ac rfl rfl underlying147 rfl sizeOf147 rfl rfl) (AF rfl)) ?_;intro w' hg;exact⟨rfl,hg⟩
theorem rv(a0 a1 a2 a3 b0 b1 b2 b3 s0 s1 s2 s3 c0 c1 c2 c3:Nat)(w:World)
 (h0: ∀w:World,(callFunc 173 #[.int .u64 (a0:Nat),.int .u64 (b0:Nat),.int .u64 0]).run prog w= .ok (.value (.tuple #[.int .u64 (s0:Nat),.int .u64 (c0:Nat)])) w)
 (h1: ∀w:World,(callFunc 173 #[.int .u64 (a1:Nat),.int .u64 (b1:Nat),.int .u64 (c0:Nat)]).run prog w= .ok (.value (.tuple #[.int .u64 (s1:Nat),.int .u64 (c1:Nat)])) w)
 (h2: ∀w:World,(callFunc 173 #[.int .u64 (a2:Nat),.int .u64 (b2:Nat),.int .u64 (c1:Nat)]).run prog w= .ok (.value (.tuple #[.int .u64 (s2:Nat),.int .u64 (c2:Nat)])) w)
 (h3: ∀w:World,(callFunc 173 #[.int .u64 (a3:Nat),.int .u64 (b3:Nat),.int .u64 (c2:Nat)]).run prog w= .ok (.value (.tuple #[.int .u64 (s3:Nat),.int .u64 (c3:Nat)])) w):
  Calls prog 159 #[.agg #[.int .u64 (a0:Nat),.int .u64 (a1:Nat),.int .u64 (a2:Nat),.int .u64 (a3:Nat)],.agg #[.int .u64 (b0:Nat),.int .u64 (b1:Nat),.int .u64 (b2:Nat),.int .u64 (b3:Nat)]] w fun e w'=>e= .returned (.tuple #[.agg #[.int .u64 (s0:Nat),.int .u64 (s1:Nat),.int .u64 (s2:Nat),.int .u64 (s3:Nat)],.int .u64 (c3:Nat)])∧Gw w w':=by
 go_enter func159,ntmps159
 refine E2 ?_
 refine GR ?_
 refine GY ?_;iterate 11 refine t_k ?_
 refine Br 5 ?_
 iterate 4
  refine Bv ?_
  refine t_1 ?_;iterate 14 refine t_k ?_
  refine t_8 ?_;refine t_4 ?_;refine t_k ?_;refine t_8 ?_;refine t_4 ?_;refine t_k ?_;refine t_s (by exact G1 rfl gg rfl (by intro w;first|exact h0 w|exact h1 w|exact h2 w|exact h3 w)) ?_;iterate 3 refine t_k ?_
  refine t_8 ?_;refine GU ?_
  refine Cw ?_
 refine Bv ?_
 refine HC ?_
 refine As ?_;refine Bv ?_
 refine t_3 ?_;refine t_k ?_;refine Fs ?_
 refine AG ?_;refine AD (Av results159 (Ac rfl rfl underlying147 rfl sizeOf147 rfl rfl) (AF rfl)) ?_;intro w' hg;exact⟨rfl,hg⟩
theorem fN(b:Nat)(m0 m1 m2 m3 a0 a1 a2 a3 d0 d1 d2 d3:Nat)(w:World)(hm: ∀(j:Nat) (v:Value),[.int .u64 (m0:Nat),.int .u64 (m1:Nat),.int .u64 (m2:Nat),.int .u64 (m3:Nat)][j]? =some v→w.cell? ⟨b,0+j,none⟩=some v)
 (hs: ∀w',Gw w w'→Calls prog 129 #[.agg #[.int .u64 (a0:Nat),.int .u64 (a1:Nat),.int .u64 (a2:Nat),.int .u64 (a3:Nat)],.agg #[.int .u64 (m0:Nat),.int .u64 (m1:Nat),.int .u64 (m2:Nat),.int .u64 (m3:Nat)]] w' fun e w''=>e= .returned (.tuple #[.agg #[.int .u64 (d0:Nat),.int .u64 (d1:Nat),.int .u64 (d2:Nat),.int .u64 (d3:Nat)],.int .u64 1])∧Gw w' w''):
 Calls prog 160 #[.pointer (some ⟨b,0,none⟩),.agg #[.int .u64 (a0:Nat),.int .u64 (a1:Nat),.int .u64 (a2:Nat),.int .u64 (a3:Nat)],.int .u64 0] w fun e w'=>e= .returned (.agg #[.int .u64 (a0:Nat),.int .u64 (a1:Nat),.int .u64 (a2:Nat),.int .u64 (a3:Nat)])∧Gw w w':=by
 go_enter func160,ntmps160
 refine Dr ?_
 refine Fu ?_
 refine t_3 ?_;iterate 2 refine t_k ?_
 refine Ec ?_;refine t_3 ?_;refine Ft ?_
 refine FD ?_
 refine t_1 ?_;refine Eu ?_;refine Hn ?_;refine D9 ?_
 refine t_3 ?_;refine Dy ?_;refine AD (AH results160 (Ac rfl rfl underlying147 rfl sizeOf147 rfl rfl)) ?_;intro w' hg;exact⟨rfl,hg⟩
theorem fO(b:Nat)(m0 m1 m2 m3 a0 a1 a2 a3 d0 d1 d2 d3:Nat)(w:World)(hm: ∀(j:Nat) (v:Value),[.int .u64 (m0:Nat),.int .u64 (m1:Nat),.int .u64 (m2:Nat),.int .u64 (m3:Nat)][j]? =some v→w.cell? ⟨b,0+j,none⟩=some v)
 (hs: ∀w',Gw w w'→Calls prog 129 #[.agg #[.int .u64 (a0:Nat),.int .u64 (a1:Nat),.int .u64 (a2:Nat),.int .u64 (a3:Nat)],.agg #[.int .u64 (m0:Nat),.int .u64 (m1:Nat),.int .u64 (m2:Nat),.int .u64 (m3:Nat)]] w' fun e w''=>e= .returned (.tuple #[.agg #[.int .u64 (d0:Nat),.int .u64 (d1:Nat),.int .u64 (d2:Nat),.int .u64 (d3:Nat)],.int .u64 0])∧Gw w' w''):
 Calls prog 160 #[.pointer (some ⟨b,0,none⟩),.agg #[.int .u64 (a0:Nat),.int .u64 (a1:Nat),.int .u64 (a2:Nat),.int .u64 (a3:Nat)],.int .u64 0] w fun e w'=>e= .returned (.agg #[.int .u64 (d0:Nat),.int .u64 (d1:Nat),.int .u64 (d2:Nat),.int .u64 (d3:Nat)])∧Gw w w':=by
 go_enter func160,ntmps160
 refine Dr ?_
 refine Fu ?_
 refine t_3 ?_;iterate 2 refine t_k ?_
 refine Ec ?_;refine t_3 ?_;refine Ft ?_
 refine FD ?_
 refine t_1 ?_;refine Eu ?_;refine Hn ?_;refine J2 ?_
 refine t_3 ?_;refine Dy ?_;refine AD (AH results160 (Ac rfl rfl underlying147 rfl sizeOf147 rfl rfl)) ?_;intro w' hg;exact⟨rfl,hg⟩
theorem fL(b:Nat)(m0 m1 m2 m3 a0 a1 a2 a3 d0 d1 d2 d3:Nat)(w:World)(hm: ∀(j:Nat) (v:Value),[.int .u64 (m0:Nat),.int .u64 (m1:Nat),.int .u64 (m2:Nat),.int .u64 (m3:Nat)][j]? =some v→w.cell? ⟨b,0+j,none⟩=some v)
 (hs: ∀w',Gw w w'→Calls prog 129 #[.agg #[.int .u64 (a0:Nat),.int .u64 (a1:Nat),.int .u64 (a2:Nat),.int .u64 (a3:Nat)],.agg #[.int .u64 (m0:Nat),.int .u64 (m1:Nat),.int .u64 (m2:Nat),.int .u64 (m3:Nat)]] w' fun e w''=>e= .returned (.tuple #[.agg #[.int .u64 (d0:Nat),.int .u64 (d1:Nat),.int .u64 (d2:Nat),.int .u64 (d3:Nat)],.int .u64 0])∧Gw w' w''):
 Calls prog 160 #[.pointer (some ⟨b,0,none⟩),.agg #[.int .u64 (a0:Nat),.int .u64 (a1:Nat),.int .u64 (a2:Nat),.int .u64 (a3:Nat)],.int .u64 1] w fun e w'=>e= .returned (.agg #[.int .u64 (d0:Nat),.int .u64 (d1:Nat),.int .u64 (d2:Nat),.int .u64 (d3:Nat)])∧Gw w w':=by
 go_enter func160,ntmps160
 refine Dr ?_
 refine Fu ?_
 refine t_3 ?_;iterate 2 refine t_k ?_
 refine Ec ?_;refine t_3 ?_;refine Ft ?_
 refine FD ?_
 refine t_1 ?_;refine Eu ?_;refine Hn ?_;refine J2 ?_
 refine t_3 ?_;refine Dy ?_;refine AD (AH results160 (Ac rfl rfl underlying147 rfl sizeOf147 rfl rfl)) ?_;intro w' hg;exact⟨rfl,hg⟩
theorem fJ(b:Nat)(m0 m1 m2 m3 a0 a1 a2 a3 d0 d1 d2 d3:Nat)(w:World)(hm: ∀(j:Nat) (v:Value),[.int .u64 (m0:Nat),.int .u64 (m1:Nat),.int .u64 (m2:Nat),.int .u64 (m3:Nat)][j]? =some v→w.cell? ⟨b,0+j,none⟩=some v)
 (hs: ∀w',Gw w w'→Calls prog 129 #[.agg #[.int .u64 (a0:Nat),.int .u64 (a1:Nat),.int .u64 (a2:Nat),.int .u64 (a3:Nat)],.agg #[.int .u64 (m0:Nat),.int .u64 (m1:Nat),.int .u64 (m2:Nat),.int .u64 (m3:Nat)]] w' fun e w''=>e= .returned (.tuple #[.agg #[.int .u64 (d0:Nat),.int .u64 (d1:Nat),.int .u64 (d2:Nat),.int .u64 (d3:Nat)],.int .u64 1])∧Gw w' w''):
 Calls prog 160 #[.pointer (some ⟨b,0,none⟩),.agg #[.int .u64 (a0:Nat),.int .u64 (a1:Nat),.int .u64 (a2:Nat),.int .u64 (a3:Nat)],.int .u64 1] w fun e w'=>e= .returned (.agg #[.int .u64 (d0:Nat),.int .u64 (d1:Nat),.int .u64 (d2:Nat),.int .u64 (d3:Nat)])∧Gw w w':=by
 go_enter func160,ntmps160
 refine Dr ?_
 refine Fu ?_
 refine t_3 ?_;iterate 2 refine t_k ?_
 refine Ec ?_;refine t_3 ?_;refine Ft ?_
 refine FD ?_
 refine t_1 ?_;refine Eu ?_;refine Hn ?_;refine J2 ?_
 refine t_3 ?_;refine Dy ?_;refine AD (AH results160 (Ac rfl rfl underlying147 rfl sizeOf147 rfl rfl)) ?_;intro w' hg;exact⟨rfl,hg⟩
theorem mH(a0 a1 a2 a3 m0 m1 m2 m3 d0 d1 d2 d3:Nat)(w:World)
 (hs: ∀w',Gw w w'→Calls prog 129 #[.agg #[.int .u64 (a0:Nat),.int .u64 (a1:Nat),.int .u64 (a2:Nat),.int .u64 (a3:Nat)],.agg #[.int .u64 (m0:Nat),.int .u64 (m1:Nat),.int .u64 (m2:Nat),.int .u64 (m3:Nat)]] w' fun e w''=>e= .returned (.tuple #[.agg #[.int .u64 (d0:Nat),.int .u64 (d1:Nat),.int .u64 (d2:Nat),.int .u64 (d3:Nat)],.int .u64 0])∧Gw w' w''):
 Calls prog 124 #[.agg #[.int .u64 (a0:Nat),.int .u64 (a1:Nat),.int .u64 (a2:Nat),.int .u64 (a3:Nat)],.agg #[.int .u64 (m0:Nat),.int .u64 (m1:Nat),.int .u64 (m2:Nat),.int .u64 (m3:Nat)]] w fun e w'=>e= .returned (.bool false)∧Gw w w':=by
 go_enter func124,ntmps124
 refine Dz ?_;iterate 8 refine t_k ?_
 iterate 2 refine t_3 ?_
 refine Ft ?_
 refine Hl ?_;iterate 5 refine t_k ?_
 refine Cw ?_
 refine AG ?_;refine AD (AH results124 (AF rfl)) ?_;intro w' hg;exact⟨rfl,hg⟩
theorem mG(a0 a1 a2 a3 m0 m1 m2 m3 d0 d1 d2 d3:Nat)(w:World)
 (hs: ∀w',Gw w w'→Calls prog 129 #[.agg #[.int .u64 (a0:Nat),.int .u64 (a1:Nat),.int .u64 (a2:Nat),.int .u64 (a3:Nat)],.agg #[.int .u64 (m0:Nat),.int .u64 (m1:Nat),.int .u64 (m2:Nat),.int .u64 (m3:Nat)]] w' fun e w''=>e= .returned (.tuple #[.agg #[.int .u64 (d0:Nat),.int .u64 (d1:Nat),.int .u64 (d2:Nat),.int .u64 (d3:Nat)],.int .u64 1])∧Gw w' w''):
 Calls prog 124 #[.agg #[.int .u64 (a0:Nat),.int .u64 (a1:Nat),.int .u64 (a2:Nat),.int .u64 (a3:Nat)],.agg #[.int .u64 (m0:Nat),.int .u64 (m1:Nat),.int .u64 (m2:Nat),.int .u64 (m3:Nat)]] w fun e w'=>e= .returned (.bool true)∧Gw w w':=by
 go_enter func124,ntmps124
 refine Dz ?_;iterate 8 refine t_k ?_
 iterate 2 refine t_3 ?_
 refine Ft ?_
 refine Hl ?_;iterate 5 refine t_k ?_
 refine Cw ?_
 refine AG ?_;refine AD (AH results124 (AF rfl)) ?_;intro w' hg;exact⟨rfl,hg⟩
theorem gU(b:Nat)(t0 t1 t2 t3 a0 a1 a2 a3 x0 x1 x2 x3 y0 y1 y2 y3:Nat)(w:World)(ht: ∀(j:Nat) (v:Value),[.int .u64 (t0:Nat),.int .u64 (t1:Nat),.int .u64 (t2:Nat),.int .u64 (t3:Nat)][j]? =some v→w.cell? ⟨b,9+j,none⟩=some v)
 (h1: ∀w',Gw w w'→Calls prog 131 #[.pointer (some ⟨b,0,none⟩),.agg #[.int .u64 (a0:Nat),.int .u64 (a1:Nat),.int .u64 (a2:Nat),.int .u64 (a3:Nat)],.agg #[.int .u64 (t0:Nat),.int .u64 (t1:Nat),.int .u64 (t2:Nat),.int .u64 (t3:Nat)]] w' fun e w''=>e= .returned (.agg #[.int .u64 (x0:Nat),.int .u64 (x1:Nat),.int .u64 (x2:Nat),.int .u64 (x3:Nat)])∧Gw w' w'')
 (h2: ∀w',Gw w w'→Calls prog 131 #[.pointer (some ⟨b,0,none⟩),.agg #[.int .u64 (x0:Nat),.int .u64 (x1:Nat),.int .u64 (x2:Nat),.int .u64 (x3:Nat)],.agg #[.int .u64 1,.int .u64 0,.int .u64 0,.int .u64 0]] w' fun e w''=>e= .returned (.agg #[.int .u64 (y0:Nat),.int .u64 (y1:Nat),.int .u64 (y2:Nat),.int .u64 (y3:Nat)])∧Gw w' w''):
 Calls prog 88 #[.pointer (some ⟨b,0,none⟩),.agg #[.int .u64 (a0:Nat),.int .u64 (a1:Nat),.int .u64 (a2:Nat),.int .u64 (a3:Nat)]] w fun e w'=>e= .returned (.agg #[.int .u64 (y0:Nat),.int .u64 (y1:Nat),.int .u64 (y2:Nat),.int .u64 (y3:Nat)])∧Gw w w':=by
 go_enter func88,ntmps88
 refine Dr ?_
 refine Lh ?_
 refine Gt ?_
 refine t_3 ?_;iterate 2 refine t_k ?_
 refine Ec ?_;refine t_3 ?_;refine t_s (by exact AM rfl gg rfl (eo func131) h1) ?_;refine t_1 ?_;refine t_s (by exact AM rfl gg rfl (eo func131) h2) ?_;refine Dy ?_;refine AD (AH results88 (Ac rfl rfl underlying147 rfl sizeOf147 rfl rfl)) ?_;intro w' hg;exact⟨rfl,hg⟩
theorem lX(b:Nat)(t0 t1 t2 t3 a0 a1 a2 a3 c0 c1 c2 c3 x0 x1 x2 x3 y0 y1 y2 y3 z0 z1 z2 z3:Nat)(w:World)(ht: ∀(j:Nat) (v:Value),[.int .u64 (t0:Nat),.int .u64 (t1:Nat),.int .u64 (t2:Nat),.int .u64 (t3:Nat)][j]? =some v→w.cell? ⟨b,9+j,none⟩=some v)
 (h1: ∀w',Gw w w'→Calls prog 131 #[.pointer (some ⟨b,0,none⟩),.agg #[.int .u64 (a0:Nat),.int .u64 (a1:Nat),.int .u64 (a2:Nat),.int .u64 (a3:Nat)],.agg #[.int .u64 (t0:Nat),.int .u64 (t1:Nat),.int .u64 (t2:Nat),.int .u64 (t3:Nat)]] w' fun e w''=>e= .returned (.agg #[.int .u64 (x0:Nat),.int .u64 (x1:Nat),.int .u64 (x2:Nat),.int .u64 (x3:Nat)])∧Gw w' w'')
 (h2: ∀w',Gw w w'→Calls prog 88 #[.pointer (some ⟨b,0,none⟩),.agg #[.int .u64 (c0:Nat),.int .u64 (c1:Nat),.int .u64 (c2:Nat),.int .u64 (c3:Nat)]] w' fun e w''=>e= .returned (.agg #[.int .u64 (y0:Nat),.int .u64 (y1:Nat),.int .u64 (y2:Nat),.int .u64 (y3:Nat)])∧Gw w' w'')
 (h3: ∀w',Gw w w'→Calls prog 131 #[.pointer (some ⟨b,0,none⟩),.agg #[.int .u64 (x0:Nat),.int .u64 (x1:Nat),.int .u64 (x2:Nat),.int .u64 (x3:Nat)],.agg #[.int .u64 (y0:Nat),.int .u64 (y1:Nat),.int .u64 (y2:Nat),.int .u64 (y3:Nat)]] w' fun e w''=>e= .returned (.agg #[.int .u64 (z0:Nat),.int .u64 (z1:Nat),.int .u64 (z2:Nat),.int .u64 (z3:Nat)])∧Gw w' w''):
 Calls prog 83 #[.pointer (some ⟨b,0,none⟩),.agg #[.int .u64 (a0:Nat),.int .u64 (a1:Nat),.int .u64 (a2:Nat),.int .u64 (a3:Nat)],.agg #[.int .u64 (c0:Nat),.int .u64 (c1:Nat),.int .u64 (c2:Nat),.int .u64 (c3:Nat)]] w fun e w'=>e= .returned (.agg #[.int .u64 (z0:Nat),.int .u64 (z1:Nat),.int .u64 (z2:Nat),.int .u64 (z3:Nat)])∧Gw w w':=by
 go_enter func83,ntmps83
 refine E2 ?_
 refine Lh ?_
 refine Gt ?_
 refine t_3 ?_;iterate 2 refine t_k ?_
 refine Ec ?_;refine t_3 ?_;refine t_s (by exact AM rfl gg rfl (eo func131) h1) ?_;refine t_k ?_;refine t_3 ?_;refine Lr ?_;refine t_s (by exact AM rfl gg rfl (eo func131) h3) ?_;refine Dy ?_;refine AD (AH results83 (Ac rfl rfl underlying147 rfl sizeOf147 rfl rfl)) ?_;intro w' hg;exact⟨rfl,hg⟩
theorem lq(b:Nat)(a0 a1 a2 a3 c0 c1 c2 c3 x0 x1 x2 x3 y0 y1 y2 y3 s0 s1 s2 s3 z0 z1 z2 z3:Nat)(w:World)
 (h1: ∀w',Gw w w'→Calls prog 88 #[.pointer (some ⟨b,0,none⟩),.agg #[.int .u64 (a0:Nat),.int .u64 (a1:Nat),.int .u64 (a2:Nat),.int .u64 (a3:Nat)]] w' fun e w''=>e= .returned (.agg #[.int .u64 (x0:Nat),.int .u64 (x1:Nat),.int .u64 (x2:Nat),.int .u64 (x3:Nat)])∧Gw w' w'')
 (h2: ∀w',Gw w w'→Calls prog 88 #[.pointer (some ⟨b,0,none⟩),.agg #[.int .u64 (c0:Nat),.int .u64 (c1:Nat),.int .u64 (c2:Nat),.int .u64 (c3:Nat)]] w' fun e w''=>e= .returned (.agg #[.int .u64 (y0:Nat),.int .u64 (y1:Nat),.int .u64 (y2:Nat),.int .u64 (y3:Nat)])∧Gw w' w'')
 (h3: ∀w',Gw w w'→Calls prog 159 #[.agg #[.int .u64 (x0:Nat),.int .u64 (x1:Nat),.int .u64 (x2:Nat),.int .u64 (x3:Nat)],.agg #[.int .u64 (y0:Nat),.int .u64 (y1:Nat),.int .u64 (y2:Nat),.int .u64 (y3:Nat)]] w' fun e w''=>e= .returned (.tuple #[.agg #[.int .u64 (s0:Nat),.int .u64 (s1:Nat),.int .u64 (s2:Nat),.int .u64 (s3:Nat)],.int .u64 0])∧Gw w' w'')
 (h4: ∀w',Gw w w'→Calls prog 160 #[.pointer (some ⟨b,0,none⟩),.agg #[.int .u64 (s0:Nat),.int .u64 (s1:Nat),.int .u64 (s2:Nat),.int .u64 (s3:Nat)],.int .u64 0] w' fun e w''=>e= .returned (.agg #[.int .u64 (z0:Nat),.int .u64 (z1:Nat),.int .u64 (z2:Nat),.int .u64 (z3:Nat)])∧Gw w' w''):
 Calls prog 106 #[.pointer (some ⟨b,0,none⟩),.agg #[.int .u64 (a0:Nat),.int .u64 (a1:Nat),.int .u64 (a2:Nat),.int .u64 (a3:Nat)],.agg #[.int .u64 (c0:Nat),.int .u64 (c1:Nat),.int .u64 (c2:Nat),.int .u64 (c3:Nat)]] w fun e w'=>e= .returned (.agg #[.int .u64 (z0:Nat),.int .u64 (z1:Nat),.int .u64 (z2:Nat),.int .u64 (z3:Nat)])∧Gw w w':=by
 go_enter func106,ntmps106
 refine E2 ?_
 refine Lh ?_
 refine DF ?_
 refine t_3 ?_;refine OK ?_;refine t_k ?_;refine t_3 ?_;refine Lr ?_;refine t_s (by exact AM rfl gg rfl (eo func159) h3) ?_;iterate 3 refine t_k ?_
 refine Hl ?_;iterate 5 refine t_k ?_
 refine t_3 ?_;refine t_k ?_;refine t_s (by exact AM rfl gg rfl (eo func160) h4) ?_;refine Dy ?_;refine AD (AH results106 (Ac rfl rfl underlying147 rfl sizeOf147 rfl rfl)) ?_;intro w' hg;exact⟨rfl,hg⟩
theorem lg(b:Nat)(m0 m1 m2 m3 a0 a1 a2 a3 c0 c1 c2 c3 x0 x1 x2 x3 y0 y1 y2 y3 s0 s1 s2 s3 z0 z1 z2 z3:Nat)(k:Nat)(w:World)(_hm: ∀(j:Nat) (v:Value),[.int .u64 (m0:Nat),.int .u64 (m1:Nat),.int .u64 (m2:Nat),.int .u64 (m3:Nat)][j]? =some v→w.cell? ⟨b,0+j,none⟩=some v)
 (h1: ∀w',Gw w w'→Calls prog 88 #[.pointer (some ⟨b,0,none⟩),.agg #[.int .u64 (a0:Nat),.int .u64 (a1:Nat),.int .u64 (a2:Nat),.int .u64 (a3:Nat)]] w' fun e w''=>e= .returned (.agg #[.int .u64 (x0:Nat),.int .u64 (x1:Nat),.int .u64 (x2:Nat),.int .u64 (x3:Nat)])∧Gw w' w'')
 (h2: ∀w',Gw w w'→Calls prog 88 #[.pointer (some ⟨b,0,none⟩),.agg #[.int .u64 (c0:Nat),.int .u64 (c1:Nat),.int .u64 (c2:Nat),.int .u64 (c3:Nat)]] w' fun e w''=>e= .returned (.agg #[.int .u64 (y0:Nat),.int .u64 (y1:Nat),.int .u64 (y2:Nat),.int .u64 (y3:Nat)])∧Gw w' w'')
 (h3: ∀w',Gw w w'→Calls prog 129 #[.agg #[.int .u64 (x0:Nat),.int .u64 (x1:Nat),.int .u64 (x2:Nat),.int .u64 (x3:Nat)],.agg #[.int .u64 (y0:Nat),.int .u64 (y1:Nat),.int .u64 (y2:Nat),.int .u64 (y3:Nat)]] w' fun e w''=>e= .returned (.tuple #[.agg #[.int .u64 (s0:Nat),.int .u64 (s1:Nat),.int .u64 (s2:Nat),.int .u64 (s3:Nat)],.int .u64 0])∧Gw w' w'')
 (_h4: ∀w',Gw w w'→Calls prog 159 #[.agg #[.int .u64 (s0:Nat),.int .u64 (s1:Nat),.int .u64 (s2:Nat),.int .u64 (s3:Nat)],.agg #[.int .u64 (m0:Nat),.int .u64 (m1:Nat),.int .u64 (m2:Nat),.int .u64 (m3:Nat)]] w' fun e w''=>e= .returned (.tuple #[.agg #[.int .u64 (z0:Nat),.int .u64 (z1:Nat),.int .u64 (z2:Nat),.int .u64 (z3:Nat)],.int .u64 (k:Nat)])∧Gw w' w''):
 Calls prog 130 #[.pointer (some ⟨b,0,none⟩),.agg #[.int .u64 (a0:Nat),.int .u64 (a1:Nat),.int .u64 (a2:Nat),.int .u64 (a3:Nat)],.agg #[.int .u64 (c0:Nat),.int .u64 (c1:Nat),.int .u64 (c2:Nat),.int .u64 (c3:Nat)]] w fun e w'=>e= .returned (.agg #[.int .u64 (s0:Nat),.int .u64 (s1:Nat),.int .u64 (s2:Nat),.int .u64 (s3:Nat)])∧Gw w w':=by
 go_enter func130,ntmps130
 refine E2 ?_
 refine Lh ?_
 refine DF ?_
 refine t_3 ?_;refine OK ?_;refine t_k ?_;refine t_3 ?_;refine Lr ?_;refine t_s (by exact AM rfl gg rfl (eo func129) h3) ?_;iterate 3 refine t_k ?_
 refine FD ?_
 refine J2 ?_
 refine t_3 ?_;refine Dy ?_;refine AD (AH results130 (Ac rfl rfl underlying147 rfl sizeOf147 rfl rfl)) ?_;intro w' hg;exact⟨rfl,hg⟩
theorem lp(b:Nat)(a0 a1 a2 a3 c0 c1 c2 c3 x0 x1 x2 x3 y0 y1 y2 y3 s0 s1 s2 s3 z0 z1 z2 z3:Nat)(w:World)
 (h1: ∀w',Gw w w'→Calls prog 88 #[.pointer (some ⟨b,0,none⟩),.agg #[.int .u64 (a0:Nat),.int .u64 (a1:Nat),.int .u64 (a2:Nat),.int .u64 (a3:Nat)]] w' fun e w''=>e= .returned (.agg #[.int .u64 (x0:Nat),.int .u64 (x1:Nat),.int .u64 (x2:Nat),.int .u64 (x3:Nat)])∧Gw w' w'')
 (h2: ∀w',Gw w w'→Calls prog 88 #[.pointer (some ⟨b,0,none⟩),.agg #[.int .u64 (c0:Nat),.int .u64 (c1:Nat),.int .u64 (c2:Nat),.int .u64 (c3:Nat)]] w' fun e w''=>e= .returned (.agg #[.int .u64 (y0:Nat),.int .u64 (y1:Nat),.int .u64 (y2:Nat),.int .u64 (y3:Nat)])∧Gw w' w'')
 (h3: ∀w',Gw w w'→Calls prog 159 #[.agg #[.int .u64 (x0:Nat),.int .u64 (x1:Nat),.int .u64 (x2:Nat),.int .u64 (x3:Nat)],.agg #[.int .u64 (y0:Nat),.int .u64 (y1:Nat),.int .u64 (y2:Nat),.int .u64 (y3:Nat)]] w' fun e w''=>e= .returned (.tuple #[.agg #[.int .u64 (s0:Nat),.int .u64 (s1:Nat),.int .u64 (s2:Nat),.int .u64 (s3:Nat)],.int .u64 1])∧Gw w' w'')
 (h4: ∀w',Gw w w'→Calls prog 160 #[.pointer (some ⟨b,0,none⟩),.agg #[.int .u64 (s0:Nat),.int .u64 (s1:Nat),.int .u64 (s2:Nat),.int .u64 (s3:Nat)],.int .u64 1] w' fun e w''=>e= .returned (.agg #[.int .u64 (z0:Nat),.int .u64 (z1:Nat),.int .u64 (z2:Nat),.int .u64 (z3:Nat)])∧Gw w' w''):
 Calls prog 106 #[.pointer (some ⟨b,0,none⟩),.agg #[.int .u64 (a0:Nat),.int .u64 (a1:Nat),.int .u64 (a2:Nat),.int .u64 (a3:Nat)],.agg #[.int .u64 (c0:Nat),.int .u64 (c1:Nat),.int .u64 (c2:Nat),.int .u64 (c3:Nat)]] w fun e w'=>e= .returned (.agg #[.int .u64 (z0:Nat),.int .u64 (z1:Nat),.int .u64 (z2:Nat),.int .u64 (z3:Nat)])∧Gw w w':=by
 go_enter func106,ntmps106
 refine E2 ?_
 refine Lh ?_
 refine DF ?_
 refine t_3 ?_;refine OK ?_;refine t_k ?_;refine t_3 ?_;refine Lr ?_;refine t_s (by exact AM rfl gg rfl (eo func159) h3) ?_;iterate 3 refine t_k ?_
 refine Hl ?_;iterate 5 refine t_k ?_
 refine t_3 ?_;refine t_k ?_;refine t_s (by exact AM rfl gg rfl (eo func160) h4) ?_;refine Dy ?_;refine AD (AH results106 (Ac rfl rfl underlying147 rfl sizeOf147 rfl rfl)) ?_;intro w' hg;exact⟨rfl,hg⟩
theorem lf(b:Nat)(m0 m1 m2 m3 a0 a1 a2 a3 c0 c1 c2 c3 x0 x1 x2 x3 y0 y1 y2 y3 s0 s1 s2 s3 z0 z1 z2 z3:Nat)(k:Nat)(w:World)(hm: ∀(j:Nat) (v:Value),[.int .u64 (m0:Nat),.int .u64 (m1:Nat),.int .u64 (m2:Nat),.int .u64 (m3:Nat)][j]? =some v→w.cell? ⟨b,0+j,none⟩=some v)
 (h1: ∀w',Gw w w'→Calls prog 88 #[.pointer (some ⟨b,0,none⟩),.agg #[.int .u64 (a0:Nat),.int .u64 (a1:Nat),.int .u64 (a2:Nat),.int .u64 (a3:Nat)]] w' fun e w''=>e= .returned (.agg #[.int .u64 (x0:Nat),.int .u64 (x1:Nat),.int .u64 (x2:Nat),.int .u64 (x3:Nat)])∧Gw w' w'')
 (h2: ∀w',Gw w w'→Calls prog 88 #[.pointer (some ⟨b,0,none⟩),.agg #[.int .u64 (c0:Nat),.int .u64 (c1:Nat),.int .u64 (c2:Nat),.int .u64 (c3:Nat)]] w' fun e w''=>e= .returned (.agg #[.int .u64 (y0:Nat),.int .u64 (y1:Nat),.int .u64 (y2:Nat),.int .u64 (y3:Nat)])∧Gw w' w'')
 (h3: ∀w',Gw w w'→Calls prog 129 #[.agg #[.int .u64 (x0:Nat),.int .u64 (x1:Nat),.int .u64 (x2:Nat),.int .u64 (x3:Nat)],.agg #[.int .u64 (y0:Nat),.int .u64 (y1:Nat),.int .u64 (y2:Nat),.int .u64 (y3:Nat)]] w' fun e w''=>e= .returned (.tuple #[.agg #[.int .u64 (s0:Nat),.int .u64 (s1:Nat),.int .u64 (s2:Nat),.int .u64 (s3:Nat)],.int .u64 1])∧Gw w' w'')
 (h4: ∀w',Gw w w'→Calls prog 159 #[.agg #[.int .u64 (s0:Nat),.int .u64 (s1:Nat),.int .u64 (s2:Nat),.int .u64 (s3:Nat)],.agg #[.int .u64 (m0:Nat),.int .u64 (m1:Nat),.int .u64 (m2:Nat),.int .u64 (m3:Nat)]] w' fun e w''=>e= .returned (.tuple #[.agg #[.int .u64 (z0:Nat),.int .u64 (z1:Nat),.int .u64 (z2:Nat),.int .u64 (z3:Nat)],.int .u64 (k:Nat)])∧Gw w' w''):
 Calls prog 130 #[.pointer (some ⟨b,0,none⟩),.agg #[.int .u64 (a0:Nat),.int .u64 (a1:Nat),.int .u64 (a2:Nat),.int .u64 (a3:Nat)],.agg #[.int .u64 (c0:Nat),.int .u64 (c1:Nat),.int .u64 (c2:Nat),.int .u64 (c3:Nat)]] w fun e w'=>e= .returned (.agg #[.int .u64 (z0:Nat),.int .u64 (z1:Nat),.int .u64 (z2:Nat),.int .u64 (z3:Nat)])∧Gw w w':=by
 go_enter func130,ntmps130
 refine E2 ?_
 refine Lh ?_
 refine DF ?_
 refine t_3 ?_;refine OK ?_;refine t_k ?_;refine t_3 ?_;refine Lr ?_;refine t_s (by exact AM rfl gg rfl (eo func129) h3) ?_;iterate 3 refine t_k ?_
 refine FD ?_
 refine HC ?_
 refine t_3 ?_;iterate 2 refine t_k ?_
 refine Ec ?_;refine t_3 ?_;refine t_s (by exact AM rfl gg rfl (eo func159) h4) ?_;iterate 3 refine t_k ?_
 refine t_9 ?_;iterate 3 refine t_k ?_
 refine t_3 ?_;refine Dy ?_;refine AD (AH results130 (Ac rfl rfl underlying147 rfl sizeOf147 rfl rfl)) ?_;intro w' hg;exact⟨rfl,hg⟩
end Go.Proofs.YtafbhakmkbehiaaGreatDoor
