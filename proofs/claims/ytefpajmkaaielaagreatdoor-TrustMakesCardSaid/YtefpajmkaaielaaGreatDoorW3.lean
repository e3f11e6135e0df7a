import Derived.Test.YtefpajmkaaielaaGreatDoorW1
open Go.Proofs.Tryz
set_option maxHeartbeats 400000
set_option maxRecDepth 100000
namespace Go.Proofs.YtefpajmkaaielaaGreatDoor
open Go.RowKit Go.Toll
theorem bS(a0 a1 a2 a3 b0 b1 b2 b3 s0 s1 s2 s3 c0 c1 c2 c3:Nat)(w:World)
 (h0: ∀w:World,(callFunc 107 #[.int .u64 (a0:Nat),.int .u64 (b0:Nat),.int .u64 0]).run prog w= .ok (.value (.tuple #[.int .u64 (s0:Nat),.int .u64 (c0:Nat)])) w)
 (h1: ∀w:World,(callFunc 107 #[.int .u64 (a1:Nat),.int .u64 (b1:Nat),.int .u64 (c0:Nat)]).run prog w= .ok (.value (.tuple #[.int .u64 (s1:Nat),.int .u64 (c1:Nat)])) w)
 (h2: ∀w:World,(callFunc 107 #[.int .u64 (a2:Nat),.int .u64 (b2:Nat),.int .u64 (c1:Nat)]).run prog w= .ok (.value (.tuple #[.int .u64 (s2:Nat),.int .u64 (c2:Nat)])) w)
 (h3: ∀w:World,(callFunc 107 #[.int .u64 (a3:Nat),.int .u64 (b3:Nat),.int .u64 (c2:Nat)]).run prog w= .ok (.value (.tuple #[.int .u64 (s3:Nat),.int .u64 (c3:Nat)])) w):
  CGy 75 #[A4y a0 a1 a2 a3,A4y b0 b1 b2 b3] w (.tuple #[A4y s0 s1 s2 s3,.int .u64 (c3:Nat)]):=by
 go_enter func75,ntmps75
 refine GA ?_
 refine Jl ?_
 refine E2 ?_;iterate 11 refine t_k ?_
 refine Ce 5 ?_
 iterate 4
  refine Ci ?_
  refine t_1 ?_;iterate 14 refine t_k ?_
  refine t_8 ?_;refine t_4 ?_;refine t_k ?_;refine t_8 ?_;refine t_4 ?_;refine t_k ?_;refine t_s (by exact Ft rfl gg rfl (by intro w;first|exact h0 w|exact h1 w|exact h2 w|exact h3 w)) ?_;iterate 3 refine t_k ?_
  refine t_8 ?_;refine Jk ?_
  refine E1 ?_
 refine Ci ?_
 refine FW ?_
 refine Aq ?_;refine Ci ?_
 refine t_3 ?_;refine t_k ?_;refine IC ?_
 refine AG ?_;refine AD (Av results75 (Ad rfl rfl underlying96 rfl sizeOf96 rfl rfl) (AE rfl)) ?_;intro w' hg;exact⟨rfl,hg⟩
theorem t9(a0 a1 a2 a3 b0 b1 b2 b3 s0 s1 s2 s3 c0 c1 c2 c3:Nat)(w:World)
 (h0: ∀w:World,(callFunc 106 #[.int .u64 (a0:Nat),.int .u64 (b0:Nat),.int .u64 0]).run prog w= .ok (.value (.tuple #[.int .u64 (s0:Nat),.int .u64 (c0:Nat)])) w)
 (h1: ∀w:World,(callFunc 106 #[.int .u64 (a1:Nat),.int .u64 (b1:Nat),.int .u64 (c0:Nat)]).run prog w= .ok (.value (.tuple #[.int .u64 (s1:Nat),.int .u64 (c1:Nat)])) w)
 (h2: ∀w:World,(callFunc 106 #[.int .u64 (a2:Nat),.int .u64 (b2:Nat),.int .u64 (c1:Nat)]).run prog w= .ok (.value (.tuple #[.int .u64 (s2:Nat),.int .u64 (c2:Nat)])) w)
 (h3: ∀w:World,(callFunc 106 #[.int .u64 (a3:Nat),.int .u64 (b3:Nat),.int .u64 (c2:Nat)]).run prog w= .ok (.value (.tuple #[.int .u64 (s3:Nat),.int .u64 (c3:Nat)])) w):
  CGy 77 #[A4y a0 a1 a2 a3,A4y b0 b1 b2 b3] w (.tuple #[A4y s0 s1 s2 s3,.int .u64 (c3:Nat)]):=by
 go_enter func77,ntmps77
 refine GA ?_
 refine Jl ?_
 refine E2 ?_;iterate 11 refine t_k ?_
 refine Ce 5 ?_
 iterate 4
  refine Ci ?_
  refine t_1 ?_;iterate 14 refine t_k ?_
  refine t_8 ?_;refine t_4 ?_;refine t_k ?_;refine t_8 ?_;refine t_4 ?_;refine t_k ?_;refine t_s (by exact Ft rfl gg rfl (by intro w;first|exact h0 w|exact h1 w|exact h2 w|exact h3 w)) ?_;iterate 3 refine t_k ?_
  refine t_8 ?_;refine Jk ?_
  refine E1 ?_
 refine Ci ?_
 refine FW ?_
 refine Aq ?_;refine Ci ?_
 refine t_3 ?_;refine t_k ?_;refine IC ?_
 refine AG ?_;refine AD (Av results77 (Ad rfl rfl underlying96 rfl sizeOf96 rfl rfl) (AE rfl)) ?_;intro w' hg;exact⟨rfl,hg⟩
theorem cD(b:Nat)(m0 m1 m2 m3 a0 a1 a2 a3 d0 d1 d2 d3:Nat)(w:World)(hm: ∀(j:Nat) (v:Value),[.int .u64 (m0:Nat),.int .u64 (m1:Nat),.int .u64 (m2:Nat),.int .u64 (m3:Nat)][j]? =some v→w.cell? ⟨b,0+j,none⟩=some v)
 (hs: ∀w',Gw w w'→CGy 75 #[A4y a0 a1 a2 a3,A4y m0 m1 m2 m3] w' (.tuple #[A4y d0 d1 d2 d3,.int .u64 1])):
 CGy 78 #[.pointer (some ⟨b,0,none⟩),A4y a0 a1 a2 a3,.int .u64 0] w (A4y a0 a1 a2 a3):=by
 go_enter func78,ntmps78
 refine EZ ?_
 refine IH ?_
 refine t_3 ?_;iterate 2 refine t_k ?_
 refine D2 ?_;refine t_3 ?_;refine IG ?_
 refine G5 ?_
 refine t_1 ?_;refine F9 ?_;refine Js ?_;refine Ez ?_
 refine t_3 ?_;refine Dd ?_;refine AD (AM results78 (Ad rfl rfl underlying96 rfl sizeOf96 rfl rfl)) ?_;intro w' hg;exact⟨rfl,hg⟩
theorem cE(b:Nat)(m0 m1 m2 m3 a0 a1 a2 a3 d0 d1 d2 d3:Nat)(w:World)(hm: ∀(j:Nat) (v:Value),[.int .u64 (m0:Nat),.int .u64 (m1:Nat),.int .u64 (m2:Nat),.int .u64 (m3:Nat)][j]? =some v→w.cell? ⟨b,0+j,none⟩=some v)
 (hs: ∀w',Gw w w'→CGy 75 #[A4y a0 a1 a2 a3,A4y m0 m1 m2 m3] w' (.tuple #[A4y d0 d1 d2 d3,.int .u64 0])):
 CGy 78 #[.pointer (some ⟨b,0,none⟩),A4y a0 a1 a2 a3,.int .u64 0] w (A4y d0 d1 d2 d3):=by
 go_enter func78,ntmps78
 refine EZ ?_
 refine IH ?_
 refine t_3 ?_;iterate 2 refine t_k ?_
 refine D2 ?_;refine t_3 ?_;refine IG ?_
 refine G5 ?_
 refine t_1 ?_;refine F9 ?_;refine Js ?_;refine G7 ?_
 refine t_3 ?_;refine Dd ?_;refine AD (AM results78 (Ad rfl rfl underlying96 rfl sizeOf96 rfl rfl)) ?_;intro w' hg;exact⟨rfl,hg⟩
theorem cC(b:Nat)(m0 m1 m2 m3 a0 a1 a2 a3 d0 d1 d2 d3:Nat)(w:World)(hm: ∀(j:Nat) (v:Value),[.int .u64 (m0:Nat),.int .u64 (m1:Nat),.int .u64 (m2:Nat),.int .u64 (m3:Nat)][j]? =some v→w.cell? ⟨b,0+j,none⟩=some v)
 (hs: ∀w',Gw w w'→CGy 75 #[A4y a0 a1 a2 a3,A4y m0 m1 m2 m3] w' (.tuple #[A4y d0 d1 d2 d3,.int .u64 0])):
 CGy 78 #[.pointer (some ⟨b,0,none⟩),A4y a0 a1 a2 a3,.int .u64 1] w (A4y d0 d1 d2 d3):=by
 go_enter func78,ntmps78
 refine EZ ?_
 refine IH ?_
 refine t_3 ?_;iterate 2 refine t_k ?_
 refine D2 ?_;refine t_3 ?_;refine IG ?_
 refine G5 ?_
 refine t_1 ?_;refine F9 ?_;refine Js ?_;refine G7 ?_
 refine t_3 ?_;refine Dd ?_;refine AD (AM results78 (Ad rfl rfl underlying96 rfl sizeOf96 rfl rfl)) ?_;intro w' hg;exact⟨rfl,hg⟩
theorem cB(b:Nat)(m0 m1 m2 m3 a0 a1 a2 a3 d0 d1 d2 d3:Nat)(w:World)(hm: ∀(j:Nat) (v:Value),[.int .u64 (m0:Nat),.int .u64 (m1:Nat),.int .u64 (m2:Nat),.int .u64 (m3:Nat)][j]? =some v→w.cell? ⟨b,0+j,none⟩=some v)
 (hs: ∀w',Gw w w'→CGy 75 #[A4y a0 a1 a2 a3,A4y m0 m1 m2 m3] w' (.tuple #[A4y d0 d1 d2 d3,.int .u64 1])):
 CGy 78 #[.pointer (some ⟨b,0,none⟩),A4y a0 a1 a2 a3,.int .u64 1] w (A4y d0 d1 d2 d3):=by
 go_enter func78,ntmps78
 refine EZ ?_
 refine IH ?_
 refine t_3 ?_;iterate 2 refine t_k ?_
 refine D2 ?_;refine t_3 ?_;refine IG ?_
 refine G5 ?_
 refine t_1 ?_;refine F9 ?_;refine Js ?_;refine G7 ?_
 refine t_3 ?_;refine Dd ?_;refine AD (AM results78 (Ad rfl rfl underlying96 rfl sizeOf96 rfl rfl)) ?_;intro w' hg;exact⟨rfl,hg⟩
theorem kN(a0 a1 a2 a3 m0 m1 m2 m3 d0 d1 d2 d3:Nat)(w:World)
 (hs: ∀w',Gw w w'→CGy 75 #[A4y a0 a1 a2 a3,A4y m0 m1 m2 m3] w' (.tuple #[A4y d0 d1 d2 d3,.int .u64 0])):
 CGy 58 #[A4y a0 a1 a2 a3,A4y m0 m1 m2 m3] w (.bool false):=by
 go_enter func58,ntmps58
 refine D1 ?_;iterate 8 refine t_k ?_
 iterate 2 refine t_3 ?_
 refine IG ?_
 refine GB ?_;iterate 5 refine t_k ?_
 refine E1 ?_
 refine AG ?_;refine AD (AM results58 (AE rfl)) ?_;intro w' hg;exact⟨rfl,hg⟩
theorem kM(a0 a1 a2 a3 m0 m1 m2 m3 d0 d1 d2 d3:Nat)(w:World)
 (hs: ∀w',Gw w w'→CGy 75 #[A4y a0 a1 a2 a3,A4y m0 m1 m2 m3] w' (.tuple #[A4y d0 d1 d2 d3,.int .u64 1])):
 CGy 58 #[A4y a0 a1 a2 a3,A4y m0 m1 m2 m3] w (.bool true):=by
 go_enter func58,ntmps58
 refine D1 ?_;iterate 8 refine t_k ?_
 iterate 2 refine t_3 ?_
 refine IG ?_
 refine GB ?_;iterate 5 refine t_k ?_
 refine E1 ?_
 refine AG ?_;refine AD (AM results58 (AE rfl)) ?_;intro w' hg;exact⟨rfl,hg⟩
theorem dC(b:Nat)(t0 t1 t2 t3 a0 a1 a2 a3 x0 x1 x2 x3 y0 y1 y2 y3:Nat)(w:World)(ht: ∀(j:Nat) (v:Value),[.int .u64 (t0:Nat),.int .u64 (t1:Nat),.int .u64 (t2:Nat),.int .u64 (t3:Nat)][j]? =some v→w.cell? ⟨b,9+j,none⟩=some v)
 (h1: ∀w',Gw w w'→CGy 72 #[.pointer (some ⟨b,0,none⟩),A4y a0 a1 a2 a3,A4y t0 t1 t2 t3] w' (A4y x0 x1 x2 x3))
 (h2: ∀w',Gw w w'→CGy 72 #[.pointer (some ⟨b,0,none⟩),A4y x0 x1 x2 x3,.agg #[.int .u64 1,.int .u64 0,.int .u64 0,.int .u64 0]] w' (A4y y0 y1 y2 y3)):
 CGy 40 #[.pointer (some ⟨b,0,none⟩),A4y a0 a1 a2 a3] w (A4y y0 y1 y2 y3):=by
 go_enter func40,ntmps40
 refine EZ ?_
 refine IJ ?_
 refine Lp ?_
 refine t_3 ?_;iterate 2 refine t_k ?_
 refine D2 ?_;refine t_3 ?_;refine t_s (by exact AS rfl gg rfl (eo func72) h1) ?_;refine t_1 ?_;refine t_s (by exact AS rfl gg rfl (eo func72) h2) ?_;refine Dd ?_;refine AD (AM results40 (Ad rfl rfl underlying96 rfl sizeOf96 rfl rfl)) ?_;intro w' hg;exact⟨rfl,hg⟩
theorem gM(b:Nat)(t0 t1 t2 t3 a0 a1 a2 a3 c0 c1 c2 c3 x0 x1 x2 x3 y0 y1 y2 y3 z0 z1 z2 z3:Nat)(w:World)(ht: ∀(j:Nat) (v:Value),[.int .u64 (t0:Nat),.int .u64 (t1:Nat),.int .u64 (t2:Nat),.int .u64 (t3:Nat)][j]? =some v→w.cell? ⟨b,9+j,none⟩=some v)
 (h1: ∀w',Gw w w'→CGy 72 #[.pointer (some ⟨b,0,none⟩),A4y a0 a1 a2 a3,A4y t0 t1 t2 t3] w' (A4y x0 x1 x2 x3))
 (h2: ∀w',Gw w w'→CGy 40 #[.pointer (some ⟨b,0,none⟩),A4y c0 c1 c2 c3] w' (A4y y0 y1 y2 y3))
 (h3: ∀w',Gw w w'→CGy 72 #[.pointer (some ⟨b,0,none⟩),A4y x0 x1 x2 x3,A4y y0 y1 y2 y3] w' (A4y z0 z1 z2 z3)):
 CGy 43 #[.pointer (some ⟨b,0,none⟩),A4y a0 a1 a2 a3,A4y c0 c1 c2 c3] w (A4y z0 z1 z2 z3):=by
 go_enter func43,ntmps43
 refine GA ?_
 refine IJ ?_
 refine Lp ?_
 refine t_3 ?_;iterate 2 refine t_k ?_
 refine D2 ?_;refine t_3 ?_;refine t_s (by exact AS rfl gg rfl (eo func72) h1) ?_;refine t_k ?_;refine t_3 ?_;refine Jo ?_;refine t_s (by exact AS rfl gg rfl (eo func72) h3) ?_;refine Dd ?_;refine AD (AM results43 (Ad rfl rfl underlying96 rfl sizeOf96 rfl rfl)) ?_;intro w' hg;exact⟨rfl,hg⟩
theorem gl(b:Nat)(a0 a1 a2 a3 c0 c1 c2 c3 x0 x1 x2 x3 y0 y1 y2 y3 s0 s1 s2 s3 z0 z1 z2 z3:Nat)(w:World)
 (h1: ∀w',Gw w w'→CGy 40 #[.pointer (some ⟨b,0,none⟩),A4y a0 a1 a2 a3] w' (A4y x0 x1 x2 x3))
 (h2: ∀w',Gw w w'→CGy 40 #[.pointer (some ⟨b,0,none⟩),A4y c0 c1 c2 c3] w' (A4y y0 y1 y2 y3))
 (h3: ∀w',Gw w w'→CGy 77 #[A4y x0 x1 x2 x3,A4y y0 y1 y2 y3] w' (.tuple #[A4y s0 s1 s2 s3,.int .u64 0]))
 (h4: ∀w',Gw w w'→CGy 78 #[.pointer (some ⟨b,0,none⟩),A4y s0 s1 s2 s3,.int .u64 0] w' (A4y z0 z1 z2 z3)):
 CGy 44 #[.pointer (some ⟨b,0,none⟩),A4y a0 a1 a2 a3,A4y c0 c1 c2 c3] w (A4y z0 z1 z2 z3):=by
 go_enter func44,ntmps44
 refine GA ?_
 refine IJ ?_
 refine Dz ?_
 refine t_3 ?_;refine Lv ?_;refine t_k ?_;refine t_3 ?_;refine Jo ?_;refine t_s (by exact AS rfl gg rfl (eo func77) h3) ?_;iterate 3 refine t_k ?_
 refine GB ?_;iterate 5 refine t_k ?_
 refine t_3 ?_;refine t_k ?_;refine t_s (by exact AS rfl gg rfl (eo func78) h4) ?_;refine Dd ?_;refine AD (AM results44 (Ad rfl rfl underlying96 rfl sizeOf96 rfl rfl)) ?_;intro w' hg;exact⟨rfl,hg⟩
theorem gS(b:Nat)(m0 m1 m2 m3 a0 a1 a2 a3 c0 c1 c2 c3 x0 x1 x2 x3 y0 y1 y2 y3 s0 s1 s2 s3 z0 z1 z2 z3:Nat)(k:Nat)(w:World)(_hm: ∀(j:Nat) (v:Value),[.int .u64 (m0:Nat),.int .u64 (m1:Nat),.int .u64 (m2:Nat),.int .u64 (m3:Nat)][j]? =some v→w.cell? ⟨b,0+j,none⟩=some v)
 (h1: ∀w',Gw w w'→CGy 40 #[.pointer (some ⟨b,0,none⟩),A4y a0 a1 a2 a3] w' (A4y x0 x1 x2 x3))
 (h2: ∀w',Gw w w'→CGy 40 #[.pointer (some ⟨b,0,none⟩),A4y c0 c1 c2 c3] w' (A4y y0 y1 y2 y3))
 (h3: ∀w',Gw w w'→CGy 75 #[A4y x0 x1 x2 x3,A4y y0 y1 y2 y3] w' (.tuple #[A4y s0 s1 s2 s3,.int .u64 0]))
 (_h4: ∀w',Gw w w'→CGy 77 #[A4y s0 s1 s2 s3,A4y m0 m1 m2 m3] w' (.tuple #[A4y z0 z1 z2 z3,.int .u64 (k:Nat)])):
 CGy 76 #[.pointer (some ⟨b,0,none⟩),A4y a0 a1 a2 a3,A4y c0 c1 c2 c3] w (A4y s0 s1 s2 s3):=by
 go_enter func76,ntmps76
 refine GA ?_
 refine IJ ?_
 refine Dz ?_
 refine t_3 ?_;refine Lv ?_;refine t_k ?_;refine t_3 ?_;refine Jo ?_;refine t_s (by exact AS rfl gg rfl (eo func75) h3) ?_;iterate 3 refine t_k ?_
 refine G5 ?_
 refine G7 ?_
 refine t_3 ?_;refine Dd ?_;refine AD (AM results76 (Ad rfl rfl underlying96 rfl sizeOf96 rfl rfl)) ?_;intro w' hg;exact⟨rfl,hg⟩
theorem gk(b:Nat)(a0 a1 a2 a3 c0 c1 c2 c3 x0 x1 x2 x3 y0 y1 y2 y3 s0 s1 s2 s3 z0 z1 z2 z3:Nat)(w:World)
 (h1: ∀w',Gw w w'→CGy 40 #[.pointer (some ⟨b,0,none⟩),A4y a0 a1 a2 a3] w' (A4y x0 x1 x2 x3))
 (h2: ∀w',Gw w w'→CGy 40 #[.pointer (some ⟨b,0,none⟩),A4y c0 c1 c2 c3] w' (A4y y0 y1 y2 y3))
 (h3: ∀w',Gw w w'→CGy 77 #[A4y x0 x1 x2 x3,A4y y0 y1 y2 y3] w' (.tuple #[A4y s0 s1 s2 s3,.int .u64 1]))
 (h4: ∀w',Gw w w'→CGy 78 #[.pointer (some ⟨b,0,none⟩),A4y s0 s1 s2 s3,.int .u64 1] w' (A4y z0 z1 z2 z3)):
 CGy 44 #[.pointer (some ⟨b,0,none⟩),A4y a0 a1 a2 a3,A4y c0 c1 c2 c3] w (A4y z0 z1 z2 z3):=by
 go_enter func44,ntmps44
 refine GA ?_
 refine IJ ?_
 refine Dz ?_
 refine t_3 ?_;refine Lv ?_;refine t_k ?_;refine t_3 ?_;refine Jo ?_;refine t_s (by exact AS rfl gg rfl (eo func77) h3) ?_;iterate 3 refine t_k ?_
 refine GB ?_;iterate 5 refine t_k ?_
 refine t_3 ?_;refine t_k ?_;refine t_s (by exact AS rfl gg rfl (eo func78) h4) ?_;refine Dd ?_;refine AD (AM results44 (Ad rfl rfl underlying96 rfl sizeOf96 rfl rfl)) ?_;intro w' hg;exact⟨rfl,hg⟩
theorem gR(b:Nat)(m0 m1 m2 m3 a0 a1 a2 a3 c0 c1 c2 c3 x0 x1 x2 x3 y0 y1 y2 y3 s0 s1 s2 s3 z0 z1 z2 z3:Nat)(k:Nat)(w:World)(hm: ∀(j:Nat) (v:Value),[.int .u64 (m0:Nat),.int .u64 (m1:Nat),.int .u64 (m2:Nat),.int .u64 (m3:Nat)][j]? =some v→w.cell? ⟨b,0+j,none⟩=some v)
 (h1: ∀w',Gw w w'→CGy 40 #[.pointer (some ⟨b,0,none⟩),A4y a0 a1 a2 a3] w' (A4y x0 x1 x2 x3))
 (h2: ∀w',Gw w w'→CGy 40 #[.pointer (some ⟨b,0,none⟩),A4y c0 c1 c2 c3] w' (A4y y0 y1 y2 y3))
 (h3: ∀w',Gw w w'→CGy 75 #[A4y x0 x1 x2 x3,A4y y0 y1 y2 y3] w' (.tuple #[A4y s0 s1 s2 s3,.int .u64 1]))
 (h4: ∀w',Gw w w'→CGy 77 #[A4y s0 s1 s2 s3,A4y m0 m1 m2 m3] w' (.tuple #[A4y z0 z1 z2 z3,.int .u64 (k:Nat)])):
 CGy 76 #[.pointer (some ⟨b,0,none⟩),A4y a0 a1 a2 a3,A4y c0 c1 c2 c3] w (A4y z0 z1 z2 z3):=by
 go_enter func76,ntmps76
 refine GA ?_
 refine IJ ?_
 refine Dz ?_
 refine t_3 ?_;refine Lv ?_;refine t_k ?_;refine t_3 ?_;refine Jo ?_;refine t_s (by exact AS rfl gg rfl (eo func75) h3) ?_;iterate 3 refine t_k ?_
 refine G5 ?_
 refine FW ?_
 refine t_3 ?_;iterate 2 refine t_k ?_
 refine D2 ?_;refine t_3 ?_;refine t_s (by exact AS rfl gg rfl (eo func77) h4) ?_;iterate 3 refine t_k ?_
 refine t_9 ?_;iterate 3 refine t_k ?_
 refine t_3 ?_;refine Dd ?_;refine AD (AM results76 (Ad rfl rfl underlying96 rfl sizeOf96 rfl rfl)) ?_;intro w' hg;exact⟨rfl,hg⟩
end Go.Proofs.YtefpajmkaaielaaGreatDoor
