import Derived.Test.YtefpajmkaaielaaGreatDoorW1
open Go.Proofs.Tryz
set_option maxHeartbeats 4000000
set_option maxRecDepth 100000
namespace Go.Proofs.YtefpajmkaaielaaGreatDoor
open Go.RowKit Go.Toll
theorem dI(b:Nat)(m0 m1 m2 m3 a0 a1 a2 a3 c0 c1 c2 c3 z0 z1 z2 z3:Nat)(ng:Nat)(w:World)(hm: ∀(j:Nat) (v:Value),[.int .u64 (m0:Nat),.int .u64 (m1:Nat),.int .u64 (m2:Nat),.int .u64 (m3:Nat)][j]? =some v→w.cell? ⟨b,0+j,none⟩=some v)(hn:w.cell? ⟨b,4,none⟩=some (.int .u64 (ng:Nat)))
 (mh ml ad ca wa:Nat→Nat→Nat)(A1 K1 H1:Nat→Nat→Nat→Nat)(MA K2 MC:Nat→Nat→Nat→Nat→Nat)(qf:Nat→Nat)(Wd:Nat→Prop)(R:Nat→Nat→Nat→Nat→Nat→Nat→Prop)
 (hmul: ∀x y:Nat,Wd x→Wd y→ ∀w,CGy 105 #[.int .u64 x,.int .u64 y] w (.tuple #[.int .u64 (mh x y:Nat),.int .u64 (ml x y:Nat)]))
 (e1: ∀(x y t:Nat) (w:World),(callFunc 106 #[.int .u64 (ml x y:Nat),.int .u64 t,.int .u64 0]).run prog w= .ok (.value (.tuple #[.int .u64 (A1 x y t:Nat),.int .u64 (K1 x y t:Nat)])) w)
 (e2: ∀(x y t c:Nat) (w:World),(callFunc 106 #[.int .u64 (A1 x y t:Nat),.int .u64 c,.int .u64 0]).run prog w= .ok (.value (.tuple #[.int .u64 (MA x y t c:Nat),.int .u64 (K2 x y t c:Nat)])) w)
 (e2z: ∀(x y t:Nat) (w:World),(callFunc 106 #[.int .u64 (A1 x y t:Nat),.int .u64 0,.int .u64 0]).run prog w= .ok (.value (.tuple #[.int .u64 (MA x y t 0:Nat),.int .u64 (K2 x y t 0:Nat)])) w)
 (e3: ∀(t c:Nat) (w:World),(callFunc 106 #[.int .u64 t,.int .u64 c,.int .u64 0]).run prog w= .ok (.value (.tuple #[.int .u64 (ad t c:Nat),.int .u64 (ca t c:Nat)])) w)
 (g1: ∀x y t:Nat,IntKind.u64.wrap ((mh x y:Nat)+(K1 x y t:Nat))=(H1 x y t:Nat))
 (g2: ∀x y t c:Nat,IntKind.u64.wrap ((H1 x y t:Nat)+(K2 x y t c:Nat))=(MC x y t c:Nat))
 (g3: ∀a c d e:Nat,IntKind.u64.wrap ((ca a c:Nat)+(ca d e:Nat))=(wa (ca a c) (ca d e):Nat))
 (g4: ∀t:Nat,IntKind.u64.wrap ((t:Nat)*(ng:Nat))=(qf t:Nat))
 (wq: ∀t,Wd (qf t))(wa0:Wd a0)(wa1:Wd a1)(wa2:Wd a2)(wa3:Wd a3)(wc0:Wd c0)(wc1:Wd c1)(wc2:Wd c2)(wc3:Wd c3)(wm0:Wd m0)(wm1:Wd m1)(wm2:Wd m2)(wm3:Wd m3)
 (hR0:R 0 0 0 0 0 0)
 (hR: ∀k x t0 t1 t2 t3 t4,k<4→[c0,c1,c2,c3][k]? =some x→R k t0 t1 t2 t3 t4→R (k+1) (MA (qf (MA x a0 t0 0)) m1 (MA x a1 t1 (MC x a0 t0 0)) (H1 (qf (MA x a0 t0 0)) m0 (MA x a0 t0 0))) (MA (qf (MA x a0 t0 0)) m2 (MA x a2 t2 (MC x a1 t1 (MC x a0 t0 0))) (MC (qf (MA x a0 t0 0)) m1 (MA x a1 t1 (MC x a0 t0 0)) (H1 (qf (MA x a0 t0 0)) m0 (MA x a0 t0 0)))) (MA (qf (MA x a0 t0 0)) m3 (MA x a3 t3 (MC x a2 t2 (MC x a1 t1 (MC x a0 t0 0)))) (MC (qf (MA x a0 t0 0)) m2 (MA x a2 t2 (MC x a1 t1 (MC x a0 t0 0))) (MC (qf (MA x a0 t0 0)) m1 (MA x a1 t1 (MC x a0 t0 0)) (H1 (qf (MA x a0 t0 0)) m0 (MA x a0 t0 0))))) (ad (ad t4 (MC x a3 t3 (MC x a2 t2 (MC x a1 t1 (MC x a0 t0 0))))) (MC (qf (MA x a0 t0 0)) m3 (MA x a3 t3 (MC x a2 t2 (MC x a1 t1 (MC x a0 t0 0)))) (MC (qf (MA x a0 t0 0)) m2 (MA x a2 t2 (MC x a1 t1 (MC x a0 t0 0))) (MC (qf (MA x a0 t0 0)) m1 (MA x a1 t1 (MC x a0 t0 0)) (H1 (qf (MA x a0 t0 0)) m0 (MA x a0 t0 0)))))) (wa (ca t4 (MC x a3 t3 (MC x a2 t2 (MC x a1 t1 (MC x a0 t0 0))))) (ca (ad t4 (MC x a3 t3 (MC x a2 t2 (MC x a1 t1 (MC x a0 t0 0))))) (MC (qf (MA x a0 t0 0)) m3 (MA x a3 t3 (MC x a2 t2 (MC x a1 t1 (MC x a0 t0 0)))) (MC (qf (MA x a0 t0 0)) m2 (MA x a2 t2 (MC x a1 t1 (MC x a0 t0 0))) (MC (qf (MA x a0 t0 0)) m1 (MA x a1 t1 (MC x a0 t0 0)) (H1 (qf (MA x a0 t0 0)) m0 (MA x a0 t0 0))))))))
 (hsh: ∀t0 t1 t2 t3 t4,R 4 t0 t1 t2 t3 t4→ ∀w',Gw w w'→CGy 78 #[.pointer (some ⟨b,0,none⟩),.agg #[.int .u64 t0,.int .u64 t1,.int .u64 t2,.int .u64 t3],.int .u64 t4] w' (A4y z0 z1 z2 z3)):
 CGy 72 #[.pointer (some ⟨b,0,none⟩),A4y a0 a1 a2 a3,A4y c0 c1 c2 c3] w (A4y z0 z1 z2 z3):=by
 go_enter func72,ntmps72
 refine GA ?_
 refine IH ?_
 refine t_s (by exact Bq rfl rfl gg zeroValue177) ?_;iterate 4 refine t_k ?_
 refine t_3 ?_;iterate 3 refine t_k ?_
 refine Lf (fun n s=> ∃(k t0 t1 t2 t3 t4 t5:Nat),n+k=4∧R k t0 t1 t2 t3 t4∧s.fr=[.v (.pointer (some ⟨b,0,none⟩)),.v (A4y a0 a1 a2 a3),.v (A4y c0 c1 c2 c3),.v undef,.p 4 0,.p 5 0,.p 6 0,.p 7 0,s.fr.getD 8 default,s.fr.getD 9 default,s.fr.getD 10 default,s.fr.getD 11 default,s.fr.getD 12 default,s.fr.getD 13 default,s.fr.getD 14 default,s.fr.getD 15 default,s.fr.getD 16 default,s.fr.getD 17 default,s.fr.getD 18 default,s.fr.getD 19 default,s.fr.getD 20 default,.v (A4y c0 c1 c2 c3),.v (.int .i64 (k:Nat)),s.fr.getD 23 default,s.fr.getD 24 default,s.fr.getD 25 default,s.fr.getD 26 default,s.fr.getD 27 default,s.fr.getD 28 default,s.fr.getD 29 default,s.fr.getD 30 default,s.fr.getD 31 default,s.fr.getD 32 default,s.fr.getD 33 default,s.fr.getD 34 default,s.fr.getD 35 default,s.fr.getD 36 default,s.fr.getD 37 default,s.fr.getD 38 default,s.fr.getD 39 default,s.fr.getD 40 default,s.fr.getD 41 default,s.fr.getD 42 default,s.fr.getD 43 default,s.fr.getD 44 default,s.fr.getD 45 default,s.fr.getD 46 default,s.fr.getD 47 default,s.fr.getD 48 default,s.fr.getD 49 default,s.fr.getD 50 default,s.fr.getD 51 default,s.fr.getD 52 default,s.fr.getD 53 default,s.fr.getD 54 default,s.fr.getD 55 default,s.fr.getD 56 default,s.fr.getD 57 default,s.fr.getD 58 default,s.fr.getD 59 default,s.fr.getD 60 default,s.fr.getD 61 default,s.fr.getD 62 default,s.fr.getD 63 default,s.fr.getD 64 default,s.fr.getD 65 default,s.fr.getD 66 default,s.fr.getD 67 default,s.fr.getD 68 default,s.fr.getD 69 default,s.fr.getD 70 default,s.fr.getD 71 default,s.fr.getD 72 default,s.fr.getD 73 default,s.fr.getD 74 default,s.fr.getD 75 default,s.fr.getD 76 default,s.fr.getD 77 default,s.fr.getD 78 default,s.fr.getD 79 default,s.fr.getD 80 default,s.fr.getD 81 default,s.fr.getD 82 default,s.fr.getD 83 default,s.fr.getD 84 default,s.fr.getD 85 default,s.fr.getD 86 default,s.fr.getD 87 default,s.fr.getD 88 default,s.fr.getD 89 default,s.fr.getD 90 default,s.fr.getD 91 default,s.fr.getD 92 default,s.fr.getD 93 default,s.fr.getD 94 default,s.fr.getD 95 default,s.fr.getD 96 default,s.fr.getD 97 default,s.fr.getD 98 default,s.fr.getD 99 default,s.fr.getD 100 default,s.fr.getD 101 default,s.fr.getD 102 default,s.fr.getD 103 default,s.fr.getD 104 default,s.fr.getD 105 default,s.fr.getD 106 default,s.fr.getD 107 default,s.fr.getD 108 default,s.fr.getD 109 default,s.fr.getD 110 default,s.fr.getD 111 default,s.fr.getD 112 default,s.fr.getD 113 default,s.fr.getD 114 default,s.fr.getD 115 default,s.fr.getD 116 default,s.fr.getD 117 default,s.fr.getD 118 default,s.fr.getD 119 default,s.fr.getD 120 default,s.fr.getD 121 default,s.fr.getD 122 default,s.fr.getD 123 default,s.fr.getD 124 default,s.fr.getD 125 default,s.fr.getD 126 default,s.fr.getD 127 default,s.fr.getD 128 default,s.fr.getD 129 default,s.fr.getD 130 default,s.fr.getD 131 default,s.fr.getD 132 default,s.fr.getD 133 default,s.fr.getD 134 default,s.fr.getD 135 default,s.fr.getD 136 default,s.fr.getD 137 default,s.fr.getD 138 default,s.fr.getD 139 default,s.fr.getD 140 default,s.fr.getD 141 default,s.fr.getD 142 default,s.fr.getD 143 default,s.fr.getD 144 default,s.fr.getD 145 default,s.fr.getD 146 default,s.fr.getD 147 default,s.fr.getD 148 default,s.fr.getD 149 default,s.fr.getD 150 default,s.fr.getD 151 default,s.fr.getD 152 default,s.fr.getD 153 default,s.fr.getD 154 default,s.fr.getD 155 default,s.fr.getD 156 default]∧s.mem=AK [(7,([.v (.int .u64 (t0:Nat)),.v (.int .u64 (t1:Nat)),.v (.int .u64 (t2:Nat)),.v (.int .u64 (t3:Nat)),.v (.int .u64 (t4:Nat)),.v (.int .u64 (t5:Nat))],177)),(6,([.v (.int .u64 0),.v (.int .u64 0),.v (.int .u64 0),.v (.int .u64 0)],96)),(5,([.v (.int .u64 (c0:Nat)),.v (.int .u64 (c1:Nat)),.v (.int .u64 (c2:Nat)),.v (.int .u64 (c3:Nat))],96)),(4,([.v (.int .u64 (a0:Nat)),.v (.int .u64 (a1:Nat)),.v (.int .u64 (a2:Nat)),.v (.int .u64 (a3:Nat))],96))]) ?_ 4 ?_;rotate_left
 ·exact⟨0,0,0,0,0,0,0,rfl,hR0,rfl,rfl⟩
 rintro n ⟨fr,mm⟩ ⟨k,t0,t1,t2,t3,t4,t5,hnk,hRk,hfr,hmm⟩;obtain⟨f,hf⟩: ∃f:Nat→SV,fr=[.v (.pointer (some ⟨b,0,none⟩)),.v (A4y a0 a1 a2 a3),.v (A4y c0 c1 c2 c3),.v undef,.p 4 0,.p 5 0,.p 6 0,.p 7 0,f 8,f 9,f 10,f 11,f 12,f 13,f 14,f 15,f 16,f 17,f 18,f 19,f 20,.v (A4y c0 c1 c2 c3),.v (.int .i64 (k:Nat)),f 23,f 24,f 25,f 26,f 27,f 28,f 29,f 30,f 31,f 32,f 33,f 34,f 35,f 36,f 37,f 38,f 39,f 40,f 41,f 42,f 43,f 44,f 45,f 46,f 47,f 48,f 49,f 50,f 51,f 52,f 53,f 54,f 55,f 56,f 57,f 58,f 59,f 60,f 61,f 62,f 63,f 64,f 65,f 66,f 67,f 68,f 69,f 70,f 71,f 72,f 73,f 74,f 75,f 76,f 77,f 78,f 79,f 80,f 81,f 82,f 83,f 84,f 85,f 86,f 87,f 88,f 89,f 90,f 91,f 92,f 93,f 94,f 95,f 96,f 97,f 98,f 99,f 100,f 101,f 102,f 103,f 104,f 105,f 106,f 107,f 108,f 109,f 110,f 111,f 112,f 113,f 114,f 115,f 116,f 117,f 118,f 119,f 120,f 121,f 122,f 123,f 124,f 125,f 126,f 127,f 128,f 129,f 130,f 131,f 132,f 133,f 134,f 135,f 136,f 137,f 138,f 139,f 140,f 141,f 142,f 143,f 144,f 145,f 146,f 147,f 148,f 149,f 150,f 151,f 152,f 153,f 154,f 155,f 156]:=⟨fun i=>fr.getD i default,hfr⟩
 clear hfr;simp only at hmm;subst hf hmm;by_cases hlt:k<4
 ·have hk4:k=0∨k=1∨k=2∨k=3:=by omega
  obtain⟨x,hx⟩: ∃x,[c0,c1,c2,c3][k]? =some x:=⟨_,List.getElem?_eq_getElem (by simpa using hlt)⟩
  have hwx:Wd x:=by rcases hk4 with rfl|rfl|rfl|rfl<;>(simp at hx;subst hx;assumption)
  have hx2:[Value.int .u64 (c0:Nat),Value.int .u64 (c1:Nat),Value.int .u64 (c2:Nat),Value.int .u64 (c3:Nat)][k]? =some (Value.int .u64 (x:Nat)):=by rcases hk4 with rfl|rfl|rfl|rfl<;>(simp at hx;subst hx;rfl)
  have hR1:=hR k x t0 t1 t2 t3 t4 hlt hx hRk;have hdec:decide ((k:Int)<4)=true:=decide_eq_true (by omega);have hadd: ∀k:Nat,k<4→IntKind.i64.wrap ((k:Int)+1)=((k+1:Nat):Int):=fun k hk=>by rw[Af (by omega) (by omega)];omega
  iterate 2 refine t_k ?_
  refine t_s (by exact A4 rfl gg rfl rfl hdec) ?_;iterate 8 refine t_k ?_
  refine t_s (by exact Qm rfl gg rfl rfl underlying96 sizeOf22 underlying22 rfl hlt hx2) ?_;iterate 9 refine t_k ?_
  refine t_3 ?_;iterate 3 refine t_k ?_
  refine Ce 5 ?_
  iterate 4
   refine Ci ?_
   refine t_1 ?_;iterate 9 refine t_k ?_
   refine Lp ?_
   refine t_s (by exact AS rfl gg rfl (eo func105) (fun w _=>hmul _ _ hwx (by assumption) w)) ?_;iterate 14 refine t_k ?_
   refine Dp ?_;refine t_4 ?_;refine t_s (by exact Ft rfl gg rfl (by intro w;first|exact e1 _ _ _ w)) ?_;iterate 10 refine t_k ?_
   refine Dz ?_
   refine t_s (by exact Ft rfl gg rfl (by intro w;first|exact e2z _ _ _ w|exact e2 _ _ _ _ w)) ?_;iterate 11 refine t_k ?_
   refine t_1 ?_;refine Dp ?_;refine Jk ?_
   refine E1 ?_
  refine Ci ?_
  refine FW ?_
  refine Aq ?_;change VOk _ _ _ _ _;iterate 6 refine t_k ?_
  refine Dp ?_;refine t_4 ?_;refine t_k ?_;refine t_s (by exact Ft rfl gg rfl (by intro w;first|exact e3 _ _ w)) ?_;iterate 3 refine t_k ?_
  refine Dp ?_;refine GC ?_;iterate 5 refine t_k ?_
  refine Dp ?_;refine Jk ?_
  refine Dp ?_;refine t_4 ?_;iterate 2 refine t_k ?_
  refine t_s (by first|exact Cn rfl gg rfl underlying150 rfl sizeOf22|exact Cm rfl gg rfl underlying150 rfl sizeOf22) ?_;refine t_s (by exact Ck rfl gg rfl underlying22 rfl hn) ?_;refine Lp ?_
  refine D2 ?_;refine t_8 ?_;refine t_4 ?_;refine t_s (by exact AS rfl gg rfl (eo func105) (fun w _=>hmul _ _ (wq _) wm0 w)) ?_;iterate 9 refine t_k ?_
  refine Dp ?_;refine t_4 ?_;refine t_s (by exact Ft rfl gg rfl (by intro w;first|exact e1 _ _ _ w)) ?_;iterate 9 refine t_k ?_
  refine G6 ?_
  refine Ce 4 ?_
  iterate 3
   change VOk _ _ _ _ _;iterate 4 refine t_k ?_
   refine t_1 ?_;iterate 11 refine t_k ?_
   refine D2 ?_;refine t_8 ?_;refine t_4 ?_;refine t_s (by exact AS rfl gg rfl (eo func105) (fun w _=>hmul _ _ (wq _) (by assumption) w)) ?_;iterate 10 refine t_k ?_
   refine Dp ?_;refine t_4 ?_;refine t_s (by exact Ft rfl gg rfl (by intro w;first|exact e1 _ _ _ w)) ?_;iterate 10 refine t_k ?_
   refine Dz ?_
   refine t_s (by exact Ft rfl gg rfl (by intro w;first|exact e2 _ _ _ _ w)) ?_;iterate 8 refine t_k ?_
   refine FW ?_
   refine t_1 ?_;refine Dp ?_;refine GC ?_;iterate 4 refine t_k ?_
   refine E1 ?_
  change VOk _ _ _ _ _;iterate 4 refine t_k ?_
  refine E1 ?_
  refine Aq ?_;refine Ci ?_
  refine Dp ?_;refine t_4 ?_;refine t_k ?_;refine t_s (by exact Ft rfl gg rfl (by intro w;first|exact e3 _ _ w)) ?_;iterate 3 refine t_k ?_
  refine Dp ?_;refine Jk ?_
  refine Dp ?_;refine t_4 ?_;refine t_k ?_;refine t_1 ?_;refine Dp ?_;refine GC ?_;iterate 2 refine t_k ?_
  refine t_s (by exact A2 rfl gg rfl rfl (hadd k hlt)) ?_;iterate 2 refine t_k ?_
  exact⟨n-1,by omega,k+1,_,_,_,_,_,_,by omega,hR1,rfl,rfl⟩
 ·have hk4:k=4:=by omega
  subst hk4;iterate 2 refine t_k ?_
  refine t_s (by exact A4 (p:=false) rfl gg rfl rfl (by decide)) ?_;iterate 3 refine t_k ?_
  refine Aq ?_;change VOk _ _ _ _ _;iterate 3 refine t_k ?_
  refine t_s (by exact nj rfl gg rfl rfl underlying177 sizeOf22 (by decide)) ?_;refine t_s (by exact K8 rfl gg rfl underlying96 (by decide)) ?_;refine t_3 ?_;refine Dp ?_;refine t_4 ?_;refine t_s (by exact AS rfl gg rfl (eo func78) (hsh _ _ _ _ _ hRk)) ?_;refine Dd ?_;refine AD (AM results72 (Ad rfl rfl underlying96 rfl sizeOf96 rfl rfl)) ?_;intro w' hg;exact⟨rfl,hg⟩
theorem fe(orr:Nat→Nat→Nat)(cv:Nat→Nat)(shl:Nat→Int→Nat)(c0 c1 c2 c3 c4 c5 c6 c7 c8 c9 c10 c11 c12 c13 c14 c15 c16 c17 c18 c19 c20 c21 c22 c23 c24 c25 c26 c27 c28 c29 c30 c31:Nat)(w:World)
 (hcv: ∀(x:Nat) (w:World),(convert 5 22 (.int .u8 (x:Nat))).run prog w= .ok (.int .u64 (cv x:Nat)) w)
 (hor: ∀(x y:Nat) (p q:Operand) (w:World),(do eqGuard .or 22 p q (.int .u64 (x:Nat)) (.int .u64 (y:Nat));binOp .or 22 (.int .u64 (x:Nat)) (.int .u64 (y:Nat)):Sem Value).run prog w= .ok (.int .u64 (orr x y:Nat)) w)
 (_hor0: ∀(y:Nat) (p q:Operand) (w:World),(do eqGuard .or 22 p q (.int .u64 0) (.int .u64 (y:Nat));binOp .or 22 (.int .u64 0) (.int .u64 (y:Nat)):Sem Value).run prog w= .ok (.int .u64 (orr 0 y:Nat)) w)
 (hshl: ∀(x:Nat) (s:Int) (_:0≤s) (_:s<64) (p q:Operand) (w:World),(do eqGuard .shl 22 p q (.int .u64 (x:Nat)) (.int .i64 s);binOp .shl 22 (.int .u64 (x:Nat)) (.int .i64 s):Sem Value).run prog w= .ok (.int .u64 (shl x s:Nat)) w):
 CGy 41 #[.agg #[.int .u8 (c0:Nat),.int .u8 (c1:Nat),.int .u8 (c2:Nat),.int .u8 (c3:Nat),.int .u8 (c4:Nat),.int .u8 (c5:Nat),.int .u8 (c6:Nat),.int .u8 (c7:Nat),.int .u8 (c8:Nat),.int .u8 (c9:Nat),.int .u8 (c10:Nat),.int .u8 (c11:Nat),.int .u8 (c12:Nat),.int .u8 (c13:Nat),.int .u8 (c14:Nat),.int .u8 (c15:Nat),.int .u8 (c16:Nat),.int .u8 (c17:Nat),.int .u8 (c18:Nat),.int .u8 (c19:Nat),.int .u8 (c20:Nat),.int .u8 (c21:Nat),.int .u8 (c22:Nat),.int .u8 (c23:Nat),.int .u8 (c24:Nat),.int .u8 (c25:Nat),.int .u8 (c26:Nat),.int .u8 (c27:Nat),.int .u8 (c28:Nat),.int .u8 (c29:Nat),.int .u8 (c30:Nat),.int .u8 (c31:Nat)]] w (.agg #[.int .u64 ((orr (orr (orr (orr (orr (orr (orr (orr 0 (shl (cv c24) 56)) (shl (cv c25) 48)) (shl (cv c26) 40)) (shl (cv c27) 32)) (shl (cv c28) 24)) (shl (cv c29) 16)) (shl (cv c30) 8)) (shl (cv c31) 0)):Nat),.int .u64 ((orr (orr (orr (orr (orr (orr (orr (orr 0 (shl (cv c16) 56)) (shl (cv c17) 48)) (shl (cv c18) 40)) (shl (cv c19) 32)) (shl (cv c20) 24)) (shl (cv c21) 16)) (shl (cv c22) 8)) (shl (cv c23) 0)):Nat),.int .u64 ((orr (orr (orr (orr (orr (orr (orr (orr 0 (shl (cv c8) 56)) (shl (cv c9) 48)) (shl (cv c10) 40)) (shl (cv c11) 32)) (shl (cv c12) 24)) (shl (cv c13) 16)) (shl (cv c14) 8)) (shl (cv c15) 0)):Nat),.int .u64 ((orr (orr (orr (orr (orr (orr (orr (orr 0 (shl (cv c0) 56)) (shl (cv c1) 48)) (shl (cv c2) 40)) (shl (cv c3) 32)) (shl (cv c4) 24)) (shl (cv c5) 16)) (shl (cv c6) 8)) (shl (cv c7) 0)):Nat)]):=by
 go_enter func41,ntmps41
 refine EZ ?_
 refine IH ?_
 refine Jl ?_
 refine Se ?_;iterate 3 refine t_k ?_
 refine Ce 33 ?_
 iterate 32
  refine Ci ?_
  refine t_1 ?_;iterate 9 refine t_k ?_
  refine G7 ?_
  iterate 2 refine t_1 ?_
  refine t_8 ?_;refine t_4 ?_;refine t_k ?_;refine t_s (by exact A5 rfl gg rfl (fun w=>hcv _ w)) ?_;refine t_k ?_;iterate 3 refine t_1 ?_
  refine t_s (by exact AN rfl gg rfl rfl (fun w=>hshl _ _ (by decide) (by decide) _ _ w)) ?_;refine t_s (by first|exact AN rfl gg rfl rfl (fun w=>hor _ _ _ _ w)|exact AN rfl gg rfl rfl (fun w=>hor0 _ _ _ w)) ?_;refine t_8 ?_;refine GC ?_;iterate 2 refine t_k ?_
  refine E1 ?_
 refine Ci ?_
 refine FW ?_
 refine Aq ?_;refine Ci ?_
 refine t_3 ?_;refine Dd ?_;refine AD (AM results41 (Ad rfl rfl underlying96 rfl sizeOf96 rfl rfl)) ?_;intro w' hg;exact⟨rfl,hg⟩
end Go.Proofs.YtefpajmkaaielaaGreatDoor
