import Derived.Test.YtafbhakmkbehiaaGreatDoorZ2
import Derived.Test.YtafbhakmkbehiaaGreatDoorZ3
open Go.Proofs.Tryz
set_option maxHeartbeats 4000000
set_option maxRecDepth 100000
namespace Go.Proofs.YtafbhakmkbehiaaGreatDoor
open Go.RowKit Go.Toll
theorem nd(lo sh up:Nat→Nat)(orr:Nat→Nat→Nat)(a0 a1 a2 a3:Nat)(c:Nat)(w:World)
 (hlo: ∀(x:Nat) (p q:Operand) (w:World),(do eqGuard .and 49 p q (.int .u64 (x:Nat)) (.int .u64 1);binOp .and 49 (.int .u64 (x:Nat)) (.int .u64 1):Sem Value).run prog w= .ok (.int .u64 (lo x:Nat)) w)
 (hsh: ∀(x:Nat) (p q:Operand) (w:World),(do eqGuard .shr 49 p q (.int .u64 (x:Nat)) (.int .u64 1);binOp .shr 49 (.int .u64 (x:Nat)) (.int .u64 1):Sem Value).run prog w= .ok (.int .u64 (sh x:Nat)) w)
 (hup: ∀(x:Nat) (p q:Operand) (w:World),(do eqGuard .shl 49 p q (.int .u64 (x:Nat)) (.int .u64 63);binOp .shl 49 (.int .u64 (x:Nat)) (.int .u64 63):Sem Value).run prog w= .ok (.int .u64 (up x:Nat)) w)
 (hor: ∀(x y:Nat) (p q:Operand) (w:World),(do eqGuard .or 49 p q (.int .u64 (x:Nat)) (.int .u64 (y:Nat));binOp .or 49 (.int .u64 (x:Nat)) (.int .u64 (y:Nat)):Sem Value).run prog w= .ok (.int .u64 (orr x y:Nat)) w):
 Calls prog 127 #[.agg #[.int .u64 (a0:Nat),.int .u64 (a1:Nat),.int .u64 (a2:Nat),.int .u64 (a3:Nat)],.int .u64 (c:Nat)] w fun e w'=>e= .returned (.agg #[.int .u64 (orr (sh a0) (up (lo a1)):Nat),.int .u64 (orr (sh a1) (up (lo a2)):Nat),.int .u64 (orr (sh a2) (up (lo a3)):Nat),.int .u64 (orr (sh a3) (up c):Nat)])∧Gw w w':=by
 go_enter func127,ntmps127
 refine Dr ?_
 refine GY ?_;iterate 7 refine t_k ?_
 refine Br 5 ?_
 iterate 3
  refine Bv ?_
  refine t_1 ?_;iterate 20 refine t_k ?_
  refine D9 ?_
  refine t_1 ?_;refine t_8 ?_;refine t_4 ?_;refine t_s (by exact AK rfl gg rfl rfl (fun w=>hlo _ _ _ w)) ?_;iterate 5 refine t_k ?_
  refine t_8 ?_;refine t_4 ?_;refine t_s (by exact AK rfl gg rfl rfl (fun w=>hsh _ _ _ w)) ?_;refine t_k ?_;refine t_s (by exact AK rfl gg rfl rfl (fun w=>hup _ _ _ w)) ?_;refine t_s (by exact AK rfl gg rfl rfl (fun w=>hor _ _ _ _ w)) ?_;refine t_8 ?_;refine GX ?_;iterate 2 refine t_k ?_
  refine Cw ?_
 refine Bv ?_
 refine DF ?_
 iterate 2
  iterate 5 refine t_k ?_
 iterate 4 refine t_k ?_
 refine DF ?_
 refine t_8 ?_;refine t_4 ?_;refine t_s (by exact AK rfl gg rfl rfl (fun w=>hsh _ _ _ w)) ?_;refine t_k ?_;refine t_s (by exact AK rfl gg rfl rfl (fun w=>hup _ _ _ w)) ?_;refine t_s (by exact AK rfl gg rfl rfl (fun w=>hor _ _ _ _ w)) ?_;refine t_8 ?_;refine GX ?_;iterate 2 refine t_k ?_
 refine D9 ?_
 refine HC ?_
 refine As ?_;refine Bv ?_
 refine t_3 ?_;refine Dy ?_;refine AD (AH results127 (Ac rfl rfl underlying147 rfl sizeOf147 rfl rfl)) ?_;intro w' hg;exact⟨rfl,hg⟩
theorem nZ(b:Nat)(a0 a1 a2 a3 y0 y1 y2 y3:Nat)(w:World)
 (hz: ∀(_x:Nat) (p q:Operand) (w:World),(do eqGuard .and 49 p q (.int .u64 (a0:Nat)) (.int .u64 1);binOp .and 49 (.int .u64 (a0:Nat)) (.int .u64 1):Sem Value).run prog w= .ok (.int .u64 0) w)(h1: ∀w',Gw w w'→Calls prog 127 #[.agg #[.int .u64 (a0:Nat),.int .u64 (a1:Nat),.int .u64 (a2:Nat),.int .u64 (a3:Nat)],.int .u64 0] w' fun e w''=>e= .returned (.agg #[.int .u64 (y0:Nat),.int .u64 (y1:Nat),.int .u64 (y2:Nat),.int .u64 (y3:Nat)])∧Gw w' w''):
 Calls prog 128 #[.pointer (some ⟨b,0,none⟩),.agg #[.int .u64 (a0:Nat),.int .u64 (a1:Nat),.int .u64 (a2:Nat),.int .u64 (a3:Nat)]] w fun e w'=>e= .returned (.agg #[.int .u64 (y0:Nat),.int .u64 (y1:Nat),.int .u64 (y2:Nat),.int .u64 (y3:Nat)])∧Gw w w':=by
 go_enter func128,ntmps128
 refine Dr ?_
 refine GR ?_
 refine t_8 ?_;refine t_4 ?_;refine t_s (by exact AK rfl gg rfl rfl (fun w=>hz 0 _ _ w)) ?_;refine D9 ?_
 refine t_3 ?_;refine t_s (by exact AM rfl gg rfl (eo func127) h1) ?_;refine Dy ?_;refine AD (AH results128 (Ac rfl rfl underlying147 rfl sizeOf147 rfl rfl)) ?_;intro w' hg;exact⟨rfl,hg⟩
theorem nY(b:Nat)(a0 a1 a2 a3 m0 m1 m2 m3 s0 s1 s2 s3 y0 y1 y2 y3:Nat)(c:Nat)(w:World)(hm: ∀(j:Nat) (v:Value),[.int .u64 (m0:Nat),.int .u64 (m1:Nat),.int .u64 (m2:Nat),.int .u64 (m3:Nat)][j]? =some v→w.cell? ⟨b,0+j,none⟩=some v)
 (hz: ∀(_x:Nat) (p q:Operand) (w:World),(do eqGuard .and 49 p q (.int .u64 (a0:Nat)) (.int .u64 1);binOp .and 49 (.int .u64 (a0:Nat)) (.int .u64 1):Sem Value).run prog w= .ok (.int .u64 1) w)(h1: ∀w',Gw w w'→Calls prog 159 #[.agg #[.int .u64 (a0:Nat),.int .u64 (a1:Nat),.int .u64 (a2:Nat),.int .u64 (a3:Nat)],.agg #[.int .u64 (m0:Nat),.int .u64 (m1:Nat),.int .u64 (m2:Nat),.int .u64 (m3:Nat)]] w' fun e w''=>e= .returned (.tuple #[.agg #[.int .u64 (s0:Nat),.int .u64 (s1:Nat),.int .u64 (s2:Nat),.int .u64 (s3:Nat)],.int .u64 (c:Nat)])∧Gw w' w'')(h2: ∀w',Gw w w'→Calls prog 127 #[.agg #[.int .u64 (s0:Nat),.int .u64 (s1:Nat),.int .u64 (s2:Nat),.int .u64 (s3:Nat)],.int .u64 (c:Nat)] w' fun e w''=>e= .returned (.agg #[.int .u64 (y0:Nat),.int .u64 (y1:Nat),.int .u64 (y2:Nat),.int .u64 (y3:Nat)])∧Gw w' w''):
 Calls prog 128 #[.pointer (some ⟨b,0,none⟩),.agg #[.int .u64 (a0:Nat),.int .u64 (a1:Nat),.int .u64 (a2:Nat),.int .u64 (a3:Nat)]] w fun e w'=>e= .returned (.agg #[.int .u64 (y0:Nat),.int .u64 (y1:Nat),.int .u64 (y2:Nat),.int .u64 (y3:Nat)])∧Gw w w':=by
 go_enter func128,ntmps128
 refine Dr ?_
 refine GR ?_
 refine t_8 ?_;refine t_4 ?_;refine t_s (by exact AK rfl gg rfl rfl (fun w=>hz 0 _ _ w)) ?_;refine J2 ?_
 refine t_3 ?_;iterate 2 refine t_k ?_
 refine Ec ?_;refine t_3 ?_;refine t_s (by exact AM rfl gg rfl (eo func159) h1) ?_;iterate 3 refine t_k ?_
 refine Hl ?_;iterate 4 refine t_k ?_
 refine t_3 ?_;refine t_k ?_;refine t_s (by exact AM rfl gg rfl (eo func127) h2) ?_;refine Dy ?_;refine AD (AH results128 (Ac rfl rfl underlying147 rfl sizeOf147 rfl rfl)) ?_;intro w' hg;exact⟨rfl,hg⟩
theorem m9(b:Nat)(l:Nat→Nat→Nat)(x u0 m one zr:Nat)(w:World)(hm: ∀(j:Nat) (v:Value),[.int .u64 (l m 0:Nat),.int .u64 (l m 1:Nat),.int .u64 (l m 2:Nat),.int .u64 (l m 3:Nat)][j]? =some v→w.cell? ⟨b,0+j,none⟩=some v)(nz n1:Nat→Bool)(par:Nat→Nat)(hf hv:Nat→Nat)(lt:Nat→Nat→Bool)(sb bo ms:Nat→Nat→Nat)(R:Nat→Nat→Nat→Nat→Prop)
 (hone:l one 0=1∧l one 1=0∧l one 2=0∧l one 3=0)(hzero:l zr 0=0∧l zr 1=0∧l zr 2=0∧l zr 3=0)
 (h1: ∀w',Gw w w'→Calls prog 88 #[.pointer (some ⟨b,0,none⟩),.agg #[.int .u64 (l x 0:Nat),.int .u64 (l x 1:Nat),.int .u64 (l x 2:Nat),.int .u64 (l x 3:Nat)]] w' fun e w''=>e= .returned (.agg #[.int .u64 (l u0 0:Nat),.int .u64 (l u0 1:Nat),.int .u64 (l u0 2:Nat),.int .u64 (l u0 3:Nat)])∧Gw w' w'')
 (hR:R u0 m one zr)
 (hnz: ∀(u:Nat) (p q:Operand) (w:World),(do eqGuard .neq 147 p q (.agg #[.int .u64 (l u 0:Nat),.int .u64 (l u 1:Nat),.int .u64 (l u 2:Nat),.int .u64 (l u 3:Nat)]) (.agg #[.int .u64 0,.int .u64 0,.int .u64 0,.int .u64 0]);binOp .neq 147 (.agg #[.int .u64 (l u 0:Nat),.int .u64 (l u 1:Nat),.int .u64 (l u 2:Nat),.int .u64 (l u 3:Nat)]) (.agg #[.int .u64 0,.int .u64 0,.int .u64 0,.int .u64 0]):Sem Value).run prog w= .ok (.bool (nz u)) w)
 (hn1: ∀(u:Nat) (p q:Operand) (w:World),(do eqGuard .neq 147 p q (.agg #[.int .u64 (l u 0:Nat),.int .u64 (l u 1:Nat),.int .u64 (l u 2:Nat),.int .u64 (l u 3:Nat)]) (.agg #[.int .u64 1,.int .u64 0,.int .u64 0,.int .u64 0]);binOp .neq 147 (.agg #[.int .u64 (l u 0:Nat),.int .u64 (l u 1:Nat),.int .u64 (l u 2:Nat),.int .u64 (l u 3:Nat)]) (.agg #[.int .u64 1,.int .u64 0,.int .u64 0,.int .u64 0]):Sem Value).run prog w= .ok (.bool (n1 u)) w)
 (hpar: ∀(u:Nat) (p q:Operand) (w:World),(do eqGuard .and 49 p q (.int .u64 (l u 0:Nat)) (.int .u64 1);binOp .and 49 (.int .u64 (l u 0:Nat)) (.int .u64 1):Sem Value).run prog w= .ok (.int .u64 (par u:Nat)) w)
 (hhf: ∀u v a d:Nat,R u v a d→nz u=true→par u=0→ ∀w',Gw w w'→Calls prog 127 #[.agg #[.int .u64 (l u 0:Nat),.int .u64 (l u 1:Nat),.int .u64 (l u 2:Nat),.int .u64 (l u 3:Nat)],.int .u64 0] w' fun e w''=>e= .returned (.agg #[.int .u64 (l (hf u) 0:Nat),.int .u64 (l (hf u) 1:Nat),.int .u64 (l (hf u) 2:Nat),.int .u64 (l (hf u) 3:Nat)])∧Gw w' w'')
 (hhv: ∀u v a d:Nat,R u v a d→nz u=true→par u=0→ ∀w',Gw w w'→Calls prog 128 #[.pointer (some ⟨b,0,none⟩),.agg #[.int .u64 (l a 0:Nat),.int .u64 (l a 1:Nat),.int .u64 (l a 2:Nat),.int .u64 (l a 3:Nat)]] w' fun e w''=>e= .returned (.agg #[.int .u64 (l (hv a) 0:Nat),.int .u64 (l (hv a) 1:Nat),.int .u64 (l (hv a) 2:Nat),.int .u64 (l (hv a) 3:Nat)])∧Gw w' w'')
 (hlt: ∀u v a d:Nat,R u v a d→nz u=true→par u≠0→ ∀w',Gw w w'→Calls prog 124 #[.agg #[.int .u64 (l u 0:Nat),.int .u64 (l u 1:Nat),.int .u64 (l u 2:Nat),.int .u64 (l u 3:Nat)],.agg #[.int .u64 (l v 0:Nat),.int .u64 (l v 1:Nat),.int .u64 (l v 2:Nat),.int .u64 (l v 3:Nat)]] w' fun e w''=>e= .returned (.bool (lt u v))∧Gw w' w'')
 (hsb: ∀u v a d:Nat,R u v a d→nz u=true→par u≠0→lt u v=false→ ∀w',Gw w w'→Calls prog 129 #[.agg #[.int .u64 (l u 0:Nat),.int .u64 (l u 1:Nat),.int .u64 (l u 2:Nat),.int .u64 (l u 3:Nat)],.agg #[.int .u64 (l v 0:Nat),.int .u64 (l v 1:Nat),.int .u64 (l v 2:Nat),.int .u64 (l v 3:Nat)]] w' fun e w''=>e= .returned (.tuple #[.agg #[.int .u64 (l (sb u v) 0:Nat),.int .u64 (l (sb u v) 1:Nat),.int .u64 (l (sb u v) 2:Nat),.int .u64 (l (sb u v) 3:Nat)],.int .u64 (bo u v:Nat)])∧Gw w' w'')
 (hsw: ∀u v a d:Nat,R u v a d→nz u=true→par u≠0→lt u v=true→ ∀w',Gw w w'→Calls prog 129 #[.agg #[.int .u64 (l v 0:Nat),.int .u64 (l v 1:Nat),.int .u64 (l v 2:Nat),.int .u64 (l v 3:Nat)],.agg #[.int .u64 (l u 0:Nat),.int .u64 (l u 1:Nat),.int .u64 (l u 2:Nat),.int .u64 (l u 3:Nat)]] w' fun e w''=>e= .returned (.tuple #[.agg #[.int .u64 (l (sb v u) 0:Nat),.int .u64 (l (sb v u) 1:Nat),.int .u64 (l (sb v u) 2:Nat),.int .u64 (l (sb v u) 3:Nat)],.int .u64 (bo v u:Nat)])∧Gw w' w'')
 (hms: ∀u v a d:Nat,R u v a d→nz u=true→par u≠0→lt u v=false→ ∀w',Gw w w'→Calls prog 130 #[.pointer (some ⟨b,0,none⟩),.agg #[.int .u64 (l a 0:Nat),.int .u64 (l a 1:Nat),.int .u64 (l a 2:Nat),.int .u64 (l a 3:Nat)],.agg #[.int .u64 (l d 0:Nat),.int .u64 (l d 1:Nat),.int .u64 (l d 2:Nat),.int .u64 (l d 3:Nat)]] w' fun e w''=>e= .returned (.agg #[.int .u64 (l (ms a d) 0:Nat),.int .u64 (l (ms a d) 1:Nat),.int .u64 (l (ms a d) 2:Nat),.int .u64 (l (ms a d) 3:Nat)])∧Gw w' w'')
 (hmw: ∀u v a d:Nat,R u v a d→nz u=true→par u≠0→lt u v=true→ ∀w',Gw w w'→Calls prog 130 #[.pointer (some ⟨b,0,none⟩),.agg #[.int .u64 (l d 0:Nat),.int .u64 (l d 1:Nat),.int .u64 (l d 2:Nat),.int .u64 (l d 3:Nat)],.agg #[.int .u64 (l a 0:Nat),.int .u64 (l a 1:Nat),.int .u64 (l a 2:Nat),.int .u64 (l a 3:Nat)]] w' fun e w''=>e= .returned (.agg #[.int .u64 (l (ms d a) 0:Nat),.int .u64 (l (ms d a) 1:Nat),.int .u64 (l (ms d a) 2:Nat),.int .u64 (l (ms d a) 3:Nat)])∧Gw w' w'')
 (se: ∀u v a d:Nat,R u v a d→nz u=true→par u=0→R (hf u) v (hv a) d∧hf u+v<u+v)
 (sg: ∀u v a d:Nat,R u v a d→nz u=true→par u≠0→lt u v=false→R (sb u v) v (ms a d) d∧sb u v+v<u+v)
 (sl: ∀u v a d:Nat,R u v a d→nz u=true→par u≠0→lt u v=true→R (sb v u) u (ms d a) a∧sb v u+u<u+v):
 Calls prog 81 #[.pointer (some ⟨b,0,none⟩),.agg #[.int .u64 (l x 0:Nat),.int .u64 (l x 1:Nat),.int .u64 (l x 2:Nat),.int .u64 (l x 3:Nat)]] w fun e w'=>(∃u v a d,R u v a d∧nz u=false∧((n1 v=true∧e= .returned (.tuple #[.agg #[.int .u64 0,.int .u64 0,.int .u64 0,.int .u64 0],.int .i64 1]))∨(n1 v=false∧e= .returned (.tuple #[.agg #[.int .u64 (l d 0:Nat),.int .u64 (l d 1:Nat),.int .u64 (l d 2:Nat),.int .u64 (l d 3:Nat)],.int .i64 0]))))∧Gw w w':=by
 go_enter func81,ntmps81
 refine Dr ?_
 refine GY ?_;iterate 6 refine t_k ?_
 refine DF ?_
 refine t_3 ?_;refine t_s (by exact AM rfl gg rfl (eo func88) (h1)) ?_;iterate 2 refine t_k ?_
 refine Ec ?_;refine t_3 ?_;iterate 2 refine GY ?_
 iterate 2 refine t_9 ?_
 iterate 3 refine t_k ?_
 iterate 2 refine t_1 ?_
 iterate 2 refine GY ?_
 iterate 2 refine t_9 ?_
 iterate 3 refine t_k ?_
 refine Ii (fun n s=> ∃(u v a d:Nat),n=u+v∧R u v a d∧s.fr=[.v (.pointer (some ⟨b,0,none⟩)),.v (.agg #[.int .u64 (l x 0:Nat),.int .u64 (l x 1:Nat),.int .u64 (l x 2:Nat),.int .u64 (l x 3:Nat)]),.v undef,.p 3 0,.p 4 0,.v (.int .i64 0),.p 6 0,.p 7 0,.p 8 0,.p 9 0,s.fr.getD 10 default,s.fr.getD 11 default,s.fr.getD 12 default,s.fr.getD 13 default,s.fr.getD 14 default,s.fr.getD 15 default,s.fr.getD 16 default,s.fr.getD 17 default,s.fr.getD 18 default,s.fr.getD 19 default,s.fr.getD 20 default,s.fr.getD 21 default,s.fr.getD 22 default,s.fr.getD 23 default,s.fr.getD 24 default,s.fr.getD 25 default,s.fr.getD 26 default,s.fr.getD 27 default,s.fr.getD 28 default,s.fr.getD 29 default,s.fr.getD 30 default,s.fr.getD 31 default,s.fr.getD 32 default,s.fr.getD 33 default,s.fr.getD 34 default,s.fr.getD 35 default,s.fr.getD 36 default,s.fr.getD 37 default,s.fr.getD 38 default,s.fr.getD 39 default,s.fr.getD 40 default,s.fr.getD 41 default,s.fr.getD 42 default,s.fr.getD 43 default,s.fr.getD 44 default,s.fr.getD 45 default,s.fr.getD 46 default,s.fr.getD 47 default,s.fr.getD 48 default,s.fr.getD 49 default,s.fr.getD 50 default,s.fr.getD 51 default,s.fr.getD 52 default,s.fr.getD 53 default,s.fr.getD 54 default,s.fr.getD 55 default,s.fr.getD 56 default,s.fr.getD 57 default]∧s.mem=AJ [(9,([.v (.int .u64 (l d 0:Nat)),.v (.int .u64 (l d 1:Nat)),.v (.int .u64 (l d 2:Nat)),.v (.int .u64 (l d 3:Nat))],147)),(8,([.v (.int .u64 (l a 0:Nat)),.v (.int .u64 (l a 1:Nat)),.v (.int .u64 (l a 2:Nat)),.v (.int .u64 (l a 3:Nat))],147)),(7,([.v (.int .u64 (l v 0:Nat)),.v (.int .u64 (l v 1:Nat)),.v (.int .u64 (l v 2:Nat)),.v (.int .u64 (l v 3:Nat))],147)),(6,([.v (.int .u64 (l u 0:Nat)),.v (.int .u64 (l u 1:Nat)),.v (.int .u64 (l u 2:Nat)),.v (.int .u64 (l u 3:Nat))],147)),(4,([.v (.int .u64 0),.v (.int .u64 0),.v (.int .u64 0),.v (.int .u64 0)],147)),(3,([.v (.int .u64 (l x 0:Nat)),.v (.int .u64 (l x 1:Nat)),.v (.int .u64 (l x 2:Nat)),.v (.int .u64 (l x 3:Nat))],147))]) ?_ (u0+m) ?_;rotate_left
 ·exact⟨u0,m,one,zr,rfl,hR,rfl,by simp only[hone,hzero];rfl⟩
 rintro n ⟨fr,mm⟩ ⟨u,v,a,d,hn,hRn,hfr,hmm⟩;obtain⟨f,hf⟩: ∃f:Nat→SV,fr=[.v (.pointer (some ⟨b,0,none⟩)),.v (.agg #[.int .u64 (l x 0:Nat),.int .u64 (l x 1:Nat),.int .u64 (l x 2:Nat),.int .u64 (l x 3:Nat)]),.v undef,.p 3 0,.p 4 0,.v (.int .i64 0),.p 6 0,.p 7 0,.p 8 0,.p 9 0,f 10,f 11,f 12,f 13,f 14,f 15,f 16,f 17,f 18,f 19,f 20,f 21,f 22,f 23,f 24,f 25,f 26,f 27,f 28,f 29,f 30,f 31,f 32,f 33,f 34,f 35,f 36,f 37,f 38,f 39,f 40,f 41,f 42,f 43,f 44,f 45,f 46,f 47,f 48,f 49,f 50,f 51,f 52,f 53,f 54,f 55,f 56,f 57]:=⟨fun i=>fr.getD i default,hfr⟩
 clear hfr;simp only at hmm;subst hf hmm;by_cases hz:nz u=true
 ·by_cases hp:par u=0
  ·have he:decide (((par u:Nat):Int)=0)=true:=decide_eq_true (by omega)
   iterate 3 refine t_k ?_
   refine t_3 ?_;refine t_1 ?_;refine ON ?_;iterate 8 refine t_k ?_
   refine t_8 ?_;refine t_4 ?_;refine t_s (by exact AK rfl gg rfl rfl (fun w=>hpar _ _ _ w)) ?_;refine t_s (by exact Ag (p:=true) rfl gg rfl rfl he) ?_;iterate 5 refine t_k ?_
   refine t_3 ?_;refine t_s (by exact AM rfl gg rfl (eo func127) (hhf _ _ _ _ hRn hz hp)) ?_;refine t_k ?_;refine t_3 ?_;refine t_s (by exact AM rfl gg rfl (eo func128) (hhv _ _ _ _ hRn hz hp)) ?_;iterate 2 refine t_9 ?_
   refine t_k ?_;refine As ?_;exact⟨_,by have:=(se _ _ _ _ hRn hz hp).2;omega,_,_,_,_,rfl,(se _ _ _ _ hRn hz hp).1,rfl,rfl⟩
  ·have he:decide (((par u:Nat):Int)=0)=false:=decide_eq_false (by omega)
   cases hl:lt u v
   ·skip
    iterate 3 refine t_k ?_
    refine t_3 ?_;refine t_1 ?_;refine ON ?_;iterate 8 refine t_k ?_
    refine t_8 ?_;refine t_4 ?_;refine t_s (by exact AK rfl gg rfl rfl (fun w=>hpar _ _ _ w)) ?_;refine t_s (by exact Ag (p:=false) rfl gg rfl rfl he) ?_;iterate 5 refine t_k ?_
    iterate 2 refine t_3 ?_
    refine t_s (by exact AM (v:= .bool false) rfl gg rfl (eo func124) (fun w' hw'=>by rw[←hl];exact hlt _ _ _ _ hRn hz hp w' hw')) ?_;iterate 6 refine t_k ?_
    iterate 2 refine t_3 ?_
    refine t_s (by exact AM rfl gg rfl (eo func129) (hsb _ _ _ _ hRn hz hp hl)) ?_;iterate 3 refine t_k ?_
    refine t_9 ?_;iterate 3 refine t_k ?_
    iterate 2 refine t_3 ?_
    refine t_s (by exact AM rfl gg rfl (eo func130) (hms _ _ _ _ hRn hz hp hl)) ?_;refine t_9 ?_;refine t_k ?_;exact⟨_,by have:=(sg _ _ _ _ hRn hz hp hl).2;omega,_,_,_,_,rfl,(sg _ _ _ _ hRn hz hp hl).1,rfl,rfl⟩
   ·skip
    iterate 3 refine t_k ?_
    refine t_3 ?_;refine t_1 ?_;refine ON ?_;iterate 8 refine t_k ?_
    refine t_8 ?_;refine t_4 ?_;refine t_s (by exact AK rfl gg rfl rfl (fun w=>hpar _ _ _ w)) ?_;refine t_s (by exact Ag (p:=false) rfl gg rfl rfl he) ?_;iterate 5 refine t_k ?_
    iterate 2 refine t_3 ?_
    refine t_s (by exact AM (v:= .bool true) rfl gg rfl (eo func124) (fun w' hw'=>by rw[←hl];exact hlt _ _ _ _ hRn hz hp w' hw')) ?_;iterate 4 refine t_k ?_
    iterate 4 refine t_3 ?_
    iterate 4 refine t_9 ?_
    iterate 3 refine t_k ?_
    iterate 2 refine t_3 ?_
    refine t_s (by exact AM rfl gg rfl (eo func129) (hsw _ _ _ _ hRn hz hp hl)) ?_;iterate 3 refine t_k ?_
    refine t_9 ?_;iterate 3 refine t_k ?_
    iterate 2 refine t_3 ?_
    refine t_s (by exact AM rfl gg rfl (eo func130) (hmw _ _ _ _ hRn hz hp hl)) ?_;refine t_9 ?_;refine t_k ?_;exact⟨_,by have:=(sl _ _ _ _ hRn hz hp hl).2;omega,_,_,_,_,rfl,(sl _ _ _ _ hRn hz hp hl).1,rfl,rfl⟩
 ·replace hz:nz u=false:=by simpa using hz
  iterate 3 refine t_k ?_
  refine t_3 ?_;refine t_1 ?_;refine ON ?_;iterate 2 refine t_k ?_
  refine As ?_;change VOk _ _ _ _ _;cases h1v:n1 v
  ·skip
   iterate 3 refine t_k ?_
   refine t_3 ?_;refine t_1 ?_;refine t_s (by exact AK rfl gg rfl rfl (fun w=>(hn1 _ _ _ w).trans (by rw[h1v]))) ?_;iterate 5 refine t_k ?_
   refine t_3 ?_;refine Fs ?_
   refine AG ?_;refine AD (Av results81 (Ac rfl rfl underlying147 rfl sizeOf147 rfl rfl) (AF rfl)) ?_;intro w' hg;exact⟨⟨_,_,_,_,hRn,hz,.inr ⟨h1v,rfl⟩⟩,hg⟩
  ·skip
   iterate 3 refine t_k ?_
   refine t_3 ?_;refine t_1 ?_;refine t_s (by exact AK rfl gg rfl rfl (fun w=>(hn1 _ _ _ w).trans (by rw[h1v]))) ?_;iterate 4 refine t_k ?_
   refine t_1 ?_;refine Fs ?_
   refine AG ?_;refine AD (Av results81 (Ac rfl rfl underlying147 rfl sizeOf147 rfl rfl) (AF rfl)) ?_;intro w' hg;exact⟨⟨_,_,_,_,hRn,hz,.inl ⟨h1v,rfl⟩⟩,hg⟩
theorem lO(l:Nat→Nat→Nat)(m x0 zr ng:Nat)(w:World)(mu s2:Nat→Nat)(mm:Nat→Nat→Nat)(sm cy dbl:Nat→Nat)(R:Nat→Nat→Nat→Prop)(hzero:l zr 0=0∧l zr 1=0∧l zr 2=0∧l zr 3=0)
 (hand: ∀(p q:Operand) (w:World),(do eqGuard .and 49 p q (.int .u64 ((l m 0):Nat)) (.int .u64 1);binOp .and 49 (.int .u64 ((l m 0):Nat)) (.int .u64 1):Sem Value).run prog w= .ok (.int .u64 1) w)(hone: ∀(p q:Operand) (w:World),(do eqGuard .eql 147 p q (.agg #[.int .u64 (l m 0:Nat),.int .u64 (l m 1:Nat),.int .u64 (l m 2:Nat),.int .u64 (l m 3:Nat)]) (.agg #[.int .u64 1,.int .u64 0,.int .u64 0,.int .u64 0]);binOp .eql 147 (.agg #[.int .u64 (l m 0:Nat),.int .u64 (l m 1:Nat),.int .u64 (l m 2:Nat),.int .u64 (l m 3:Nat)]) (.agg #[.int .u64 1,.int .u64 0,.int .u64 0,.int .u64 0]):Sem Value).run prog w= .ok (.bool false) w)
 (hmu: ∀(x:Nat) (p q:Operand) (w:World),(do eqGuard .mul 49 p q (.int .u64 ((l m 0):Nat)) (.int .u64 (x:Nat));binOp .mul 49 (.int .u64 ((l m 0):Nat)) (.int .u64 (x:Nat)):Sem Value).run prog w= .ok (.int .u64 (mu x:Nat)) w)
 (_hmu1: ∀(p q:Operand) (w:World),(do eqGuard .mul 49 p q (.int .u64 ((l m 0):Nat)) (.int .u64 1);binOp .mul 49 (.int .u64 ((l m 0):Nat)) (.int .u64 1):Sem Value).run prog w= .ok (.int .u64 (mu 1:Nat)) w)
 (hs2b: ∀(x:Nat) (p q:Operand) (w:World),(do eqGuard .sub 49 p q (.int .u64 2) (.int .u64 (x:Nat));binOp .sub 49 (.int .u64 2) (.int .u64 (x:Nat)):Sem Value).run prog w= .ok (.int .u64 (s2 x:Nat)) w)
 (hmm: ∀(x y:Nat) (p q:Operand) (w:World),(do eqGuard .mul 49 p q (.int .u64 (x:Nat)) (.int .u64 (y:Nat));binOp .mul 49 (.int .u64 (x:Nat)) (.int .u64 (y:Nat)):Sem Value).run prog w= .ok (.int .u64 (mm x y:Nat)) w)
 (_hmm1: ∀(y:Nat) (p q:Operand) (w:World),(do eqGuard .mul 49 p q (.int .u64 1) (.int .u64 (y:Nat));binOp .mul 49 (.int .u64 1) (.int .u64 (y:Nat)):Sem Value).run prog w= .ok (.int .u64 (mm 1 y:Nat)) w)
 (hng: ∀w:World,(Op.unary .neg (.int .u64 ((mm (mm (mm (mm (mm (mm 1 (s2 (mu 1))) (s2 (mu (mm 1 (s2 (mu 1)))))) (s2 (mu (mm (mm 1 (s2 (mu 1))) (s2 (mu (mm 1 (s2 (mu 1))))))))) (s2 (mu (mm (mm (mm 1 (s2 (mu 1))) (s2 (mu (mm 1 (s2 (mu 1)))))) (s2 (mu (mm (mm 1 (s2 (mu 1))) (s2 (mu (mm 1 (s2 (mu 1)))))))))))) (s2 (mu (mm (mm (mm (mm 1 (s2 (mu 1))) (s2 (mu (mm 1 (s2 (mu 1)))))) (s2 (mu (mm (mm 1 (s2 (mu 1))) (s2 (mu (mm 1 (s2 (mu 1))))))))) (s2 (mu (mm (mm (mm 1 (s2 (mu 1))) (s2 (mu (mm 1 (s2 (mu 1)))))) (s2 (mu (mm (mm 1 (s2 (mu 1))) (s2 (mu (mm 1 (s2 (mu 1))))))))))))))) (s2 (mu (mm (mm (mm (mm (mm 1 (s2 (mu 1))) (s2 (mu (mm 1 (s2 (mu 1)))))) (s2 (mu (mm (mm 1 (s2 (mu 1))) (s2 (mu (mm 1 (s2 (mu 1))))))))) (s2 (mu (mm (mm (mm 1 (s2 (mu 1))) (s2 (mu (mm 1 (s2 (mu 1)))))) (s2 (mu (mm (mm 1 (s2 (mu 1))) (s2 (mu (mm 1 (s2 (mu 1)))))))))))) (s2 (mu (mm (mm (mm (mm 1 (s2 (mu 1))) (s2 (mu (mm 1 (s2 (mu 1)))))) (s2 (mu (mm (mm 1 (s2 (mu 1))) (s2 (mu (mm 1 (s2 (mu 1))))))))) (s2 (mu (mm (mm (mm 1 (s2 (mu 1))) (s2 (mu (mm 1 (s2 (mu 1)))))) (s2 (mu (mm (mm 1 (s2 (mu 1))) (s2 (mu (mm 1 (s2 (mu 1)))))))))))))))))):Nat))).run prog w= .ok (.int .u64 (ng:Nat)) w)
 (hs0: ∀(w':World) (g:Nat),(∀(j:Nat) (v:Value),[.int .u64 (l m 0:Nat),.int .u64 (l m 1:Nat),.int .u64 (l m 2:Nat),.int .u64 (l m 3:Nat)][j]? =some v→w'.cell? ⟨g,0+j,none⟩=some v)→Calls prog 160 #[.pointer (some ⟨g,0,none⟩),.agg #[.int .u64 1,.int .u64 0,.int .u64 0,.int .u64 0],.int .u64 0] w' fun e w''=>e= .returned (.agg #[.int .u64 (l x0 0:Nat),.int .u64 (l x0 1:Nat),.int .u64 (l x0 2:Nat),.int .u64 (l x0 3:Nat)])∧Gw w' w'')
 (had: ∀i x o,i<512→R i x o→ ∀w',Gw w w'→Calls prog 159 #[.agg #[.int .u64 (l x 0:Nat),.int .u64 (l x 1:Nat),.int .u64 (l x 2:Nat),.int .u64 (l x 3:Nat)],.agg #[.int .u64 (l x 0:Nat),.int .u64 (l x 1:Nat),.int .u64 (l x 2:Nat),.int .u64 (l x 3:Nat)]] w' fun e w''=>e= .returned (.tuple #[.agg #[.int .u64 (l (sm x) 0:Nat),.int .u64 (l (sm x) 1:Nat),.int .u64 (l (sm x) 2:Nat),.int .u64 (l (sm x) 3:Nat)],.int .u64 (cy x:Nat)])∧Gw w' w'')
 (hsh: ∀i x o,i<512→R i x o→ ∀(w':World) (g:Nat),(∀(j:Nat) (v:Value),[.int .u64 (l m 0:Nat),.int .u64 (l m 1:Nat),.int .u64 (l m 2:Nat),.int .u64 (l m 3:Nat)][j]? =some v→w'.cell? ⟨g,0+j,none⟩=some v)→Calls prog 160 #[.pointer (some ⟨g,0,none⟩),.agg #[.int .u64 (l (sm x) 0:Nat),.int .u64 (l (sm x) 1:Nat),.int .u64 (l (sm x) 2:Nat),.int .u64 (l (sm x) 3:Nat)],.int .u64 (cy x:Nat)] w' fun e w''=>e= .returned (.agg #[.int .u64 (l (dbl x) 0:Nat),.int .u64 (l (dbl x) 1:Nat),.int .u64 (l (dbl x) 2:Nat),.int .u64 (l (dbl x) 3:Nat)])∧Gw w' w'')
 (hR:R 0 x0 zr)
 (hs: ∀i x o,i<512→i≠256→R i x o→R (i+1) (dbl x) o)
 (hs2: ∀x o,R 256 x o→R 257 (dbl x) x):
 Calls prog 126 #[.agg #[.int .u64 (l m 0:Nat),.int .u64 (l m 1:Nat),.int .u64 (l m 2:Nat),.int .u64 (l m 3:Nat)]] w fun e w'=> ∃x o g,R 512 x o∧w.heap.size≤g∧w'.heap[g]? =some (.cells #[.int .u64 (l m 0:Nat),.int .u64 (l m 1:Nat),.int .u64 (l m 2:Nat),.int .u64 (l m 3:Nat),.int .u64 (ng:Nat),.int .u64 (l o 0:Nat),.int .u64 (l o 1:Nat),.int .u64 (l o 2:Nat),.int .u64 (l o 3:Nat),.int .u64 (l x 0:Nat),.int .u64 (l x 1:Nat),.int .u64 (l x 2:Nat),.int .u64 (l x 3:Nat)] 199 (0,0))∧e= .returned (.tuple #[.pointer (some ⟨g,0,none⟩),.int .i64 0])∧Gw w w':=by
 go_enter func126,ntmps126
 refine GV ?_
 refine t_8 ?_;refine t_4 ?_;refine t_s (by exact AK rfl gg rfl rfl (fun w=>hand _ _ w)) ?_;refine t_1 ?_;refine t_k ?_;refine eU ?_;refine Hn ?_;refine t_s (by first|exact Ev.skip (fun _=>rfl)|exact AK rfl (fun _=>rfl) rfl rfl (fun w=>hone _ _ w)) ?_;refine J2 ?_
 refine t_3 ?_;refine t_1 ?_;iterate 13 refine t_k ?_
 refine Br 7 ?_;refine Bv ?_
 refine FE ?_
 refine t_8 ?_;refine t_4 ?_;refine t_k ?_;refine J7 ?_;refine J5 ?_;refine Lg ?_
 refine D9 ?_
 refine FE ?_
 refine t_8 ?_;refine t_4 ?_;refine t_k ?_;refine J7 ?_;refine J5 ?_;refine Lg ?_
 refine D9 ?_
 refine FE ?_
 refine t_8 ?_;refine t_4 ?_;refine t_k ?_;refine J7 ?_;refine J5 ?_;refine Lg ?_
 refine D9 ?_
 refine FE ?_
 refine t_8 ?_;refine t_4 ?_;refine t_k ?_;refine J7 ?_;refine J5 ?_;refine Lg ?_
 refine D9 ?_
 refine FE ?_
 refine t_8 ?_;refine t_4 ?_;refine t_k ?_;refine J7 ?_;refine J5 ?_;refine Lg ?_
 refine D9 ?_
 refine FE ?_
 refine t_8 ?_;refine t_4 ?_;refine t_k ?_;refine J7 ?_;refine J5 ?_;refine Lg ?_
 refine D9 ?_
 refine HC ?_
 refine As ?_;refine Ib ?_
 refine t_s (by exact NR rfl gg rfl (fun w=>hng w)) ?_;refine t_k ?_;refine t_s (by first|exact BG rfl gg rfl underlying199 rfl sizeOf49|exact BF rfl gg rfl underlying199 rfl sizeOf49) ?_;refine GX ?_;iterate 4 refine t_k ?_
 refine t_1 ?_;refine t_s (by exact Aj [21] rfl gg rfl (eo func160) (fun ρ w' hs'=>hs0 w' (ρ 21) (Rs hs' (by simp) rfl 0 _ rfl))) ?_;refine FD ?_
 refine Jw (fun i=>i==0||i==1||i==2||i==3||i==4||i==6||i==40) 999 fun f0=> ?_
 refine t_k ?_;refine Ii (fun n s=> ∃(f:Nat→Value) (i x o:Nat),n+i=512∧R i x o∧s.fr=[.v (.agg #[.int .u64 (l m 0:Nat),.int .u64 (l m 1:Nat),.int .u64 (l m 2:Nat),.int .u64 (l m 3:Nat)]),.p 1 0,.v (.pointer none),.v (.int .i64 0),.p 21 0,.v (f 5),.p 6 0,.v (f 7),.v (f 8),.v (f 9),.v (f 10),.v (f 11),.v (f 12),.v (f 13),.v (f 14),.v (f 15),.v (f 16),.v (f 17),.v (f 18),.v (f 19),.v (f 20),.v (f 21),.v (f 22),.v (f 23),.v (f 24),.v (f 25),.v (f 26),.v (f 27),.v (f 28),.v (f 29),.v (f 30),.v (f 31),.v (f 32),.v (f 33),.v (f 34),.v (f 35),.v (f 36),.v (f 37),.v (f 38),.v (f 39),.v (.int .i64 (i:Nat)),.v (f 41),.v (f 42),.v (f 43),.v (f 44),.v (f 45),.v (f 46),.v (f 47),.v (f 48),.v (f 49),.v (f 50),.v (f 51),.v (f 52),.v (f 53),.v (f 54),.v (f 55),.v (f 56),.v (f 57),.v (f 58),.v (f 59),.v (f 60),.v (f 61),.v (f 62),.v (f 63),.v (f 64)]∧s.mem=AJ [(6,([.v (.int .u64 (l x 0:Nat)),.v (.int .u64 (l x 1:Nat)),.v (.int .u64 (l x 2:Nat)),.v (.int .u64 (l x 3:Nat))],147)),(21,([.v (.int .u64 (l m 0:Nat)),.v (.int .u64 (l m 1:Nat)),.v (.int .u64 (l m 2:Nat)),.v (.int .u64 (l m 3:Nat)),.v (.int .u64 (ng:Nat)),.v (.int .u64 (l o 0:Nat)),.v (.int .u64 (l o 1:Nat)),.v (.int .u64 (l o 2:Nat)),.v (.int .u64 (l o 3:Nat)),.v (.int .u64 0),.v (.int .u64 0),.v (.int .u64 0),.v (.int .u64 0)],199)),(1,([.v (.int .u64 (l m 0:Nat)),.v (.int .u64 (l m 1:Nat)),.v (.int .u64 (l m 2:Nat)),.v (.int .u64 (l m 3:Nat))],147))]) ?_ 512 ?_;rotate_left
 ·exact⟨f0,0,x0,zr,rfl,hR,rfl,by simp only[hzero];exact lm rfl⟩
 rintro n ⟨fr,mm'⟩ ⟨f,i,x,o,hn,hRn,hfr,hmm'⟩;simp only at hfr hmm';subst hfr hmm';by_cases hlt:i<512
 ·have hdec:decide ((i:Int)<512)=true:=decide_eq_true (by omega)
  have hadd:IntKind.i64.wrap ((i:Int)+1)=((i+1:Nat):Int):=by rw[Ah (by omega) (by omega)];omega
  refine dX (fun i=>i==0||i==1||i==2||i==3||i==4||i==6||i==40) 8 ?_;by_cases h256:i=256
  ·have hdq:decide ((i:Int)=256)=true:=decide_eq_true (by omega)
   iterate 2 refine t_k ?_
   refine t_s (by exact BM rfl gg rfl rfl hdec) ?_;iterate 15 refine t_k ?_
   refine t_s (by exact Ag rfl gg rfl rfl hdq) ?_;iterate 4 refine t_k ?_
   refine t_3 ?_;refine t_k ?_;refine Ec ?_;refine t_9 ?_;iterate 3 refine t_k ?_
   iterate 2 refine t_3 ?_
   refine t_s (by exact AM rfl gg rfl (eo func159) (had _ _ _ hlt hRn)) ?_;iterate 3 refine t_k ?_
   refine Hl ?_;iterate 4 refine t_k ?_
   refine t_3 ?_;refine t_k ?_;refine VW ?_;refine Fs ?_
   refine t_s (by exact BE rfl gg rfl rfl hadd) ?_;iterate 2 refine t_k ?_
   intro f';subst h256;exact⟨n-1,by omega,f',_,_,_,by omega,hs2 _ _ hRn,rfl,Ym rfl⟩
  ·have hdq:decide ((i:Int)=256)=false:=decide_eq_false (by omega)
   iterate 2 refine t_k ?_
   refine t_s (by exact BM rfl gg rfl rfl hdec) ?_;iterate 15 refine t_k ?_
   refine t_s (by exact Ag rfl gg rfl rfl hdq) ?_;iterate 5 refine t_k ?_
   iterate 2 refine t_3 ?_
   refine t_s (by exact AM rfl gg rfl (eo func159) (had _ _ _ hlt hRn)) ?_;iterate 3 refine t_k ?_
   refine Hl ?_;iterate 4 refine t_k ?_
   refine t_3 ?_;refine t_k ?_;refine VW ?_;refine Fs ?_
   refine t_s (by exact BE rfl gg rfl rfl hadd) ?_;iterate 2 refine t_k ?_
   intro f';exact⟨n-1,by omega,f',_,_,_,by omega,hs _ _ _ hlt h256 hRn,rfl,Ym rfl⟩
 ·obtain rfl:i=512:=by omega
  iterate 2 refine t_k ?_
  refine t_s (by exact BM (p:=false) rfl gg rfl rfl (by decide)) ?_;iterate 3 refine t_k ?_
  refine As ?_;change VOk _ _ _ _ _;change VOk _ _ _ _ _;iterate 3 refine t_k ?_
  refine t_3 ?_;refine t_k ?_;refine Ec ?_;refine t_9 ?_;iterate 7 refine t_k ?_
  refine AG ?_;refine kD rfl rfl rfl rfl rfl ?_;intro g w' h1 h2 h3;exact⟨_,_,_,hRn,h1,h2,rfl,h3⟩
end Go.Proofs.YtafbhakmkbehiaaGreatDoor
namespace TollNt
theorem jt:Prm 704251:=JA 839 (by decide+kernel)
theorem jr:Prm 78283:=JA 279 (by decide+kernel)
theorem jy:Prm 3677:=JA 60 (by decide+kernel)
theorem j6:Prm 197:=JA 14 (by decide+kernel)
theorem j8:Prm 155317:=JA 394 (by decide+kernel)
theorem jz:Prm 3023:=JA 54 (by decide+kernel)
theorem jw:Prm 3969899:=JA 1992 (by decide+kernel)
theorem jv:Prm 46076956964474543:=MK (q:=704251) (r:=78283) (a:=2) (b:=2) 56 jt jr (by decide+kernel)
theorem ju:Prm 66417393611:=MK (q:=3677) (r:=197) (a:=2) (b:=2) 36 jy j6 (by decide+kernel)
theorem kA:Prm 11290956913871:=KR (q:=66417393611) (a:=2) 44 ju (by decide+kernel)
theorem js:Prm 774023187263532362759620327192479577272145303:=MK (q:=46076956964474543) (r:=11290956913871) (a:=2) (b:=2) 150 jv kA (by decide+kernel)
theorem jq:Prm 835945042244614951780389953367877943453916927241:=KR (q:=774023187263532362759620327192479577272145303) (a:=2) 160 js (by decide+kernel)
theorem j9:Prm 115792089210356248762697446949407573530086143415290314195533631308867097853951:=KR (q:=835945042244614951780389953367877943453916927241) (a:=2) 256 jq (by decide+kernel)
theorem j7:Prm 191039911:=KR (q:=155317) (a:=2) 28 j8 (by decide+kernel)
theorem j5:Prm 208150935158385979:=MK (q:=191039911) (r:=3023) (a:=2) (b:=2) 58 j7 jz (by decide+kernel)
theorem j4:Prm 2624747550333869278416773953:=KR (q:=208150935158385979) (a:=2) 92 j5 (by decide+kernel)
theorem kB:Prm 1002328039319:=KR (q:=3969899) (a:=2) 40 jw (by decide+kernel)
theorem prm_115792089210356248762697446949407573529996955224135760342422259061068512044369:Prm 115792089210356248762697446949407573529996955224135760342422259061068512044369:=MK (q:=2624747550333869278416773953) (r:=1002328039319) (a:=2) (b:=2) 256 j4 kB (by decide+kernel)
end TollNt
namespace TollEc
open TollNt
abbrev pp:Nat:=115792089210356248762697446949407573530086143415290314195533631308867097853951
abbrev F:=Fin pp
def cb:F:=41058363725152142129326129780047268409114441015993725554835256314039467401291
theorem jp:Prm pp:=j9
theorem inv_ex(x:F)(hx:x≠0): ∃y:F,x*y=1:=by
 refine⟨⟨x.val^(pp-2) %pp,Nat.mod_lt _ (by decide)⟩,?_⟩;apply Fin.ext
 have hnd: ¬pp∣x.val:=by
  intro h;have:=Nat.eq_zero_of_dvd_of_lt h x.isLt;exact hx (Fin.ext this)
 have:=fermat jp hnd;rw[Fin.val_mul];show x.val*(x.val^(pp-2) %pp) %pp=1;rw[Nat.mul_mod_mod,Nat.mul_comm,←Nat.pow_succ];exact this
theorem FL{a b:F}(h:a*b=0):a=0∨b=0:=by
 by_cases ha:a=0
 ·exact .inl ha
 ·obtain⟨c,hc⟩:=inv_ex a ha
  right;have:b=c*(a*b):=by grind-lia
  rw[this,h];grind-lia
theorem UF{a b c:F}(ha:a≠0)(h:a*b=a*c):b=c:=by
 have h1:a*(b-c)=0:=by grind-lia
 rcases FL h1 with h2|h2
 ·exact absurd h2 ha
 ·grind-lia
open Classical in
noncomputable def EW(x:F):F:=if h: ∃y,x*y=1 then Classical.choose h else 0
theorem Jf{x:F}(h:x≠0):x*EW x=1:=by
 unfold EW;rw[dif_pos (inv_ex x h)];exact Classical.choose_spec (inv_ex x h)
theorem nt{x y:F}(h:x*y=1):EW x=y:=by
 have hx:x≠0:=by rintro rfl;exact absurd h (by grind-lia)
 exact UF hx ((Jf hx).trans h.symm)
inductive Pt where
 |inf
 |aff (x y:F)
deriving DecidableEq
def onE(x y:F):Prop:=y*y=x*x*x-3*x+cb
def Pt.on:Pt→Prop
 | .inf=>True
 | .aff x y=>onE x y
def neg:Pt→Pt
 | .inf=> .inf
 | .aff x y=> .aff x (-y)
noncomputable def Lw(x1 y1 x2 y2:F):F:=
 if x1=x2 then(3*(x1*x1)-3)*EW (y1+y2)else(y2-y1)*EW (x2-x1)
noncomputable def add:Pt→Pt→Pt
 | .inf,q=>q
 |p,.inf=>p
 | .aff x1 y1,.aff x2 y2=>
   if x1=x2∧y1+y2=0 then .inf
   else
    let s:=Lw x1 y1 x2 y2
    .aff (s*s-x1-x2) (s*(x1-(s*s-x1-x2))-y1)
theorem Hb(p:Pt):add p .inf=p:=by cases p<;>rfl
theorem GB(p:Pt):add .inf p=p:=by cases p<;>rfl
theorem rp(p:Pt):add p (neg p)= .inf:=by
 cases p with
 |inf=>rfl
 |aff x y=>
  have h:y+ -y=0:=by grind-lia
  simp only[neg,add,h,and_self,if_true]
theorem lQ(p:Pt):neg (neg p)=p:=by
 cases p with
 |inf=>rfl
 |aff x y=>simp only[neg];congr 1;grind-lia
theorem k9{p:Pt}(h:p.on):(neg p).on:=by
 cases p with
 |inf=>exact h
 |aff x y=>simp only[neg,Pt.on,onE]at *; grind-lia
theorem Jr{x1 y1 x2 y2 s:F}(hx:x1≠x2)(hs:s*(x2-x1)=y2-y1):
 add (.aff x1 y1) (.aff x2 y2)= .aff (s*s-x1-x2) (s*(x1-(s*s-x1-x2))-y1):=by
 have h0:x2-x1≠0:=by intro h;exact hx (by grind-lia)
 have hi:=Jf h0
 have:Lw x1 y1 x2 y2=s:=by
  unfold Lw;rw[if_neg hx,←hs];grind-lia
 simp only[add];rw[if_neg (fun h=>hx h.1),this]
theorem Ue{x y s:F}(hy:y+y≠0)(hs:s*(y+y)=3*(x*x)-3):
 add (.aff x y) (.aff x y)= .aff (s*s-x-x) (s*(x-(s*s-x-x))-y):=by
 have hi:=Jf hy
 have:Lw x y x y=s:=by
  unfold Lw;rw[if_pos rfl,←hs];grind-lia
 simp only[add];rw[if_neg (fun h=>hy h.2),this]
theorem PS{x1 y1 x2 y2:F}(h1:onE x1 y1)(h2:onE x2 y2)(hn: ¬(x1=x2∧y1+y2=0)):
 ∃l m x4:F,y1=l*x1+m∧y2=l*x2+m∧x4=l*l-x1-x2∧
  x1*x2+x1*x4+x2*x4+2*l*m+3=0∧cb=m*m-x1*x2*x4∧
  add (.aff x1 y1) (.aff x2 y2)= .aff x4 (-(l*x4+m)):=by
 unfold onE at h1 h2;by_cases hx:x1=x2
 ·subst hx
  have hy:y1+y2≠0:=fun h=>hn ⟨rfl,h⟩
  have hyy:(y1+y2)*(y1-y2)=0:=by grind-lia
  have hy12:y1=y2:=by
   rcases FL hyy with h|h
   ·exact absurd h hy
   ·grind-lia
  subst hy12;have hi:=Jf hy;generalize hl:(3*(x1*x1)-3)*EW (y1+y1)=l;have hs:l*(y1+y1)=3*(x1*x1)-3:=by rw[←hl];grind-lia
  clear hi hl;refine⟨l,y1-l*x1,l*l-x1-x1,by grind-lia,by grind-lia,rfl,by grind-lia,by grind-lia,?_⟩;rw[Ue hy hs];congr 1;grind-lia
 ·have h0:x2-x1≠0:=by intro h;exact hx (by grind-lia)
  have hi:=Jf h0;generalize hl:(y2-y1)*EW (x2-x1)=l;have hs:l*(x2-x1)=y2-y1:=by rw[←hl];grind-lia
  clear hi hl;obtain⟨m,rfl⟩: ∃m,y1=l*x1+m:=⟨y1-l*x1,by grind-lia⟩
  have hy2:y2=l*x2+m:=by grind-lia
  subst hy2;have hk:(x2-x1)*(x1*x2+x1*(l*l-x1-x2)+x2*(l*l-x1-x2)+2*l*m+3)=0:=by grind-lia
  have hR:x1*x2+x1*(l*l-x1-x2)+x2*(l*l-x1-x2)+2*l*m+3=0:=by
   rcases FL hk with h|h
   ·exact absurd h h0
   ·exact h
  refine⟨l,m,l*l-x1-x2,rfl,rfl,rfl,hR,by grind-lia,?_⟩;rw[Jr hx hs];congr 1;grind-lia
theorem lA{x1 x2 x4 l m:F}(h4:x4=l*l-x1-x2)(e3:x1*x2+x1*x4+x2*x4+2*l*m+3=0)
 (e4:cb=m*m-x1*x2*x4):onE x4 (l*x4+m):=by
 unfold onE
 have:(l*x4+m)*(l*x4+m)-(x4*x4*x4-3*x4+cb)=x4*(x1*x2+x1*x4+x2*x4+2*l*m+3):=by
  rw[e4];grind-lia
 rw[e3]at this
 grind-lia
theorem on_add{p q:Pt}(hp:p.on)(hq:q.on):(add p q).on:=by
 cases p with
 |inf=>rw[GB];exact hq
 |aff x1 y1=>
  cases q with
  |inf=>rw[Hb];exact hp
  |aff x2 y2=>
   by_cases hn:x1=x2∧y1+y2=0
   ·simp only[add,if_pos hn];exact True.intro
   ·obtain⟨l,m,x4,e1,e2,h4,e3,e4,e5⟩:=PS hp hq hn
    rw[e5];exact k9 (p:= .aff x4 (l*x4+m)) (lA h4 e3 e4)
theorem add_comm(p q:Pt)(hp:p.on)(hq:q.on):add p q=add q p:=by
 cases p with
 |inf=>rw[GB,Hb]
 |aff x1 y1=>
  cases q with
  |inf=>rw[GB,Hb]
  |aff x2 y2=>
   by_cases hx:x1=x2
   ·subst hx
    by_cases hn:y1+y2=0
    ·have hn':y2+y1=0:=by grind-lia
     simp only[add,hn,hn',and_self,if_true]
    ·simp only[Pt.on,onE]at hp hq
     have hyy:(y1+y2)*(y1-y2)=0:=by grind-lia
     have hy12:y1=y2:=by
      rcases FL hyy with h|h
      ·exact absurd h hn
      ·grind-lia
     rw[hy12]
   ·have h0:x2-x1≠0:=by intro h;exact hx (by grind-lia)
    have hi:=Jf h0;generalize hl:(y2-y1)*EW (x2-x1)=l;have hs:l*(x2-x1)=y2-y1:=by rw[←hl];grind-lia
    have hs':l*(x1-x2)=y1-y2:=by grind-lia
    clear hi hl hp hq;rw[Jr hx hs,Jr (fun h=>hx h.symm) hs'];congr 1
    ·grind-lia
    ·grind-lia
theorem fB{x:F}(h1:x*x=1)(h2:cb=2*x):False:=by
 have h3:cb*cb=4:=by rw[h2];grind-lia
 exact absurd h3 (by decide+kernel)
theorem VJ:(2:F)≠0:=by decide+kernel
theorem eE:(3:F)≠0:=by decide+kernel
theorem Ns{s b:Pt}(hs:s.on)(hb:b.on):add (add s b) (neg b)=s:=by
 cases b with
 |inf=>simp only[neg,Hb]
 |aff x2 y2=>
  cases s with
  |inf=>rw[GB,rp]
  |aff x1 y1=>
   by_cases hn:x1=x2∧y1+y2=0
   ·obtain⟨rfl,hy⟩:=hn
    simp only[add,hy,and_self,if_true,neg];congr 1;grind-lia
   ·obtain⟨l,m,x4,e1,e2,h4,e3,e4,e5⟩:=PS hs hb hn
    rw[e5];simp only[neg];clear hs hb e5 hn;by_cases hx:x4=x2
    ·subst hx
     have hy:y2+y2≠0:=by
      intro hy;have h2y:2*y2=0:=by grind-lia
      have hy0:y2=0:=by
       rcases FL h2y with h|h
       ·exact absurd h VJ
       ·exact h
      have hm:m= -(l*x4):=by grind-lia
      subst hm;have hx1:x1=l*l-x4-x4:=by grind-lia
      subst hx1;have h3:3*(x4*x4-1)=0:=by grind-lia
      have h5:x4*x4=1:=by
       rcases FL h3 with h|h
       ·exact absurd h eE
       ·grind-lia
      refine fB h5 ?_;rw[e4];grind-lia
     have hy': -y2+ -y2≠0:=by intro h;exact hy (by grind-lia)
     have ht:(-l)*(-y2+ -y2)=3*(x4*x4)-3:=by
      have hx1:x1=l*l-x4-x4:=by grind-lia
      subst hx1
      grind-lia
     rw[←e2,Ue hy' ht];congr 1<;>grind-lia
    ·have hsl:(-l)*(x2-x4)= -y2- -(l*x4+m):=by grind-lia
     rw[Jr hx hsl];congr 1<;>grind-lia
theorem ry{p q s:Pt}(hp:p.on)(hq:q.on)(hs:s.on)(h:add p s=add q s):p=q:=by
 rw[←Ns hp hs,h,Ns hq hs]
theorem rc(x1 x2 x3 l k w x4 x6:F)(hw:w*(k-l)=x3-x1)(h4:x4=l*l-x1-x2)(h6:x6=k*k-x2-x3):
 (w-l)*(w-l)-x3-x4=(w-k)*(w-k)-x1-x6:=by grind-lia
theorem rb(x1 x2 x3 y1 y2 y3 l k w x5:F)(hw:w*(k-l)=x3-x1)
 (h1:y1-y2=l*(x1-x2))(h3:y3-y2=k*(x3-x2))(h5:x5=(w-l)*(w-l)-x3-(l*l-x1-x2)):
 (w-l)*(x3-x5)-y3=(w-k)*(x1-x5)-y1:=by grind-lia
theorem L8{a b:F}(h:a-b=0):a=b:=by grind-lia
theorem ip{a b c:F}(h:b*c=1):a*c*b=a:=by grind-lia
theorem ir{x1 x2 x3 x4 l m:F}(h4:x4=l*l-x1-x2)(e3:x1*x2+x1*x4+x2*x4+2*l*m+3=0):
 x3*x3*x3-3*x3+(m*m-x1*x2*x4)-(l*x3+m)*(l*x3+m)=(x3-x1)*(x3-x2)*(x3-x4):=by
 have:x3*x3*x3-3*x3+(m*m-x1*x2*x4)-(l*x3+m)*(l*x3+m)-(x3-x1)*(x3-x2)*(x3-x4)= -x3*(x1*x2+x1*x4+x2*x4+2*l*m+3):=by
  subst h4;clear e3;grind-lia
 rw[e3]at this
 grind-lia
theorem L6{y2 y3 k x2 x3 q:F}(f1:y2=k*x2+q)(f2:y3=k*x3+q):y3=y2+k*(x3-x2):=by grind-lia
theorem r_g{x1 x2 x3 x4 y2 k l:F}(g:(y2+k*(x3-x2))*(y2+k*(x3-x2))-(y2+l*(x3-x2))*(y2+l*(x3-x2))=(x3-x1)*(x3-x2)*(x3-x4)):
 (x3-x2)*((k-l)*((k+l)*(x3-x2)+2*y2)-(x3-x1)*(x3-x4))=0:=by grind-lia
theorem im{x1 x3 x4 k l w:F}(hw:w*(k-l)=x3-x1):(k-l)*((w-l)*(x3-x4))=(x3-x1)*(x3-x4)-l*(k-l)*(x3-x4):=by grind-lia
theorem ik{x1 x3 x6 k l w:F}(hw:w*(k-l)=x3-x1):(k-l)*((w-k)*(x6-x1))=(x3-x1)*(x6-x1)-k*(k-l)*(x6-x1):=by grind-lia
theorem ij(x2 x3 x4 y2 k l:F):(k-l)*((k+l)*(x3-x2)+2*y2)-l*(k-l)*(x3-x4)=(k-l)*(y2+k*(x3-x2)- -(y2+l*(x4-x2))):=by grind-lia
theorem ic{x1 x2 x3 y2 k l:F}(t:(k-l)*((k+l)*(x3-x2)+2*y2)=(x3-x1)*(x3-(l*l-x1-x2))):
 (x3-x1)*(k*k-x2-x3-x1)-k*(k-l)*(k*k-x2-x3-x1)=(k-l)*(-(y2+k*(k*k-x2-x3-x2))-(y2+l*(x1-x2))):=by grind-lia
theorem io{a b c:F}:a-b-c=a-c-b:=by grind-lia
theorem Wa{y1 y2 l m x1 x2:F}(e1:y1=l*x1+m)(e2:y2=l*x2+m):y1-y2=l*(x1-x2):=by grind-lia
theorem iq{s a b x x3 y3:F}(h:s*(x3-a)=y3-b):s*(a-x)-b=s*(x3-x)-y3:=by grind-lia
theorem re{x1 y1 x2 y2 x3 y3:F}(h1:onE x1 y1)(h2:onE x2 y2)(h3:onE x3 y3)(hn: ¬(x1=x2∧y1+y2=0))
 (h31:x3≠x1)(h32:x3≠x2)(h34: ∀y,add (.aff x1 y1) (.aff x2 y2)≠ .aff x3 y)(h61: ∀y,add (.aff x2 y2) (.aff x3 y3)≠ .aff x1 y):
 add (add (.aff x1 y1) (.aff x2 y2)) (.aff x3 y3)=add (.aff x1 y1) (add (.aff x2 y2) (.aff x3 y3)):=by
 obtain⟨l,m,x4,e1,e2,e0,e3,e4,e5⟩:=PS h1 h2 hn;obtain⟨k,q,x6,f1,f2,f0,f3,f4,f5⟩:=PS h2 h3 (fun h=>h32 h.1.symm);rw[e5]at h34⊢;rw[f5]at h61⊢;have h34':x3≠x4:=fun h=>h34 _ (by rw[h])
 have h61':x1≠x6:=fun h=>h61 _ (by rw[h])
 unfold onE at h3;have g1:y3*y3-(l*x3+m)*(l*x3+m)=(x3-x1)*(x3-x2)*(x3-x4):=by rw[h3,e4];exact ir e0 e3
 have g2:=L6 f1 f2;have g3:=L6 e2 (rfl:l*x3+m=l*x3+m);have g4:=L6 e2 (rfl:l*x4+m=l*x4+m);have g5:=L6 f1 (rfl:k*x6+q=k*x6+q);have g6:=L6 e2 e1;have h32':x3-x2≠0:=fun h=>h32 (L8 h)
 have hkl:(k-l)*((k+l)*(x3-x2)+2*y2)=(x3-x1)*(x3-x4):=by
  rw[g2,g3]at g1;rcases FL (r_g g1)with h|h
  ·exact absurd h h32'
  ·exact L8 h
 have hkl0:k-l≠0:=by
  intro h;rw[h,Fin.zero_mul]at hkl;rcases FL hkl.symm with g|g
  ·exact h31 (L8 g)
  ·exact h34' (L8 g)
 obtain⟨w,hw⟩: ∃w,w*(k-l)=x3-x1:=⟨(x3-x1)*EW (k-l),ip (Jf hkl0)⟩
 have hs1:(w-l)*(x3-x4)=y3- -(l*x4+m):=by
  refine UF hkl0 ?_;rw[im hw,←hkl,g2,g4,ij]
 have hs2:(w-k)*(x6-x1)= -(k*x6+q)-y1:=by
  refine UF hkl0 ?_;rw[ik hw,g5,g6];rw[e0]at hkl;rw[f0];exact ic hkl
 have hxx:=rc x1 x2 x3 l k w x4 x6 hw e0 f0;have hyy:=rb x1 x2 x3 y1 y2 y3 l k w ((w-k)*(w-k)-x1-x6) hw (Wa e1 e2) (Wa f2 f1) (by rw[←hxx,e0]);rw[Jr (fun h=>h34' h.symm) hs1,Jr h61' hs2,io,hxx,←hyy,iq hs1]
noncomputable def bad(a b:Pt):List Pt:=[.inf,a,neg a,b,neg b,add a b,neg (add a b),add a (neg b),add (neg a) (neg b)]
theorem Qf{x y z:F}(h1:onE x y)(h2:onE x z):Pt.aff x z= .aff x y∨Pt.aff x z=neg (.aff x y):=by
 unfold onE at h1 h2;have:(z-y)*(z+y)=0:=by rw[←h2]at h1;grind-lia
 rcases FL this with h|h
 ·left;rw[L8 h]
 ·right;simp only[neg];congr 1;grind-lia
theorem Qc{a b s:Pt}(ha:a.on)(hb:b.on)(hs:s.on)(h:s∉bad a b):add (add a b) s=add a (add b s):=by
 simp only[bad,List.mem_cons,List.not_mem_nil,or_false,not_or]at h;obtain⟨n0,n1,n2,n3,n4,n5,n6,n7,n8⟩:=h;cases a with
 |inf=>simp only[GB]
 |aff x1 y1=>
  cases b with
  |inf=>simp only[GB,Hb]
  |aff x2 y2=>
   cases s with
   |inf=>exact absurd rfl n0
   |aff x3 y3=>
    have hab:=on_add ha hb;have hbs:=on_add hb hs;by_cases hn:x1=x2∧y1+y2=0
    ·have e1:add (.aff x1 y1) (.aff x2 y2)= .inf:=by simp only[add,if_pos hn]
     obtain⟨rfl,hy⟩:=hn;have e2:Pt.aff x1 y2=neg (.aff x1 y1):=by simp only[neg];congr 1;grind-lia
     have hc:=Ns hs hb;rw[e2,lQ,←e2]at hc;rw[e1,GB,add_comm _ _ ha hbs,add_comm _ _ hb hs,hc]
    ·refine re ha hb hs hn ?_ ?_ ?_ ?_
     ·rintro rfl
      rcases Qf ha hs with e|e
      ·exact n1 e
      ·exact n2 e
     ·rintro rfl
      rcases Qf hb hs with e|e
      ·exact n3 e
      ·exact n4 e
     ·intro y e
      rw[e]at hab n5 n6;rcases Qf hab hs with e|e
      ·exact n5 e
      ·exact n6 e
     ·intro y e
      rw[e]at hbs;have hsb:=Ns hs hb;rw[add_comm _ _ hs hb,e]at hsb;rcases Qf ha hbs with g|g
      ·rw[g]at hsb;exact n7 hsb.symm
      ·rw[g]at hsb;exact n8 hsb.symm
theorem Qe{α:Type}[DecidableEq α]: ∀(l m:List α),l.Nodup→m.length<l.length→ ∃x,x∈l∧x∉m:=by
 intro l m hn hl;apply Classical.byContradiction;intro hc
 have hsub:l⊆m:=by
  intro x hx;apply Classical.byContradiction;intro hm;exact hc ⟨x,hx,hm⟩
 have key: ∀(l m:List α),l.Nodup→l⊆m→l.length≤m.length:=by
  intro l
  induction l with
  |nil=>intro m _ _;simp
  |cons a l ih=>
   intro m hn hs;rw[List.nodup_cons]at hn;have ha:a∈m:=hs (by simp)
   have h1:=ih (m.erase a) hn.2 (by
    intro x hx;have hne:x≠a:=by rintro rfl;exact hn.1 hx
    exact(List.mem_erase_of_ne hne).2 (hs (by simp[hx])))
   have h2:=List.length_erase_of_mem ha;have h3:=List.length_pos_of_mem ha;simp;omega
 have:=key l m hn hsub;omega
def some:List (F×F):=[(0,46263761741508638697010950048709651021688891777877937875096931459006746039284),(0,69528327468847610065686496900697922508397251637412376320436699849860351814667),(5,31468013646237722594854082025316614106172411895747863909393730389177298123724),(5,84324075564118526167843364924090959423913731519542450286139900919689799730227),(6,24739918328848417526480033809572464882617473122143770809273908485596236620747),(6,91052170881507831236217413139835108647468670293146543386259722823270861233204),(8,82784132184742902406611976374283817475915538652053173371854007222633983132083),(8,33007957025613346356085470575123756054170604763237140823679624086233114721868),(9,64265364456294082747112527522981594904960689488638802860996194286474266915479),(9,51526724754062166015584919426425978625125453926651511334537437022392830938472),(12,66934920894945216687164320457392073305141033253131913951695301233381400331143),(12,48857168315411032075533126492015500224945110162158400243838330075485697522808),(13,53404144414778303508799263379260966483386805595332806637100379275867514529459),(13,62387944795577945253898183570146607046699337819957507558433252032999583324492),(17,43783450011834442217334481138474159509558335318535455861762733939497581045049),(17,72008639198521806545362965810933414020527808096754858333770897369369516808902),(23,37114329264221932393644918276665526732952696771951479144529462133154348400658),(23,78677759946134316369052528672742046797133446643338835051004169175712749453293),(24,26321841318174713433978379012486154109266602617658289202947244817969700794459),(24,89470247892181535328719067936921419420819540797632024992586386490897397059492),(25,101842049421071908540038086255668332854032952517920383898783206756845809129814),(25,13950039789284340222659360693739240676053190897369930296750424552021288724137),(26,24424587111845263483165880188626713615059877529618610383051097479852596134318),(26,91367502098510985279531566760780859915026265885671703812482533829014501719633),(29,18773105118284221259526141573442436911129172592710552834788399784636057579277),(29,97018984092072027503171305375965136618956970822579761360745231524231040274674),(31,51772576644680527507497169225388455048738671303331750808704780383361075168277),(31,64019512565675721255200277724019118481347472111958563386828850925506022685674),(34,59791363792270185952812307835825910484107935385933905162606848621164130833239),(34,56000725418086062809885139113581663045978208029356409032926782687702967020712),(35,40295540095254214384559919770004980525704531316622728644383555421946762207439),(35,75496549115102034378137527179402593004381612098667585551150075886920335646512),(37,27019068728911808621164184721360182012211537658607486295926391355263536972569),(37,88773020481444440141533262228047391517874605756682827899607239953603560881382),(39,111580631210431117360875745014289346788358530860711711829739028359136821314236),(39,4211457999925131401821701935118226741727612554578602365794602949730276539715),(44,70441152804929838592241369407579099569779936506845887129699483765394726397243),(44,45350936405426410170456077541828473960306206908444427065834147543472371456708),(45,80898553851609202973000225381347700523925001632437640323176976999290509256427),(45,34893535358747045789697221568059873006161141782852673872356654309576588597524)]
theorem eu: ∀z∈some,onE z.1 z.2:=by
 have:(some.all fun z=>decide (z.2*z.2=z.1*z.1*z.1-3*z.1+cb))=true:=by decide+kernel
 intro z hz;have h:=List.all_eq_true.1 this z hz;simp only[decide_eq_true_eq]at h;exact h
theorem ev:some.Nodup:=by decide+kernel
def OW:List Pt:=some.map fun z=> .aff z.1 z.2
theorem ew: ∀p∈OW,p.on:=by
 intro p hp;obtain⟨z,hz,rfl⟩:=List.mem_map.1 hp;exact eu z hz
theorem ez:OW.Nodup:=by
 refine YJ _ _ ev ?_;rintro⟨a,b⟩ _ ⟨c,d⟩ _ h;injection h with h1 h2
 simp only at h1 h2;rw[h1,h2]
theorem add_assoc{p q r:Pt}(hp:p.on)(hq:q.on)(hr:r.on):add (add p q) r=add p (add q r):=by
 obtain⟨s,hs,hn⟩:=Qe OW (bad (add p q) r++(bad p q).map (fun x=>add x (neg r))++bad q r++bad p (add q r)) ez (by
  have:OW.length=40:=by decide+kernel
  rw[this];simp[bad])
 have hon:=ew s hs;simp only[List.mem_append,not_or]at hn;obtain⟨⟨⟨n1,n2⟩,n3⟩,n4⟩:=hn
 have n2':add r s∉bad p q:=by
  intro h;refine n2 (List.mem_map.2 ⟨_,h,?_⟩);show add (add r s) (neg r)=s;rw[add_comm r s hr hon];exact Ns hon hr
 have hpq:=on_add hp hq;have hqr:=on_add hq hr;refine ry (on_add hpq hr) (on_add hp hqr) hon ?_;rw[Qc hpq hr hon n1,Qc hp hq (on_add hr hon) n2',←Qc hq hr hon n3,←Qc hp hqr hon n4]
end TollEc
namespace TollBy
def beV:List Nat→Nat→Nat
 | [],a=>a
 |b::l,a=>beV l (a*256+b)
theorem QV: ∀(l:List Nat) (a:Nat),beV l a=a*256^l.length+beV l 0
 | [],a=>by simp[beV]
 |b::l,a=>by
  simp only[beV,List.length_cons];rw[QV l (a*256+b),QV l (0*256+b),Nat.pow_succ,Nat.add_mul,Nat.zero_mul,Nat.zero_add,Nat.mul_assoc,Nat.mul_comm 256,Nat.add_assoc]
theorem beV_lt: ∀(l:List Nat),(∀x∈l,x<256)→beV l 0<256^l.length
 | [],_=>by decide
 |b::l,h=>by
  have ih:=beV_lt l (fun x hx=>h x (by simp[hx]));have hb:=h b (by simp);simp only[beV,List.length_cons];rw[QV,Nat.zero_mul,Nat.zero_add,Nat.pow_succ];have:(b+1)*256^l.length≤256*256^l.length:=Nat.mul_le_mul_right _ (by omega);rw[Nat.add_mul,Nat.one_mul]at this;rw[Nat.mul_comm (256^l.length)];omega
theorem beV_get: ∀(l:List Nat),(∀x∈l,x<256)→ ∀i,i<l.length→beV l 0/256^(l.length-1-i) %256=l.getD i 0
 | [],_,i,h=>by simp at h
 |b::l,h,i,hi=>by
  have hl:=beV_lt l (fun x hx=>h x (by simp[hx]));have hb:=h b (by simp);simp only[beV];rw[QV,Nat.zero_mul,Nat.zero_add];cases i with
  |zero=>
   simp only[List.length_cons,Nat.add_sub_cancel,Nat.sub_zero,List.getD_cons_zero];rw[Nat.mul_comm b,Nat.mul_add_div (Nat.pow_pos (by decide)),Nat.div_eq_of_lt hl,Nat.add_zero,Nat.mod_eq_of_lt hb]
  |succ i=>
   simp only[List.length_cons,List.getD_cons_succ]at hi⊢;have hi':i<l.length:=by omega
   rw[show l.length+1-1-(i+1)=l.length-1-i by omega,←beV_get l (fun x hx=>h x (by simp[hx])) i hi']
   have e:256^l.length=256^(l.length-1-i)*(256*256^i):=by
    rw[←Nat.pow_succ',←Nat.pow_add];congr 1;omega
   rw[e,show b*(256^(l.length-1-i)*(256*256^i))=256^(l.length-1-i)*(256*(256^i*b)) by
    rw[Nat.mul_comm b,Nat.mul_assoc,Nat.mul_assoc],Nat.mul_add_div (Nat.pow_pos (by decide)),Nat.mul_add_mod]
end TollBy
