import Derived.Test.YtafbhakmkbehiaaGreatDoorZ15
open Go.Proofs.Tryz
set_option maxHeartbeats 4000000
set_option maxRecDepth 100000
namespace Go.Proofs.YtafbhakmkbehiaaGreatDoor
open Go.RowKit Go.Toll
variable(w:World){rd:List Nat}{b k n x x' y y':Nat}{ρ:Nat→Nat}
section
open TollMont
open TollEc (F pp cb Jp Pt)
def lv(x:F)(i:Nat):Nat:=lim x.val i
def NF(x:F):Value:= .agg #[.int .u64 (lv x 0:Nat),.int .u64 (lv x 1:Nat),.int .u64 (lv x 2:Nat),.int .u64 (lv x 3:Nat)]
def TF(j:Jp):Value:= .agg #[.int .u64 (lv j.x 0:Nat),.int .u64 (lv j.x 1:Nat),.int .u64 (lv j.x 2:Nat),.int .u64 (lv j.x 3:Nat),.int .u64 (lv j.y 0:Nat),.int .u64 (lv j.y 1:Nat),.int .u64 (lv j.y 2:Nat),.int .u64 (lv j.y 3:Nat),.int .u64 (lv j.z 0:Nat),.int .u64 (lv j.z 1:Nat),.int .u64 (lv j.z 2:Nat),.int .u64 (lv j.z 3:Nat)]
def byt(n i:Nat):Nat:=lim n (3-i/8)/2^(56-8*(i %8)) %256
def B32(n:Nat):Value:= .agg #[.int .u8 (byt n 0:Nat),.int .u8 (byt n 1:Nat),.int .u8 (byt n 2:Nat),.int .u8 (byt n 3:Nat),.int .u8 (byt n 4:Nat),.int .u8 (byt n 5:Nat),.int .u8 (byt n 6:Nat),.int .u8 (byt n 7:Nat),.int .u8 (byt n 8:Nat),.int .u8 (byt n 9:Nat),.int .u8 (byt n 10:Nat),.int .u8 (byt n 11:Nat),.int .u8 (byt n 12:Nat),.int .u8 (byt n 13:Nat),.int .u8 (byt n 14:Nat),.int .u8 (byt n 15:Nat),.int .u8 (byt n 16:Nat),.int .u8 (byt n 17:Nat),.int .u8 (byt n 18:Nat),.int .u8 (byt n 19:Nat),.int .u8 (byt n 20:Nat),.int .u8 (byt n 21:Nat),.int .u8 (byt n 22:Nat),.int .u8 (byt n 23:Nat),.int .u8 (byt n 24:Nat),.int .u8 (byt n 25:Nat),.int .u8 (byt n 26:Nat),.int .u8 (byt n 27:Nat),.int .u8 (byt n 28:Nat),.int .u8 (byt n 29:Nat),.int .u8 (byt n 30:Nat),.int .u8 (byt n 31:Nat)]
def PT(x y:Nat):Value:= .agg #[.int .u8 (byt x 0:Nat),.int .u8 (byt x 1:Nat),.int .u8 (byt x 2:Nat),.int .u8 (byt x 3:Nat),.int .u8 (byt x 4:Nat),.int .u8 (byt x 5:Nat),.int .u8 (byt x 6:Nat),.int .u8 (byt x 7:Nat),.int .u8 (byt x 8:Nat),.int .u8 (byt x 9:Nat),.int .u8 (byt x 10:Nat),.int .u8 (byt x 11:Nat),.int .u8 (byt x 12:Nat),.int .u8 (byt x 13:Nat),.int .u8 (byt x 14:Nat),.int .u8 (byt x 15:Nat),.int .u8 (byt x 16:Nat),.int .u8 (byt x 17:Nat),.int .u8 (byt x 18:Nat),.int .u8 (byt x 19:Nat),.int .u8 (byt x 20:Nat),.int .u8 (byt x 21:Nat),.int .u8 (byt x 22:Nat),.int .u8 (byt x 23:Nat),.int .u8 (byt x 24:Nat),.int .u8 (byt x 25:Nat),.int .u8 (byt x 26:Nat),.int .u8 (byt x 27:Nat),.int .u8 (byt x 28:Nat),.int .u8 (byt x 29:Nat),.int .u8 (byt x 30:Nat),.int .u8 (byt x 31:Nat),.int .u8 (byt y 0:Nat),.int .u8 (byt y 1:Nat),.int .u8 (byt y 2:Nat),.int .u8 (byt y 3:Nat),.int .u8 (byt y 4:Nat),.int .u8 (byt y 5:Nat),.int .u8 (byt y 6:Nat),.int .u8 (byt y 7:Nat),.int .u8 (byt y 8:Nat),.int .u8 (byt y 9:Nat),.int .u8 (byt y 10:Nat),.int .u8 (byt y 11:Nat),.int .u8 (byt y 12:Nat),.int .u8 (byt y 13:Nat),.int .u8 (byt y 14:Nat),.int .u8 (byt y 15:Nat),.int .u8 (byt y 16:Nat),.int .u8 (byt y 17:Nat),.int .u8 (byt y 18:Nat),.int .u8 (byt y 19:Nat),.int .u8 (byt y 20:Nat),.int .u8 (byt y 21:Nat),.int .u8 (byt y 22:Nat),.int .u8 (byt y 23:Nat),.int .u8 (byt y 24:Nat),.int .u8 (byt y 25:Nat),.int .u8 (byt y 26:Nat),.int .u8 (byt y 27:Nat),.int .u8 (byt y 28:Nat),.int .u8 (byt y 29:Nat),.int .u8 (byt y 30:Nat),.int .u8 (byt y 31:Nat)]
def FV(b:Nat):Value:= .agg #[.pointer (some ⟨b,0,none⟩)]
theorem nNF(x:F):Value.cells (NF x)= #[.int .u64 (lv x 0:Nat),.int .u64 (lv x 1:Nat),.int .u64 (lv x 2:Nat),.int .u64 (lv x 3:Nat)]:=rfl
theorem nTF(j:Jp):Value.cells (TF j)= #[.int .u64 (lv j.x 0:Nat),.int .u64 (lv j.x 1:Nat),.int .u64 (lv j.x 2:Nat),.int .u64 (lv j.x 3:Nat),.int .u64 (lv j.y 0:Nat),.int .u64 (lv j.y 1:Nat),.int .u64 (lv j.y 2:Nat),.int .u64 (lv j.y 3:Nat),.int .u64 (lv j.z 0:Nat),.int .u64 (lv j.z 1:Nat),.int .u64 (lv j.z 2:Nat),.int .u64 (lv j.z 3:Nat)]:=rfl
theorem PN(n:Nat):Value.cells (B32 n)= #[.int .u8 (byt n 0:Nat),.int .u8 (byt n 1:Nat),.int .u8 (byt n 2:Nat),.int .u8 (byt n 3:Nat),.int .u8 (byt n 4:Nat),.int .u8 (byt n 5:Nat),.int .u8 (byt n 6:Nat),.int .u8 (byt n 7:Nat),.int .u8 (byt n 8:Nat),.int .u8 (byt n 9:Nat),.int .u8 (byt n 10:Nat),.int .u8 (byt n 11:Nat),.int .u8 (byt n 12:Nat),.int .u8 (byt n 13:Nat),.int .u8 (byt n 14:Nat),.int .u8 (byt n 15:Nat),.int .u8 (byt n 16:Nat),.int .u8 (byt n 17:Nat),.int .u8 (byt n 18:Nat),.int .u8 (byt n 19:Nat),.int .u8 (byt n 20:Nat),.int .u8 (byt n 21:Nat),.int .u8 (byt n 22:Nat),.int .u8 (byt n 23:Nat),.int .u8 (byt n 24:Nat),.int .u8 (byt n 25:Nat),.int .u8 (byt n 26:Nat),.int .u8 (byt n 27:Nat),.int .u8 (byt n 28:Nat),.int .u8 (byt n 29:Nat),.int .u8 (byt n 30:Nat),.int .u8 (byt n 31:Nat)]:=rfl
theorem nPT(x y:Nat):Value.cells (PT x y)= #[.int .u8 (byt x 0:Nat),.int .u8 (byt x 1:Nat),.int .u8 (byt x 2:Nat),.int .u8 (byt x 3:Nat),.int .u8 (byt x 4:Nat),.int .u8 (byt x 5:Nat),.int .u8 (byt x 6:Nat),.int .u8 (byt x 7:Nat),.int .u8 (byt x 8:Nat),.int .u8 (byt x 9:Nat),.int .u8 (byt x 10:Nat),.int .u8 (byt x 11:Nat),.int .u8 (byt x 12:Nat),.int .u8 (byt x 13:Nat),.int .u8 (byt x 14:Nat),.int .u8 (byt x 15:Nat),.int .u8 (byt x 16:Nat),.int .u8 (byt x 17:Nat),.int .u8 (byt x 18:Nat),.int .u8 (byt x 19:Nat),.int .u8 (byt x 20:Nat),.int .u8 (byt x 21:Nat),.int .u8 (byt x 22:Nat),.int .u8 (byt x 23:Nat),.int .u8 (byt x 24:Nat),.int .u8 (byt x 25:Nat),.int .u8 (byt x 26:Nat),.int .u8 (byt x 27:Nat),.int .u8 (byt x 28:Nat),.int .u8 (byt x 29:Nat),.int .u8 (byt x 30:Nat),.int .u8 (byt x 31:Nat),.int .u8 (byt y 0:Nat),.int .u8 (byt y 1:Nat),.int .u8 (byt y 2:Nat),.int .u8 (byt y 3:Nat),.int .u8 (byt y 4:Nat),.int .u8 (byt y 5:Nat),.int .u8 (byt y 6:Nat),.int .u8 (byt y 7:Nat),.int .u8 (byt y 8:Nat),.int .u8 (byt y 9:Nat),.int .u8 (byt y 10:Nat),.int .u8 (byt y 11:Nat),.int .u8 (byt y 12:Nat),.int .u8 (byt y 13:Nat),.int .u8 (byt y 14:Nat),.int .u8 (byt y 15:Nat),.int .u8 (byt y 16:Nat),.int .u8 (byt y 17:Nat),.int .u8 (byt y 18:Nat),.int .u8 (byt y 19:Nat),.int .u8 (byt y 20:Nat),.int .u8 (byt y 21:Nat),.int .u8 (byt y 22:Nat),.int .u8 (byt y 23:Nat),.int .u8 (byt y 24:Nat),.int .u8 (byt y 25:Nat),.int .u8 (byt y 26:Nat),.int .u8 (byt y 27:Nat),.int .u8 (byt y 28:Nat),.int .u8 (byt y 29:Nat),.int .u8 (byt y 30:Nat),.int .u8 (byt y 31:Nat)]:=rfl
theorem nFV(b:Nat):Value.cells (FV b)= #[.pointer (some ⟨b,0,none⟩)]:=rfl
theorem nN(n:Nat):Value.cells (N n)= #[.int .u64 (lim n 0:Nat),.int .u64 (lim n 1:Nat),.int .u64 (lim n 2:Nat),.int .u64 (lim n 3:Nat)]:=rfl
theorem nm2:type_of%nm∧type_of%nNF∧type_of%nTF∧type_of%PN∧type_of%nPT∧type_of%nFV∧type_of%nN:=⟨nm,nNF,nTF,PN,nPT,nFV,nN⟩
theorem mdp:Md pp:=⟨by decide,by decide,by decide⟩
theorem B7(x:F):x.val<R:=Nat.lt_trans x.isLt (by decide)
variable{b:Nat}
theorem Yf(x y:F)(w:World)(ha:At w b pp):Calls prog 83 #[ptr b,NF x,NF y] w fun e w'=>e= .returned (NF (x*y))∧Gw w w':=
 Yd mdp (B7 x) (B7 y) w ha
theorem Ug(x y:F)(w:World)(ha:At w b pp):Calls prog 106 #[ptr b,NF x,NF y] w fun e w'=>e= .returned (NF (x+y))∧Gw w w':=
 Yn mdp (B7 x) (B7 y) w ha
theorem Vi(x y:F):(x-y).val=Ce pp x.val y.val:=by
 have hx:=x.isLt;have hy:=y.isLt;rw[Fin.sub_def];unfold Ce;rw[Nat.mod_eq_of_lt hx,Nat.mod_eq_of_lt hy];show(pp-y.val+x.val) %pp=_;congr 1;omega
theorem Vk(x y:F)(w:World)(ha:At w b pp):Calls prog 130 #[ptr b,NF x,NF y] w fun e w'=>e= .returned (NF (x-y))∧Gw w w':=by
 have:=Ss mdp (B7 x) (B7 y) w ha;rw[←Vi]at this;exact this
theorem Yv(n:Nat)(hn:n<R)(w:World):Calls prog 124 #[N n,N pp] w fun e w'=>e= .returned (.bool (decide (n<pp)))∧Gw w w':=
 S7 n pp hn (by decide) w
theorem zeq(x:F)(p q:Operand)(w:World):(do eqGuard .eql 147 p q (NF x) (.agg #[.int .u64 0,.int .u64 0,.int .u64 0,.int .u64 0]);binOp .eql 147 (NF x) (.agg #[.int .u64 0,.int .u64 0,.int .u64 0,.int .u64 0]):Sem Value).run prog w= .ok (.bool (decide (x=0))) w:=by
 have:=NX 147 (.inl rfl) (lv x 0) (lv x 1) (lv x 2) (lv x 3) 0 0 0 0 p q w;have e:decide (lv x 0=0∧lv x 1=0∧lv x 2=0∧lv x 3=0)=decide (x=0):=decide_eq_decide.2 ((Zt (B7 x)).trans ⟨fun h=>Fin.ext h,fun h=>by rw[h];rfl⟩);rw[e]at this;exact this
theorem Ie{x:F}(h:x=0)(p q:Operand)(w:World):(do eqGuard .eql 147 p q (NF x) (.agg #[.int .u64 0,.int .u64 0,.int .u64 0,.int .u64 0]);binOp .eql 147 (NF x) (.agg #[.int .u64 0,.int .u64 0,.int .u64 0,.int .u64 0]):Sem Value).run prog w= .ok (.bool true) w:=by
 have:=zeq x p q w;rw[decide_eq_true h]at this;exact this
theorem Ig{x:F}(h:x≠0)(p q:Operand)(w:World):(do eqGuard .eql 147 p q (NF x) (.agg #[.int .u64 0,.int .u64 0,.int .u64 0,.int .u64 0]);binOp .eql 147 (NF x) (.agg #[.int .u64 0,.int .u64 0,.int .u64 0,.int .u64 0]):Sem Value).run prog w= .ok (.bool false) w:=by
 have:=zeq x p q w;rw[decide_eq_false h]at this;exact this
theorem eqF(x y:F)(p q:Operand)(w:World):(do eqGuard .eql 147 p q (NF x) (NF y);binOp .eql 147 (NF x) (NF y):Sem Value).run prog w= .ok (.bool (decide (x=y))) w:=by
 have:=NX 147 (.inl rfl) (lv x 0) (lv x 1) (lv x 2) (lv x 3) (lv y 0) (lv y 1) (lv y 2) (lv y 3) p q w;have e:decide (lv x 0=lv y 0∧lv x 1=lv y 1∧lv x 2=lv y 2∧lv x 3=lv y 3)=decide (x=y):=decide_eq_decide.2 ⟨fun⟨a,b,c,d⟩=>Fin.ext (JI (B7 x) (B7 y) a b c d),fun h=>by rw[h];exact⟨rfl,rfl,rfl,rfl⟩⟩;rw[e]at this;exact this
theorem nA{x i:F}(h:x*i=1)(w:World)(ha:At w b pp):Calls prog 81 #[ptr b,NF x] w fun e w'=>e= .returned (.tuple #[NF i,.int .i64 0])∧Gw w w':=by
 have hv:i.val*x.val %pp=1:=by rw[Nat.mul_comm];exact congrArg Fin.val h
 have:=Tj mdp (B7 x) w ha
 rw[if_pos (by
  have h1:Nat.gcd x.val pp∣i.val*x.val %pp:=(Nat.dvd_mod_iff (Nat.gcd_dvd_right _ _)).2 (Nat.dvd_trans (Nat.gcd_dvd_left _ _) ⟨i.val,Nat.mul_comm _ _⟩);rw[hv]at h1;exact Nat.dvd_one.1 h1),Sv i.isLt hv]at this
 exact this
theorem nB(w:World)(ha:At w b pp):Calls prog 81 #[ptr b,NF 0] w fun e w'=>e= .returned (.tuple #[N 0,.int .i64 1])∧Gw w w':=by
 have:=Tj mdp (x:=0) (by decide) w ha;rw[if_neg (by decide)]at this;exact this
theorem LO(n:Nat)(w:World):Calls prog 86 #[N n] w fun e w'=>e= .returned (B32 n)∧Gw w w':=QQ n w
theorem ofN(n:Nat)(hn:n<R)(w:World):Calls prog 82 #[B32 n] w fun e w'=>e= .returned (N n)∧Gw w w':=YB n hn w
theorem QR(x:F)(w:World):Calls prog 86 #[NF x] w fun e w'=>e= .returned (B32 x.val)∧Gw w w':=QQ x.val w
theorem ofF(x:F)(w:World):Calls prog 82 #[B32 x.val] w fun e w'=>e= .returned (NF x)∧Gw w w':=YB x.val (B7 x) w
theorem bh:prog.built 147 []=some #[.int .u64 0,.int .u64 0,.int .u64 0,.int .u64 0]:=by kernel_rfl
theorem QT:prog.built 205 []=some #[.int .u64 0,.int .u64 0,.int .u64 0,.int .u64 0,.int .u64 0,.int .u64 0,.int .u64 0,.int .u64 0,.int .u64 0,.int .u64 0,.int .u64 0,.int .u64 0]:=by kernel_rfl
theorem Jn:prog.built 141 []=some #[.int .u8 0,.int .u8 0,.int .u8 0,.int .u8 0,.int .u8 0,.int .u8 0,.int .u8 0,.int .u8 0,.int .u8 0,.int .u8 0,.int .u8 0,.int .u8 0,.int .u8 0,.int .u8 0,.int .u8 0,.int .u8 0,.int .u8 0,.int .u8 0,.int .u8 0,.int .u8 0,.int .u8 0,.int .u8 0,.int .u8 0,.int .u8 0,.int .u8 0,.int .u8 0,.int .u8 0,.int .u8 0,.int .u8 0,.int .u8 0,.int .u8 0,.int .u8 0,.int .u8 0,.int .u8 0,.int .u8 0,.int .u8 0,.int .u8 0,.int .u8 0,.int .u8 0,.int .u8 0,.int .u8 0,.int .u8 0,.int .u8 0,.int .u8 0,.int .u8 0,.int .u8 0,.int .u8 0,.int .u8 0,.int .u8 0,.int .u8 0,.int .u8 0,.int .u8 0,.int .u8 0,.int .u8 0,.int .u8 0,.int .u8 0,.int .u8 0,.int .u8 0,.int .u8 0,.int .u8 0,.int .u8 0,.int .u8 0,.int .u8 0,.int .u8 0]:=by kernel_rfl
theorem UQ(x y z:F):prog.built 205 [(0,NF x),(1,NF y),(2,NF z)]=some #[.int .u64 (lv x 0:Nat),.int .u64 (lv x 1:Nat),.int .u64 (lv x 2:Nat),.int .u64 (lv x 3:Nat),.int .u64 (lv y 0:Nat),.int .u64 (lv y 1:Nat),.int .u64 (lv y 2:Nat),.int .u64 (lv y 3:Nat),.int .u64 (lv z 0:Nat),.int .u64 (lv z 1:Nat),.int .u64 (lv z 2:Nat),.int .u64 (lv z 3:Nat)]:=by kernel_rfl
structure Laid(w:World):Prop where
 bx: ∀(j:Nat) (v:Value),(Bq TollEc.bx.val)[j]? =some v→w.cell? ⟨1,0+j,none⟩=some v
 bY: ∀(j:Nat) (v:Value),(Bq TollEc.bY.val)[j]? =some v→w.cell? ⟨2,0+j,none⟩=some v
 nn: ∀(j:Nat) (v:Value),(Bq TollEc.nn)[j]? =some v→w.cell? ⟨3,0+j,none⟩=some v
 pp: ∀(j:Nat) (v:Value),(Bq pp)[j]? =some v→w.cell? ⟨4,0+j,none⟩=some v
 cb: ∀(j:Nat) (v:Value),(Bq cb.val)[j]? =some v→w.cell? ⟨5,0+j,none⟩=some v
theorem Laid.gw{w w':World}(h:Laid w)(g:Gw w w'):Laid w':=
 ⟨fun j v hj=>g.cell (h.bx j v hj),fun j v hj=>g.cell (h.bY j v hj),fun j v hj=>g.cell (h.nn j v hj),fun j v hj=>g.cell (h.pp j v hj),fun j v hj=>g.cell (h.cb j v hj)⟩
theorem dj{b:Nat}(x:F)(w:World)(ha:At w b pp):Calls prog 174 #[FV b,NF x] w fun e w'=>e= .returned (NF (x+x))∧Gw w w':=by
 go_enter func174,ntmps174
 refine Dn ?_
 refine CV ?_;iterate 3 refine t_k ?_
 refine t_6 ?_;refine t_2 ?_;iterate 2 refine t_0 ?_
 refine RR ?_;refine Ho ?_;refine Dx ?_;refine AD (AH results174 (Ac rfl rfl underlying147 rfl sizeOf147 rfl rfl)) ?_;intro w' hg;exact⟨rfl,hg⟩
theorem eC{b:Nat}(x:F)(w:World)(ha:At w b pp):Calls prog 175 #[FV b,NF x] w fun e w'=>e= .returned (NF (x+x+x))∧Gw w w':=by
 go_enter func175,ntmps175
 refine Dn ?_
 refine CV ?_;iterate 3 refine t_k ?_
 refine t_6 ?_;refine t_2 ?_;refine t_6 ?_;refine t_2 ?_;iterate 2 refine t_0 ?_
 refine RR ?_;refine t_0 ?_;refine RR ?_;refine Ho ?_;refine Dx ?_;refine AD (AH results175 (Ac rfl rfl underlying147 rfl sizeOf147 rfl rfl)) ?_;intro w' hg;exact⟨rfl,hg⟩
theorem pB{b:Nat}(p:Jp)(w:World)(_ha:At w b pp)(hz:p.z=0):Calls prog 135 #[FV b,TF p] w fun e w'=>e= .returned (TF ⟨0,0,0⟩)∧Gw w w':=by
 go_enter func135,ntmps135
 refine Dn ?_
 refine Ge ?_
 refine t_7 ?_;refine t_0 ?_;refine DV ?_;refine AV (by exact AK rfl gg rfl rfl (fun w=>Ie hz _ _ w)) ?_;refine BJ ?_;refine RS ?_;refine J8 ?_;refine Q9 ?_;refine VX ?_;iterate 5 refine BJ ?_
 refine AV (by exact A6 rfl gg rfl (QT)) ?_;refine D2 ?_;refine AD (AH results135 (Ac rfl rfl underlying205 rfl sizeOf205 rfl rfl)) ?_;intro w' hg;exact⟨rfl,hg⟩
theorem pC{b:Nat}(p:Jp)(w:World)(_ha:At w b pp)(hz:p.z≠0)(hy:p.y=0):Calls prog 135 #[FV b,TF p] w fun e w'=>e= .returned (TF ⟨0,0,0⟩)∧Gw w w':=by
 go_enter func135,ntmps135
 refine Dn ?_
 refine Ge ?_
 refine t_7 ?_;refine t_0 ?_;refine DV ?_;refine J6 ?_;refine BJ ?_;refine RS ?_;refine J8 ?_;refine Q9 ?_;refine AV (by first|exact Ev.skip (fun _=>rfl)|exact AK rfl (fun _=>rfl) rfl rfl (fun w=>Ie hy _ _ w)) ?_;iterate 5 refine BJ ?_
 refine AV (by exact A6 rfl gg rfl (QT)) ?_;refine D2 ?_;refine AD (AH results135 (Ac rfl rfl underlying205 rfl sizeOf205 rfl rfl)) ?_;intro w' hg;exact⟨rfl,hg⟩
theorem B3{b:Nat}{x y z:F}(h:x*y=z)(w:World)(ha:At w b pp):Calls prog 83 #[ptr b,NF x,NF y] w fun e w'=>e= .returned (NF z)∧Gw w w':=h▸Yf x y w ha
theorem rz{b:Nat}{x y z:F}(h:x+y=z)(w:World)(ha:At w b pp):Calls prog 106 #[ptr b,NF x,NF y] w fun e w'=>e= .returned (NF z)∧Gw w w':=h▸Ug x y w ha
theorem GZ{b:Nat}{x y z:F}(h:x-y=z)(w:World)(ha:At w b pp):Calls prog 130 #[ptr b,NF x,NF y] w fun e w'=>e= .returned (NF z)∧Gw w w':=h▸Vk x y w ha
theorem Hh{b:Nat}{x z:F}(h:x+x=z)(w:World)(ha:At w b pp):Calls prog 174 #[FV b,NF x] w fun e w'=>e= .returned (NF z)∧Gw w w':=h▸dj x w ha
theorem eD{b:Nat}{x z:F}(h:x+x+x=z)(w:World)(ha:At w b pp):Calls prog 175 #[FV b,NF x] w fun e w'=>e= .returned (NF z)∧Gw w w':=h▸eC x w ha
theorem pD{b:Nat}(p:Jp)(v29 v36 v42 v51 v57 v58 v59 v63 v64 v71 v74 v75 v83 v84 v85 v86 v97 v98 v100 v106 v109:F)(w:World)(ha:At w b pp)(hz:p.z≠0)(hy:p.y≠0)(e29:p.z*p.z=v29)(e36:p.y*p.y=v36)(e42:p.x*v36=v42)(e51:p.x-v29=v51)(e57:p.x+v29=v57)(e58:v51*v57=v58)(e59:v58+v58+v58=v59)(e63:v42+v42=v63)(e64:v63+v63=v64)(e71:v59*v59=v71)(e74:v64+v64=v74)(e75:v71-v74=v75)(e83:v36*v36=v83)(e84:v83+v83=v84)(e85:v84+v84=v85)(e86:v85+v85=v86)(e97:v64-v75=v97)(e98:v59*v97=v98)(e100:v98-v86=v100)(e106:p.y+p.y=v106)(e109:v106*p.z=v109):Calls prog 135 #[FV b,TF p] w fun e w'=>e= .returned (TF ⟨v75,v100,v109⟩)∧Gw w w':=by
 go_enter func135,ntmps135
 refine Dn ?_
 refine Ge ?_
 refine t_7 ?_;refine t_0 ?_;refine DV ?_;refine J6 ?_;refine BJ ?_;refine RS ?_;refine J8 ?_;refine Q9 ?_;refine AV (by first|exact Ev.skip (fun _=>rfl)|exact AK rfl (fun _=>rfl) rfl rfl (fun w=>Ig hy _ _ w)) ?_;iterate 6 refine BJ ?_
 refine t_6 ?_;refine t_2 ?_;refine t_7 ?_;refine t_0 ?_;refine t_7 ?_;refine t_0 ?_;refine AV (by exact AM rfl gg rfl (eo func83) (fun w' hw'=>B3 e29 w' (ha.gw hw'))) ?_;refine t_6 ?_;refine t_2 ?_;refine t_7 ?_;refine t_0 ?_;refine t_7 ?_;refine t_0 ?_;refine AV (by exact AM rfl gg rfl (eo func83) (fun w' hw'=>B3 e36 w' (ha.gw hw'))) ?_;iterate 2 refine CV ?_
 refine Dm ?_;refine t_2 ?_;refine t_7 ?_;iterate 2 refine t_0 ?_
 refine AV (by exact AM rfl gg rfl (eo func83) (fun w' hw'=>B3 e42 w' (ha.gw hw'))) ?_;refine En ?_
 refine HF ?_;refine t_6 ?_;refine t_2 ?_;refine t_6 ?_;refine t_2 ?_;refine t_7 ?_;iterate 2 refine t_0 ?_
 refine AV (by exact AM rfl gg rfl (eo func130) (fun w' hw'=>GZ e51 w' (ha.gw hw'))) ?_;refine t_6 ?_;refine t_2 ?_;refine t_7 ?_;iterate 2 refine t_0 ?_
 refine AV (by exact AM rfl gg rfl (eo func106) (fun w' hw'=>rz e57 w' (ha.gw hw'))) ?_;refine AV (by exact AM rfl gg rfl (eo func83) (fun w' hw'=>B3 e58 w' (ha.gw hw'))) ?_;refine AV (by exact AM rfl gg rfl (eo func175) (fun w' hw'=>eD e59 w' (ha.gw hw'))) ?_;refine En ?_
 iterate 2 refine HF ?_
 refine t_0 ?_;refine AV (by exact AM rfl gg rfl (eo func174) (fun w' hw'=>Hh e63 w' (ha.gw hw'))) ?_;refine AV (by exact AM rfl gg rfl (eo func174) (fun w' hw'=>Hh e64 w' (ha.gw hw'))) ?_;refine En ?_
 refine t_6 ?_;refine t_2 ?_;refine t_6 ?_;refine t_2 ?_;iterate 2 refine t_0 ?_
 refine AV (by exact AM rfl gg rfl (eo func83) (fun w' hw'=>B3 e71 w' (ha.gw hw'))) ?_;refine HF ?_;refine t_0 ?_;refine AV (by exact AM rfl gg rfl (eo func174) (fun w' hw'=>Hh e74 w' (ha.gw hw'))) ?_;refine AV (by exact AM rfl gg rfl (eo func130) (fun w' hw'=>GZ e75 w' (ha.gw hw'))) ?_;refine En ?_
 iterate 3 refine HF ?_
 refine t_6 ?_;refine t_2 ?_;iterate 2 refine t_0 ?_
 refine AV (by exact AM rfl gg rfl (eo func83) (fun w' hw'=>B3 e83 w' (ha.gw hw'))) ?_;refine AV (by exact AM rfl gg rfl (eo func174) (fun w' hw'=>Hh e84 w' (ha.gw hw'))) ?_;refine AV (by exact AM rfl gg rfl (eo func174) (fun w' hw'=>Hh e85 w' (ha.gw hw'))) ?_;refine AV (by exact AM rfl gg rfl (eo func174) (fun w' hw'=>Hh e86 w' (ha.gw hw'))) ?_;refine En ?_
 refine t_0 ?_;refine t_6 ?_;refine t_2 ?_;refine t_6 ?_;refine t_2 ?_;refine t_0 ?_;refine t_6 ?_;refine t_2 ?_;iterate 2 refine t_0 ?_
 refine AV (by exact AM rfl gg rfl (eo func130) (fun w' hw'=>GZ e97 w' (ha.gw hw'))) ?_;refine AV (by exact AM rfl gg rfl (eo func83) (fun w' hw'=>B3 e98 w' (ha.gw hw'))) ?_;refine t_0 ?_;refine AV (by exact AM rfl gg rfl (eo func130) (fun w' hw'=>GZ e100 w' (ha.gw hw'))) ?_;refine t_6 ?_;refine t_2 ?_;refine HF ?_;refine t_7 ?_;refine t_0 ?_;refine AV (by exact AM rfl gg rfl (eo func174) (fun w' hw'=>Hh e106 w' (ha.gw hw'))) ?_;refine t_7 ?_;refine t_0 ?_;refine AV (by exact AM rfl gg rfl (eo func83) (fun w' hw'=>B3 e109 w' (ha.gw hw'))) ?_;refine AV (by exact A6 rfl gg rfl (UQ _ _ _)) ?_;refine D2 ?_;refine AD (AH results135 (Ac rfl rfl underlying205 rfl sizeOf205 rfl rfl)) ?_;intro w' hg;exact⟨rfl,hg⟩
theorem rn{b:Nat}(p q:Jp)(w:World)(_ha:At w b pp)(hz:p.z=0):Calls prog 133 #[FV b,TF p,TF q] w fun e w'=>e= .returned (TF q)∧Gw w w':=by
 go_enter func133,ntmps133
 refine GW ?_
 refine Gd ?_
 refine t_7 ?_;refine t_0 ?_;refine DV ?_;refine AV (by exact AK rfl gg rfl rfl (fun w=>Ie hz _ _ w)) ?_;iterate 5 refine BJ ?_
 refine It ?_;refine D2 ?_;refine AD (AH results133 (Ac rfl rfl underlying205 rfl sizeOf205 rfl rfl)) ?_;intro w' hg;exact⟨rfl,hg⟩
theorem rl{b:Nat}(p q:Jp)(w:World)(_ha:At w b pp)(hz:p.z≠0)(hw:q.z=0):Calls prog 133 #[FV b,TF p,TF q] w fun e w'=>e= .returned (TF p)∧Gw w w':=by
 go_enter func133,ntmps133
 refine GW ?_
 refine Gd ?_
 refine t_7 ?_;refine t_0 ?_;refine DV ?_;refine J6 ?_;iterate 5 refine BJ ?_
 refine t_7 ?_;refine t_0 ?_;refine DV ?_;refine AV (by exact AK rfl gg rfl rfl (fun w=>Ie hw _ _ w)) ?_;iterate 5 refine BJ ?_
 refine It ?_;refine D2 ?_;refine AD (AH results133 (Ac rfl rfl underlying205 rfl sizeOf205 rfl rfl)) ?_;intro w' hg;exact⟨rfl,hg⟩
theorem ru{b:Nat}(p q d:Jp)(v37 v44 v50 v56 v66 v67 v77 v78 v83 v88:F)(w:World)(ha:At w b pp)(hz:p.z≠0)(hw:q.z≠0)(e37:p.z*p.z=v37)(e44:q.z*q.z=v44)(e50:p.x*v44=v50)(e56:q.x*v37=v56)(e66:q.z*v44=v66)(e67:p.y*v66=v67)(e77:p.z*v37=v77)(e78:q.y*v77=v78)(e83:v56-v50=v83)(e88:v78-v67=v88)(hh:v83=0)(hr:v88=0)(hd: ∀w',Gw w w'→Calls prog 135 #[FV b,TF p] w' fun e w''=>e= .returned (TF d)∧Gw w' w''):Calls prog 133 #[FV b,TF p,TF q] w fun e w'=>e= .returned (TF d)∧Gw w w':=by
 go_enter func133,ntmps133
 refine GW ?_
 refine Gd ?_
 refine t_7 ?_;refine t_0 ?_;refine DV ?_;refine J6 ?_;iterate 5 refine BJ ?_
 refine t_7 ?_;refine t_0 ?_;refine DV ?_;refine AV (by exact AK rfl gg rfl rfl (fun w=>Ig hw _ _ w)) ?_;iterate 6 refine BJ ?_
 refine t_6 ?_;refine t_2 ?_;refine t_7 ?_;refine t_0 ?_;refine t_7 ?_;refine t_0 ?_;refine RO ?_;refine t_6 ?_;refine t_2 ?_;refine t_7 ?_;refine t_0 ?_;refine t_7 ?_;refine t_0 ?_;refine RL ?_;iterate 2 refine CV ?_
 refine Dm ?_;refine t_2 ?_;refine t_7 ?_;iterate 2 refine t_0 ?_
 refine RJ ?_;refine t_6 ?_;refine t_2 ?_;refine t_7 ?_;iterate 2 refine t_0 ?_
 refine RI ?_;iterate 2 refine CV ?_
 refine Dm ?_;refine t_2 ?_;refine t_7 ?_;refine t_0 ?_;refine t_6 ?_;refine t_2 ?_;refine t_7 ?_;iterate 2 refine t_0 ?_
 refine RH ?_;refine RG ?_;refine t_6 ?_;refine t_2 ?_;refine t_7 ?_;refine t_0 ?_;refine t_6 ?_;refine t_2 ?_;refine t_7 ?_;iterate 2 refine t_0 ?_
 refine RF ?_;refine RE ?_;iterate 2 refine CV ?_
 refine Dm ?_;refine t_2 ?_;iterate 2 refine t_0 ?_
 refine RQ ?_;refine t_6 ?_;refine t_2 ?_;iterate 2 refine t_0 ?_
 refine RP ?_;iterate 2 refine CV ?_
 refine Fw ?_
 refine t_0 ?_;refine DV ?_;refine AV (by exact AK rfl gg rfl rfl (fun w=>Ie hh _ _ w)) ?_;iterate 5 refine t_k ?_
 refine t_0 ?_;refine DV ?_;refine AV (by exact AK rfl gg rfl rfl (fun w=>Ie hr _ _ w)) ?_;iterate 4 refine t_k ?_
 refine HF ?_;refine It ?_;refine AV (by exact AM rfl gg rfl (eo func135) (fun w' hw'=>hd w' hw')) ?_;refine D2 ?_;refine AD (AH results133 (Ac rfl rfl underlying205 rfl sizeOf205 rfl rfl)) ?_;intro w' hg;exact⟨rfl,hg⟩
theorem Hb{b:Nat}(p q:Jp)(v37 v44 v50 v56 v66 v67 v77 v78 v83 v88:F)(w:World)(ha:At w b pp)(hz:p.z≠0)(hw:q.z≠0)(e37:p.z*p.z=v37)(e44:q.z*q.z=v44)(e50:p.x*v44=v50)(e56:q.x*v37=v56)(e66:q.z*v44=v66)(e67:p.y*v66=v67)(e77:p.z*v37=v77)(e78:q.y*v77=v78)(e83:v56-v50=v83)(e88:v78-v67=v88)(hh:v83=0)(hr:v88≠0):Calls prog 133 #[FV b,TF p,TF q] w fun e w'=>e= .returned (TF ⟨0,0,0⟩)∧Gw w w':=by
 go_enter func133,ntmps133
 refine GW ?_
 refine Gd ?_
 refine t_7 ?_;refine t_0 ?_;refine DV ?_;refine J6 ?_;iterate 5 refine BJ ?_
 refine t_7 ?_;refine t_0 ?_;refine DV ?_;refine AV (by exact AK rfl gg rfl rfl (fun w=>Ig hw _ _ w)) ?_;iterate 6 refine BJ ?_
 refine t_6 ?_;refine t_2 ?_;refine t_7 ?_;refine t_0 ?_;refine t_7 ?_;refine t_0 ?_;refine RO ?_;refine t_6 ?_;refine t_2 ?_;refine t_7 ?_;refine t_0 ?_;refine t_7 ?_;refine t_0 ?_;refine RL ?_;iterate 2 refine CV ?_
 refine Dm ?_;refine t_2 ?_;refine t_7 ?_;iterate 2 refine t_0 ?_
 refine RJ ?_;refine t_6 ?_;refine t_2 ?_;refine t_7 ?_;iterate 2 refine t_0 ?_
 refine RI ?_;iterate 2 refine CV ?_
 refine Dm ?_;refine t_2 ?_;refine t_7 ?_;refine t_0 ?_;refine t_6 ?_;refine t_2 ?_;refine t_7 ?_;iterate 2 refine t_0 ?_
 refine RH ?_;refine RG ?_;refine t_6 ?_;refine t_2 ?_;refine t_7 ?_;refine t_0 ?_;refine t_6 ?_;refine t_2 ?_;refine t_7 ?_;iterate 2 refine t_0 ?_
 refine RF ?_;refine RE ?_;iterate 2 refine CV ?_
 refine Dm ?_;refine t_2 ?_;iterate 2 refine t_0 ?_
 refine RQ ?_;refine t_6 ?_;refine t_2 ?_;iterate 2 refine t_0 ?_
 refine RP ?_;iterate 2 refine CV ?_
 refine Fw ?_
 refine t_0 ?_;refine DV ?_;refine AV (by exact AK rfl gg rfl rfl (fun w=>Ie hh _ _ w)) ?_;iterate 5 refine t_k ?_
 refine t_0 ?_;refine DV ?_;refine AV (by exact AK rfl gg rfl rfl (fun w=>Ig hr _ _ w)) ?_;iterate 5 refine t_k ?_
 refine AV (by exact A6 rfl gg rfl (QT)) ?_;refine D2 ?_;refine AD (AH results133 (Ac rfl rfl underlying205 rfl sizeOf205 rfl rfl)) ?_;intro w' hg;exact⟨rfl,hg⟩
theorem rq{b:Nat}(p q:Jp)(v37 v44 v50 v56 v66 v67 v77 v78 v83 v88 v103 v108 v113 v122 v124 v127 v128 v139 v140 v145 v146 v155 v157:F)(w:World)(ha:At w b pp)(hz:p.z≠0)(hw:q.z≠0)(e37:p.z*p.z=v37)(e44:q.z*q.z=v44)(e50:p.x*v44=v50)(e56:q.x*v37=v56)(e66:q.z*v44=v66)(e67:p.y*v66=v67)(e77:p.z*v37=v77)(e78:q.y*v77=v78)(e83:v56-v50=v83)(e88:v78-v67=v88)(e103:v83*v83=v103)(e108:v83*v103=v108)(e113:v50*v103=v113)(e122:v88*v88=v122)(e124:v122-v108=v124)(e127:v113+v113=v127)(e128:v124-v127=v128)(e139:v113-v128=v139)(e140:v88*v139=v140)(e145:v67*v108=v145)(e146:v140-v145=v146)(e155:p.z*q.z=v155)(e157:v155*v83=v157)(hh:v83≠0):Calls prog 133 #[FV b,TF p,TF q] w fun e w'=>e= .returned (TF ⟨v128,v146,v157⟩)∧Gw w w':=by
 go_enter func133,ntmps133
 refine GW ?_
 refine Gd ?_
 refine t_7 ?_;refine t_0 ?_;refine DV ?_;refine J6 ?_;iterate 5 refine BJ ?_
 refine t_7 ?_;refine t_0 ?_;refine DV ?_;refine AV (by exact AK rfl gg rfl rfl (fun w=>Ig hw _ _ w)) ?_;iterate 6 refine BJ ?_
 refine t_6 ?_;refine t_2 ?_;refine t_7 ?_;refine t_0 ?_;refine t_7 ?_;refine t_0 ?_;refine RO ?_;refine t_6 ?_;refine t_2 ?_;refine t_7 ?_;refine t_0 ?_;refine t_7 ?_;refine t_0 ?_;refine RL ?_;iterate 2 refine CV ?_
 refine Dm ?_;refine t_2 ?_;refine t_7 ?_;iterate 2 refine t_0 ?_
 refine RJ ?_;refine t_6 ?_;refine t_2 ?_;refine t_7 ?_;iterate 2 refine t_0 ?_
 refine RI ?_;iterate 2 refine CV ?_
 refine Dm ?_;refine t_2 ?_;refine t_7 ?_;refine t_0 ?_;refine t_6 ?_;refine t_2 ?_;refine t_7 ?_;iterate 2 refine t_0 ?_
 refine RH ?_;refine RG ?_;refine t_6 ?_;refine t_2 ?_;refine t_7 ?_;refine t_0 ?_;refine t_6 ?_;refine t_2 ?_;refine t_7 ?_;iterate 2 refine t_0 ?_
 refine RF ?_;refine RE ?_;iterate 2 refine CV ?_
 refine Dm ?_;refine t_2 ?_;iterate 2 refine t_0 ?_
 refine RQ ?_;refine t_6 ?_;refine t_2 ?_;iterate 2 refine t_0 ?_
 refine RP ?_;iterate 2 refine CV ?_
 refine Fw ?_
 refine t_0 ?_;refine DV ?_;refine AV (by exact AK rfl gg rfl rfl (fun w=>Ig hh _ _ w)) ?_;iterate 5 refine t_k ?_
 refine t_6 ?_;refine t_2 ?_;iterate 2 refine t_0 ?_
 refine AV (by exact AM rfl gg rfl (eo func83) (fun w' hw'=>B3 e103 w' (ha.gw hw'))) ?_;refine En ?_
 refine t_6 ?_;refine t_2 ?_;iterate 2 refine t_0 ?_
 refine AV (by exact AM rfl gg rfl (eo func83) (fun w' hw'=>B3 e108 w' (ha.gw hw'))) ?_;refine t_6 ?_;refine t_2 ?_;iterate 2 refine t_0 ?_
 refine AV (by exact AM rfl gg rfl (eo func83) (fun w' hw'=>B3 e113 w' (ha.gw hw'))) ?_;iterate 2 refine CV ?_
 refine Dm ?_;refine t_2 ?_;refine t_6 ?_;refine t_2 ?_;refine t_6 ?_;refine t_2 ?_;iterate 2 refine t_0 ?_
 refine AV (by exact AM rfl gg rfl (eo func83) (fun w' hw'=>B3 e122 w' (ha.gw hw'))) ?_;refine t_0 ?_;refine AV (by exact AM rfl gg rfl (eo func130) (fun w' hw'=>GZ e124 w' (ha.gw hw'))) ?_;refine HF ?_;refine t_0 ?_;refine AV (by exact AM rfl gg rfl (eo func174) (fun w' hw'=>Hh e127 w' (ha.gw hw'))) ?_;refine AV (by exact AM rfl gg rfl (eo func130) (fun w' hw'=>GZ e128 w' (ha.gw hw'))) ?_;refine En ?_
 refine t_0 ?_;refine t_6 ?_;refine t_2 ?_;refine t_6 ?_;refine t_2 ?_;refine t_0 ?_;refine t_6 ?_;refine t_2 ?_;iterate 2 refine t_0 ?_
 refine AV (by exact AM rfl gg rfl (eo func130) (fun w' hw'=>GZ e139 w' (ha.gw hw'))) ?_;refine AV (by exact AM rfl gg rfl (eo func83) (fun w' hw'=>B3 e140 w' (ha.gw hw'))) ?_;refine t_6 ?_;refine t_2 ?_;iterate 2 refine t_0 ?_
 refine AV (by exact AM rfl gg rfl (eo func83) (fun w' hw'=>B3 e145 w' (ha.gw hw'))) ?_;refine AV (by exact AM rfl gg rfl (eo func130) (fun w' hw'=>GZ e146 w' (ha.gw hw'))) ?_;refine t_6 ?_;refine t_2 ?_;refine t_6 ?_;refine t_2 ?_;refine t_7 ?_;refine t_0 ?_;refine t_7 ?_;refine t_0 ?_;refine AV (by exact AM rfl gg rfl (eo func83) (fun w' hw'=>B3 e155 w' (ha.gw hw'))) ?_;refine t_0 ?_;refine AV (by exact AM rfl gg rfl (eo func83) (fun w' hw'=>B3 e157 w' (ha.gw hw'))) ?_;refine AV (by exact A6 rfl gg rfl (UQ _ _ _)) ?_;refine D2 ?_;refine AD (AH results133 (Ac rfl rfl underlying205 rfl sizeOf205 rfl rfl)) ?_;intro w' hg;exact⟨rfl,hg⟩
end
open TollMont
open TollEc (F pp cb Jp Pt Df D5)
theorem T6(p:Jp)(w:World)(ha:At w b pp):Calls prog 135 #[FV b,TF p] w fun e w'=>e= .returned (TF (Df p))∧Gw w w':=by
 by_cases hz:p.z=0
 ·rw[show Df p=⟨0,0,0⟩ from if_pos (.inl hz)];exact pB p w ha hz
 ·by_cases hy:p.y=0
  ·rw[show Df p=⟨0,0,0⟩ from if_pos (.inr hy)];exact pC p w ha hz hy
  ·have h:=pD p _ _ _ _ _ _ _ _ _ _ _ _ _ _ _ _ _ _ _ _ _ w ha hz hy rfl rfl rfl rfl rfl rfl rfl rfl rfl rfl rfl rfl rfl rfl rfl rfl rfl rfl rfl rfl rfl
   have e:Df p=_:=if_neg (fun c:p.z=0∨p.y=0=>c.elim hz hy);rw[e];exact h
theorem cZ(p q:Jp)(w:World)(ha:At w b pp):Calls prog 133 #[FV b,TF p,TF q] w fun e w'=>e= .returned (TF (D5 p q))∧Gw w w':=by
 by_cases hz:p.z=0
 ·rw[show D5 p q=q from if_pos hz];exact rn p q w ha hz
 ·by_cases hw:q.z=0
  ·rw[show D5 p q=p from(if_neg hz).trans (if_pos hw)];exact rl p q w ha hz hw
  ·by_cases hh:q.x*(p.z*p.z)-p.x*(q.z*q.z)=0
   ·by_cases hr:q.y*(p.z*(p.z*p.z))-p.y*(q.z*(q.z*q.z))=0
    ·rw[show D5 p q=Df p from(if_neg hz).trans ((if_neg hw).trans ((if_pos hh).trans (if_pos hr)))]
     exact ru p q _ _ _ _ _ _ _ _ _ _ _ w ha hz hw rfl rfl rfl rfl rfl rfl rfl rfl rfl rfl hh hr (fun w' hw'=>T6 p w' (ha.gw hw'))
    ·rw[show D5 p q=⟨0,0,0⟩ from(if_neg hz).trans ((if_neg hw).trans ((if_pos hh).trans (if_neg hr)))]
     exact Hb p q _ _ _ _ _ _ _ _ _ _ w ha hz hw rfl rfl rfl rfl rfl rfl rfl rfl rfl rfl hh hr
   ·have h:=rq p q _ _ _ _ _ _ _ _ _ _ _ _ _ _ _ _ _ _ _ _ _ _ _ w ha hz hw rfl rfl rfl rfl rfl rfl rfl rfl rfl rfl rfl rfl rfl rfl rfl rfl rfl rfl rfl rfl rfl rfl rfl hh
    have e:D5 p q=_:=(if_neg hz).trans ((if_neg hw).trans (if_neg hh));rw[e];exact h
theorem S6(hn:n<R)(h:n<pp)(w:World):Calls prog 124 #[N n,N pp] w fun e w'=>e= .returned (.bool true)∧Gw w w':=by
 have:=Yv n hn w;rw[decide_eq_true h]at this;exact this
theorem Yu(hn:n<R)(h: ¬n<pp)(w:World):Calls prog 124 #[N n,N pp] w fun e w'=>e= .returned (.bool false)∧Gw w w':=by
 have:=Yv n hn w;rw[decide_eq_false h]at this;exact this
theorem sS:NF 1= .agg #[.int .u64 1,.int .u64 0,.int .u64 0,.int .u64 0]:=Qo
theorem dB:NF 3= .agg #[.int .u64 3,.int .u64 0,.int .u64 0,.int .u64 0]:=sR (k:=3) (by decide)
theorem ec(x:F)(w:World)(ha:At w b pp):Calls prog 130 #[ptr b,NF x,.agg #[.int .u64 3,.int .u64 0,.int .u64 0,.int .u64 0]] w fun e w'=>e= .returned (NF (x-3))∧Gw w w':=by
 have:=Vk x 3 w ha;rw[dB]at this;exact this
theorem qV:prog.built 147 [(0,.int .u64 3)]=some #[.int .u64 3,.int .u64 0,.int .u64 0,.int .u64 0]:=by kernel_rfl
theorem qX:prog.built 147 [(0,.int .u64 1)]=some #[.int .u64 1,.int .u64 0,.int .u64 0,.int .u64 0]:=by kernel_rfl
theorem qT(x y:F):prog.built 205 [(0,NF x),(1,NF y),(2,.agg #[.int .u64 1,.int .u64 0,.int .u64 0,.int .u64 0])]=some #[.int .u64 (lv x 0:Nat),.int .u64 (lv x 1:Nat),.int .u64 (lv x 2:Nat),.int .u64 (lv x 3:Nat),.int .u64 (lv y 0:Nat),.int .u64 (lv y 1:Nat),.int .u64 (lv y 2:Nat),.int .u64 (lv y 3:Nat),.int .u64 (lv 1 0:Nat),.int .u64 (lv 1 1:Nat),.int .u64 (lv 1 2:Nat),.int .u64 (lv 1 3:Nat)]:=by
 rw[←sS];exact UQ x y 1
theorem QU(x y:Nat):prog.built 141 [(0,B32 x),(1,B32 y)]=some #[.int .u8 (byt x 0:Nat),.int .u8 (byt x 1:Nat),.int .u8 (byt x 2:Nat),.int .u8 (byt x 3:Nat),.int .u8 (byt x 4:Nat),.int .u8 (byt x 5:Nat),.int .u8 (byt x 6:Nat),.int .u8 (byt x 7:Nat),.int .u8 (byt x 8:Nat),.int .u8 (byt x 9:Nat),.int .u8 (byt x 10:Nat),.int .u8 (byt x 11:Nat),.int .u8 (byt x 12:Nat),.int .u8 (byt x 13:Nat),.int .u8 (byt x 14:Nat),.int .u8 (byt x 15:Nat),.int .u8 (byt x 16:Nat),.int .u8 (byt x 17:Nat),.int .u8 (byt x 18:Nat),.int .u8 (byt x 19:Nat),.int .u8 (byt x 20:Nat),.int .u8 (byt x 21:Nat),.int .u8 (byt x 22:Nat),.int .u8 (byt x 23:Nat),.int .u8 (byt x 24:Nat),.int .u8 (byt x 25:Nat),.int .u8 (byt x 26:Nat),.int .u8 (byt x 27:Nat),.int .u8 (byt x 28:Nat),.int .u8 (byt x 29:Nat),.int .u8 (byt x 30:Nat),.int .u8 (byt x 31:Nat),.int .u8 (byt y 0:Nat),.int .u8 (byt y 1:Nat),.int .u8 (byt y 2:Nat),.int .u8 (byt y 3:Nat),.int .u8 (byt y 4:Nat),.int .u8 (byt y 5:Nat),.int .u8 (byt y 6:Nat),.int .u8 (byt y 7:Nat),.int .u8 (byt y 8:Nat),.int .u8 (byt y 9:Nat),.int .u8 (byt y 10:Nat),.int .u8 (byt y 11:Nat),.int .u8 (byt y 12:Nat),.int .u8 (byt y 13:Nat),.int .u8 (byt y 14:Nat),.int .u8 (byt y 15:Nat),.int .u8 (byt y 16:Nat),.int .u8 (byt y 17:Nat),.int .u8 (byt y 18:Nat),.int .u8 (byt y 19:Nat),.int .u8 (byt y 20:Nat),.int .u8 (byt y 21:Nat),.int .u8 (byt y 22:Nat),.int .u8 (byt y 23:Nat),.int .u8 (byt y 24:Nat),.int .u8 (byt y 25:Nat),.int .u8 (byt y 26:Nat),.int .u8 (byt y 27:Nat),.int .u8 (byt y 28:Nat),.int .u8 (byt y 29:Nat),.int .u8 (byt y 30:Nat),.int .u8 (byt y 31:Nat)]:=by kernel_rfl
theorem qU(g:Nat):prog.built 192 [(0,.pointer (some ⟨g,0,none⟩))]=some #[.pointer (some ⟨g,0,none⟩)]:=by kernel_rfl
theorem VH(l:List Value):unV (l.map SV.v)=some l:=by
 induction l with
 |nil=>rfl
 |cons a l ih=>simp only[List.map_cons,unV,ih]
theorem Ha{w0 w:World}{s:VS}{id ty m:Nat}(hs:GM w0 s rd ρ w)(hid:id∈rd)(hm:s.mem id=some ((Ck m).map SV.v,ty)):At w (ρ id) m:=
 Rs hs hid hm 0 (Ck m) (by rw[List.drop_zero];show unV (((Ck m).map SV.v).take (Ck m).length)=_;rw[List.take_of_length_le (by simp)];exact VH _)
theorem k6(hx:x<R)(hy:y<R)(w:World)(_ha:At w b pp)(hL:Laid w)(h: ¬x<pp):Calls prog 123 #[FV b,PT x y] w fun e w'=>e= .returned (.bool false)∧Gw w w':=by
 go_enter func123,ntmps123
 refine Dz ?_;iterate 8 refine BJ ?_
 refine Hm ?_;refine HE ?_;refine AV (by exact AM rfl gg rfl (eo func82) (fun w' hw'=>ofN x hx w')) ?_;refine Hm ?_;refine HE ?_;refine AV (by exact AM rfl gg rfl (eo func82) (fun w' hw'=>ofN y hy w')) ?_;iterate 2 refine CV ?_
 refine Fw ?_
 refine t_0 ?_;refine OO ?_;refine AV (by exact AM (v:= .bool false) rfl gg rfl (eo func124) (fun w' hw'=>Yu hx h w')) ?_;iterate 2 refine BJ ?_
 iterate 2 refine J8 ?_
 refine VX ?_;refine AV (by first|exact Ev.skip (fun _=>rfl)|exact D7 rfl (fun _=>rfl) rfl) ?_;iterate 7 refine BJ ?_
 refine AG ?_;refine AD (AH results123 (AF rfl)) ?_;intro w' hg;exact⟨rfl,hg⟩
theorem k5(hx:x<R)(hy:y<R)(w:World)(_ha:At w b pp)(hL:Laid w)(h:x<pp)(h2: ¬y<pp):Calls prog 123 #[FV b,PT x y] w fun e w'=>e= .returned (.bool false)∧Gw w w':=by
 go_enter func123,ntmps123
 refine Dz ?_;iterate 8 refine BJ ?_
 refine Hm ?_;refine HE ?_;refine AV (by exact AM rfl gg rfl (eo func82) (fun w' hw'=>ofN x hx w')) ?_;refine Hm ?_;refine HE ?_;refine AV (by exact AM rfl gg rfl (eo func82) (fun w' hw'=>ofN y hy w')) ?_;iterate 2 refine CV ?_
 refine Fw ?_
 refine t_0 ?_;refine OO ?_;refine AV (by exact AM (v:= .bool true) rfl gg rfl (eo func124) (fun w' hw'=>S6 hx h w')) ?_;iterate 2 refine BJ ?_
 refine J8 ?_;refine AV (by first|exact Ev.skip (fun _=>rfl)|exact A2 rfl (fun _=>rfl) rfl underlying147 rfl sizeOf147 (hL.pp) rfl) ?_;refine AV (by first|exact Ev.skip (fun _=>rfl)|exact AM (v:= .bool false) rfl (fun _=>rfl) rfl (eo func124) (fun w' hw'=>Yu hy h2 w')) ?_;refine AV (by first|exact Ev.skip (fun _=>rfl)|exact D7 rfl (fun _=>rfl) rfl) ?_;iterate 7 refine BJ ?_
 refine AG ?_;refine AD (AH results123 (AF rfl)) ?_;intro w' hg;exact⟨rfl,hg⟩
theorem lB(x y:F)(w:World)(ha:At w b pp)(hL:Laid w):Calls prog 123 #[FV b,PT x.val y.val] w fun e w'=>e= .returned (.bool (decide (y*y=(x*x-3)*x+cb)))∧Gw w w':=by
 go_enter func123,ntmps123
 refine Dz ?_;iterate 8 refine BJ ?_
 refine Hm ?_;refine HE ?_;refine AV (by exact AM rfl gg rfl (eo func82) (fun w' hw'=>ofF x w')) ?_;refine Hm ?_;refine HE ?_;refine AV (by exact AM rfl gg rfl (eo func82) (fun w' hw'=>ofF y w')) ?_;iterate 2 refine CV ?_
 refine Fw ?_
 refine t_0 ?_;refine OO ?_;refine AV (by exact AM (v:= .bool true) rfl gg rfl (eo func124) (fun w' hw'=>S6 (B7 x) x.isLt w')) ?_;iterate 2 refine BJ ?_
 refine J8 ?_;refine AV (by first|exact Ev.skip (fun _=>rfl)|exact A2 rfl (fun _=>rfl) rfl underlying147 rfl sizeOf147 (hL.pp) rfl) ?_;refine AV (by first|exact Ev.skip (fun _=>rfl)|exact AM (v:= .bool true) rfl (fun _=>rfl) rfl (eo func124) (fun w' hw'=>S6 (B7 y) y.isLt w')) ?_;refine AV (by first|exact Ev.skip (fun _=>rfl)|exact D7 rfl (fun _=>rfl) rfl) ?_;iterate 6 refine BJ ?_
 refine t_6 ?_;refine t_2 ?_;refine t_6 ?_;refine t_2 ?_;refine t_6 ?_;refine t_2 ?_;refine t_6 ?_;refine t_2 ?_;iterate 2 refine t_0 ?_
 refine RD ?_;refine AV (by exact A6 rfl gg rfl qV) ?_;refine AV (by exact AM rfl gg rfl (eo func130) (fun w' hw'=>ec _ w' (ha.gw hw'))) ?_;refine t_0 ?_;refine RD ?_;refine AV (by exact A2 rfl gg rfl underlying147 rfl sizeOf147 (hL.cb) rfl) ?_;refine AV (by exact AM rfl gg rfl (eo func106) (fun w' hw'=>Ug _ cb w' (ha.gw hw'))) ?_;refine En ?_
 refine t_6 ?_;refine t_2 ?_;iterate 2 refine t_0 ?_
 refine RD ?_;refine t_0 ?_;refine AV (by exact AK rfl gg rfl rfl (fun w=>eqF _ _ _ _ w)) ?_;iterate 2 refine BJ ?_
 refine AG ?_;refine AD (AH results123 (AF rfl)) ?_;intro w' hg;exact⟨rfl,hg⟩
theorem Yt(hon: ∀w',Gw w w'→Calls prog 123 #[FV b,PT x y] w' fun e w''=>e= .returned (.bool false)∧Gw w' w''):Calls prog 134 #[FV b,PT x y] w fun e w'=>e= .returned (TF ⟨0,0,0⟩)∧Gw w w':=by
 go_enter func134,ntmps134
 refine Dn ?_
 refine Ge ?_
 refine HF ?_;refine Ls ?_;refine AV (by exact AM rfl gg rfl (eo func123) (fun w' hw'=>hon w' hw')) ?_;iterate 5 refine BJ ?_
 refine AV (by exact A6 rfl gg rfl (QT)) ?_;refine D2 ?_;refine AD (AH results134 (Ac rfl rfl underlying205 rfl sizeOf205 rfl rfl)) ?_;intro w' hg;exact⟨rfl,hg⟩
theorem mF(x y:F)(w:World)(hon: ∀w',Gw w w'→Calls prog 123 #[FV b,PT x.val y.val] w' fun e w''=>e= .returned (.bool true)∧Gw w' w''):Calls prog 134 #[FV b,PT x.val y.val] w fun e w'=>e= .returned (TF ⟨x,y,1⟩)∧Gw w w':=by
 go_enter func134,ntmps134
 refine Dn ?_
 refine Ge ?_
 refine HF ?_;refine Ls ?_;refine AV (by exact AM rfl gg rfl (eo func123) (fun w' hw'=>hon w' hw')) ?_;iterate 6 refine BJ ?_
 refine Hm ?_;refine HE ?_;refine AV (by exact AM rfl gg rfl (eo func82) (fun w' hw'=>ofF x w')) ?_;refine Hm ?_;refine HE ?_;refine AV (by exact AM rfl gg rfl (eo func82) (fun w' hw'=>ofF y w')) ?_;refine AV (by exact A6 rfl gg rfl qX) ?_;refine AV (by exact A6 rfl gg rfl (qT _ _)) ?_;refine D2 ?_;refine AD (AH results134 (Ac rfl rfl underlying205 rfl sizeOf205 rfl rfl)) ?_;intro w' hg;exact⟨rfl,hg⟩
theorem o9(x y:F)(w:World)(ha:At w b pp):Calls prog 132 #[FV b,TF ⟨x,y,0⟩] w fun e w'=>e= .returned (PT 0 0)∧Gw w w':=by
 go_enter func132,ntmps132
 refine Dn ?_
 refine J3 ?_
 refine t_6 ?_;refine t_2 ?_;refine t_7 ?_;refine t_0 ?_;refine AV (by exact AM rfl gg rfl (eo func81) (fun w' hw'=>nB w' (ha.gw hw'))) ?_;iterate 3 refine BJ ?_
 refine CV ?_;refine Ho ?_;iterate 6 refine BJ ?_
 refine AV (by refine D6 gg (fun ρ w=>by simp only[VS.act,SV.c,List.map_cons,List.map_nil];go_simp;exact rfl) (fun _ _=>rfl)) ?_;iterate 4 refine t_k ?_
 refine AV (by exact A6 rfl gg rfl (Jn)) ?_;refine Lq ?_;refine Dx ?_;refine AD (AH results132 (Ac rfl rfl underlying141 rfl sizeOf141 rfl rfl)) ?_;intro w' hg;exact⟨rfl,hg⟩
theorem pA(x y z i ii u v iii:F)(w:World)(ha:At w b pp)(hi:z*i=1)(e1:i*i=ii)(e2:x*ii=u)(e3:i*ii=iii)(e4:y*iii=v):Calls prog 132 #[FV b,TF ⟨x,y,z⟩] w fun e w'=>e= .returned (PT u.val v.val)∧Gw w w':=by
 go_enter func132,ntmps132
 refine Dn ?_
 refine J3 ?_
 refine t_6 ?_;refine t_2 ?_;refine t_7 ?_;refine t_0 ?_;refine AV (by exact AM rfl gg rfl (eo func81) (fun w' hw'=>nA hi w' (ha.gw hw'))) ?_;iterate 3 refine BJ ?_
 refine CV ?_;refine Ho ?_;iterate 6 refine BJ ?_
 refine AV (by refine D6 gg (fun ρ w=>by simp only[VS.act,SV.c,List.map_cons,List.map_nil];go_simp;exact rfl) (fun _ _=>rfl)) ?_;iterate 5 refine t_k ?_
 refine t_6 ?_;refine t_2 ?_;iterate 2 refine t_0 ?_
 refine AV (by exact AM rfl gg rfl (eo func83) (fun w' hw'=>B3 e1 w' (ha.gw hw'))) ?_;refine En ?_
 refine t_6 ?_;refine t_2 ?_;refine t_7 ?_;iterate 2 refine t_0 ?_
 refine AV (by exact AM rfl gg rfl (eo func83) (fun w' hw'=>B3 e2 w' (ha.gw hw'))) ?_;refine AV (by exact AM rfl gg rfl (eo func86) (fun w' hw'=>QR _ w')) ?_;refine t_6 ?_;refine t_2 ?_;refine t_7 ?_;refine t_0 ?_;refine t_6 ?_;refine t_2 ?_;iterate 2 refine t_0 ?_
 refine AV (by exact AM rfl gg rfl (eo func83) (fun w' hw'=>B3 e3 w' (ha.gw hw'))) ?_;refine AV (by exact AM rfl gg rfl (eo func83) (fun w' hw'=>B3 e4 w' (ha.gw hw'))) ?_;refine AV (by exact AM rfl gg rfl (eo func86) (fun w' hw'=>QR _ w')) ?_;refine AV (by exact A6 rfl gg rfl (QU _ _)) ?_;refine Lq ?_;refine Dx ?_;refine AD (AH results132 (Ac rfl rfl underlying141 rfl sizeOf141 rfl rfl)) ?_;intro w' hg;exact⟨rfl,hg⟩
theorem Sk(hL:Laid w):Calls prog 122 #[] w fun e w'=> ∃g,w.heap.size≤g∧e= .returned (.agg #[.pointer (some ⟨g,0,none⟩)])∧w'.heap[g]? =some (.cells (Ck pp).toArray 199 (0,0))∧Gw w w':=by
 go_enter func122,ntmps122
 refine Io ?_
 refine AV (by exact BZ rfl rfl gg zeroValue192) ?_;iterate 3 refine t_k ?_
 refine OO ?_;refine AV (by exact ob rfl rfl gg rfl (eo func126) (Ck pp) 199 (fun w' _=>YW mdp w')) ?_;refine BJ ?_;refine AV (by exact oQ rfl gg rfl) ?_;refine AV (by exact oP rfl gg rfl) ?_;iterate 6 refine BJ ?_
 refine AV (by exact oh rfl gg rfl (fun g=>qU g)) ?_;refine AV (by exact Tq rfl gg rfl rfl rfl sizeOf192 (by simp)) ?_;refine Dx ?_;refine kE (id:=5) results122 rfl rfl underlying192 rfl sizeOf192 rfl rfl (VH _) ?_;intro g w' h1 h2 h3;exact⟨g,h1,rfl,h2,h3⟩
theorem rO(hL:Laid w):Calls prog 87 #[] w fun e w'=>e= .returned (PT TollEc.bx.val TollEc.bY.val)∧Gw w w':=by
 go_enter func87,ntmps87
 refine Io ?_
 refine J3 ?_
 refine AV (by exact A2 rfl gg rfl underlying147 rfl sizeOf147 (hL.bx) rfl) ?_;refine AV (by exact AM rfl gg rfl (eo func86) (fun w' hw'=>QR TollEc.bx w')) ?_;refine AV (by exact A2 rfl gg rfl underlying147 rfl sizeOf147 (hL.bY) rfl) ?_;refine AV (by exact AM rfl gg rfl (eo func86) (fun w' hw'=>QR TollEc.bY w')) ?_;refine AV (by exact A6 rfl gg rfl (QU _ _)) ?_;refine Lq ?_;refine Dx ?_;refine AD (AH results87 (Ac rfl rfl underlying141 rfl sizeOf141 rfl rfl)) ?_;intro w' hg;exact⟨rfl,hg⟩
theorem kZ(hL:Laid w):Calls prog 125 #[] w fun e w'=>e= .returned (B32 TollEc.nn)∧Gw w w':=by
 go_enter func125,ntmps125
 refine Io ?_
 refine AV (by exact BZ rfl rfl gg zeroValue64) ?_;iterate 3 refine t_k ?_
 refine AV (by exact A2 rfl gg rfl underlying147 rfl sizeOf147 (hL.nn) rfl) ?_;refine AV (by exact AM rfl gg rfl (eo func86) (fun w' hw'=>LO TollEc.nn w')) ?_;refine AV (by exact BA rfl gg rfl rfl rfl sizeOf64 rfl (by simp) rfl) ?_;refine Dx ?_;refine AD (AH results125 (Ac rfl rfl underlying64 rfl sizeOf64 rfl rfl)) ?_;intro w' hg;exact⟨rfl,hg⟩
theorem Tz{P:Program}{e:TypeId}{k k':IntKind}(he:P.underlying e=some (.int k'))(d:Nat)(zs ys:List Int)(w:World): ∀(is:List Nat),(∀j∈is,j<zs.length∧j<ys.length)→
 (Op.eqItems (d+1) e 1 (zs.map (Value.int k)).toArray (ys.map (Value.int k)).toArray is).run P w= .ok (is.all fun j=>zs.getD j 0==ys.getD j 0) w
 | [],_=>by simp[Op.eqItems]
 |j::is,h=>by
  obtain⟨hz,hy⟩:=h j (by simp)
  have hp:(part e (zs.map (Value.int k)).toArray (j*1)).run P w= .ok (.int k zs[j]) w:=by
   simp[part,Bp he,Ba,hz]
  have hq:(part e (ys.map (Value.int k)).toArray (j*1)).run P w= .ok (.int k ys[j]) w:=by
   simp[part,Bp he,Ba,hy]
  have hi:=run_equalIn_int w d e k k' zs[j] ys[j] he;have ih:=Tz (k:=k) he d zs ys w is fun i hi=>h i (by simp[hi])
  simp only[Op.eqItems,Sem.run_bind,hp,hq,Result.andThen_ok,hi,List.all_cons,List.getD_eq_getElem?_getD,List.getElem?_eq_getElem hz,List.getElem?_eq_getElem hy,Option.getD_some];by_cases hc:zs[j]=ys[j]
  ·simp only[hc,beq_self_eq_true,Bool.not_true,Bool.false_eq_true,if_false,Bool.true_and]
   simpa only[List.getD_eq_getElem?_getD] using ih
  ·simp[hc]
def IV(n:Nat):List Int:=(List.range 32).map fun i=>((byt n i:Nat):Int)
theorem qM{a c:Nat}(ha:a<W)(hc:c<W)(h: ∀i,i<8→a/2^(56-8*i) %256=c/2^(56-8*i) %256):a=c:=by
 have h0:a/72057594037927936 %256=c/72057594037927936 %256:=h 0 (by decide);have h1:a/281474976710656 %256=c/281474976710656 %256:=h 1 (by decide);have h2:a/1099511627776 %256=c/1099511627776 %256:=h 2 (by decide);have h3:a/4294967296 %256=c/4294967296 %256:=h 3 (by decide);have h4:a/16777216 %256=c/16777216 %256:=h 4 (by decide);have h5:a/65536 %256=c/65536 %256:=h 5 (by decide);have h6:a/256 %256=c/256 %256:=h 6 (by decide);have h7:a/1 %256=c/1 %256:=h 7 (by decide);simp only[W]at ha hc;clear h;omega
theorem bytes_inj(hx:x<R)(hy:y<R)(h: ∀i,i<32→byt x i=byt y i):x=y:=by
 have g: ∀g,g<4→lim x (3-g)=lim y (3-g):=fun g hg=>by
  refine qM (AZ _ _) (AZ _ _) fun i hi=> ?_
  have:=h (8*g+i) (by omega);unfold byt at this
  rwa [show(8*g+i)/8=g by omega,show(8*g+i) %8=i by omega]at this
 exact JI hx hy (g 3 (by omega)) (g 2 (by omega)) (g 1 (by omega)) (g 0 (by omega))
theorem o6(hx:x<R)(hy:y<R):((List.range 32).all fun j=>(IV x).getD j 0==(IV y).getD j 0)=decide (x=y):=by
 rw[Bool.eq_iff_iff,List.all_eq_true,decide_eq_true_iff];constructor
 ·intro h
  refine bytes_inj hx hy fun i hi=> ?_
  have:=h i (by simpa using hi);simp[IV,hi]at this;omega
 ·rintro rfl i _
  exact beq_self_eq_true _
theorem T2(d:Nat)(hx:x<R)(hy:y<R)(w:World):(Op.equalIn (d+2) 64 (.agg #[.int .u8 (byt x 0:Nat),.int .u8 (byt x 1:Nat),.int .u8 (byt x 2:Nat),.int .u8 (byt x 3:Nat),.int .u8 (byt x 4:Nat),.int .u8 (byt x 5:Nat),.int .u8 (byt x 6:Nat),.int .u8 (byt x 7:Nat),.int .u8 (byt x 8:Nat),.int .u8 (byt x 9:Nat),.int .u8 (byt x 10:Nat),.int .u8 (byt x 11:Nat),.int .u8 (byt x 12:Nat),.int .u8 (byt x 13:Nat),.int .u8 (byt x 14:Nat),.int .u8 (byt x 15:Nat),.int .u8 (byt x 16:Nat),.int .u8 (byt x 17:Nat),.int .u8 (byt x 18:Nat),.int .u8 (byt x 19:Nat),.int .u8 (byt x 20:Nat),.int .u8 (byt x 21:Nat),.int .u8 (byt x 22:Nat),.int .u8 (byt x 23:Nat),.int .u8 (byt x 24:Nat),.int .u8 (byt x 25:Nat),.int .u8 (byt x 26:Nat),.int .u8 (byt x 27:Nat),.int .u8 (byt x 28:Nat),.int .u8 (byt x 29:Nat),.int .u8 (byt x 30:Nat),.int .u8 (byt x 31:Nat)]) (.agg #[.int .u8 (byt y 0:Nat),.int .u8 (byt y 1:Nat),.int .u8 (byt y 2:Nat),.int .u8 (byt y 3:Nat),.int .u8 (byt y 4:Nat),.int .u8 (byt y 5:Nat),.int .u8 (byt y 6:Nat),.int .u8 (byt y 7:Nat),.int .u8 (byt y 8:Nat),.int .u8 (byt y 9:Nat),.int .u8 (byt y 10:Nat),.int .u8 (byt y 11:Nat),.int .u8 (byt y 12:Nat),.int .u8 (byt y 13:Nat),.int .u8 (byt y 14:Nat),.int .u8 (byt y 15:Nat),.int .u8 (byt y 16:Nat),.int .u8 (byt y 17:Nat),.int .u8 (byt y 18:Nat),.int .u8 (byt y 19:Nat),.int .u8 (byt y 20:Nat),.int .u8 (byt y 21:Nat),.int .u8 (byt y 22:Nat),.int .u8 (byt y 23:Nat),.int .u8 (byt y 24:Nat),.int .u8 (byt y 25:Nat),.int .u8 (byt y 26:Nat),.int .u8 (byt y 27:Nat),.int .u8 (byt y 28:Nat),.int .u8 (byt y 29:Nat),.int .u8 (byt y 30:Nat),.int .u8 (byt y 31:Nat)])).run prog w= .ok (decide (x=y)) w:=by
 have h:=Tz (k:= .u8) underlying5 d (IV x) (IV y) w (List.range 32) (by intro j hj;simp[IV]at *; exact hj);rw[o6 hx hy]at h;show(Op.equalIn (d+2) 64 (.agg ((IV x).map (Value.int .u8)).toArray) (.agg ((IV y).map (Value.int .u8)).toArray)).run prog w=_;rw[run_equalIn_array w (d+1) _ _ underlying64 (i:=prog.types[5]) rfl,show prog.cellsOf 5=1 by kernel_rfl];exact h
theorem ag(hx:x<R)(hy:y<R)(hx':x'<R)(hy':y'<R)(p q:Operand)(w:World):(do eqGuard .eql 141 p q (PT x y) (PT x' y');binOp .eql 141 (PT x y) (PT x' y'):Sem Value).run prog w= .ok (.bool (decide (x=x'∧y=y'))) w:=by
 unfold PT
 go_simp
 rw[T2 _ hx hx'];by_cases h:x=x'
 ·simp[h,T2 _ hy hy',Result.andThen]
  by_cases h2:y=y'<;>simp[h2]
 ·simp[h,Result.andThen]
def onF(x y:F):Bool:=decide (y*y=(x*x-3)*x+cb)
theorem PH{x y:F}:onF x y=true↔TollEc.onE x y:=by
 unfold onF TollEc.onE;rw[decide_eq_true_iff,show(x*x-3)*x+cb=x*x*x-3*x+cb by grind-lia]
def onB(x y:Nat):Bool:=if h:x<pp∧y<pp then onF ⟨x,h.1⟩ ⟨y,h.2⟩else false
theorem MM(hx:x<R)(hy:y<R)(w:World)(ha:At w b pp)(hL:Laid w):Calls prog 123 #[FV b,PT x y] w fun e w'=>e= .returned (.bool (onB x y))∧Gw w w':=by
 by_cases h1:x<pp
 ·by_cases h2:y<pp
  ·have h:=lB (b:=b) ⟨x,h1⟩ ⟨y,h2⟩ w ha hL
   rw[show onB x y=onF ⟨x,h1⟩ ⟨y,h2⟩ from dif_pos ⟨h1,h2⟩];exact h
  ·rw[show onB x y=false from dif_neg (fun c=>h2 c.2)];exact k5 hx hy w ha hL h1 h2
 ·rw[show onB x y=false from dif_neg (fun c=>h1 c.1)];exact k6 hx hy w ha hL h1
def toP(x y:Nat):Pt:=if h:x<pp∧y<pp then(if onF ⟨x,h.1⟩ ⟨y,h.2⟩then .aff ⟨x,h.1⟩ ⟨y,h.2⟩else .inf)else .inf
def Gr(x y:Nat):Jp:=if h:x<pp∧y<pp then(if onF ⟨x,h.1⟩ ⟨y,h.2⟩then⟨⟨x,h.1⟩,⟨y,h.2⟩,1⟩else⟨0,0,0⟩)else⟨0,0,0⟩
theorem S5(hx:x<R)(hy:y<R)(w:World)(ha:At w b pp)(hL:Laid w):Calls prog 134 #[FV b,PT x y] w fun e w'=>e= .returned (TF (Gr x y))∧Gw w w':=by
 have hon:=fun(w':World) (hw:Gw w w')=>MM hx hy w' (ha.gw hw) (hL.gw hw)
 by_cases h:x<pp∧y<pp
 ·by_cases h2:onF ⟨x,h.1⟩ ⟨y,h.2⟩=true
  ·have e:onB x y=true:=(dif_pos h).trans h2
   rw[e]at hon;rw[show Gr x y=⟨⟨x,h.1⟩,⟨y,h.2⟩,1⟩ from(dif_pos h).trans (if_pos h2)];exact mF ⟨x,h.1⟩ ⟨y,h.2⟩ w hon
  ·have e:onB x y=false:=(dif_pos h).trans (by simpa using h2)
   rw[e]at hon;rw[show Gr x y=⟨0,0,0⟩ from(dif_pos h).trans (if_neg h2)];exact Yt w hon
 ·have e:onB x y=false:=dif_neg h
  rw[e]at hon;rw[show Gr x y=⟨0,0,0⟩ from dif_neg h];exact Yt w hon
theorem KY(x y:Nat):(Gr x y).rep=toP x y:=by
 unfold Gr toP;split
 ·split
  ·exact TollEc.rep_one _ _
  ·exact TollEc.rep_inf rfl
 ·exact TollEc.rep_inf rfl
theorem N4(x y:Nat):(toP x y).on:=by
 unfold toP;split
 ·split
  ·rename_i h;exact PH.1 h
  ·exact True.intro
 ·exact True.intro
def xv:Pt→Nat
 | .inf=>0
 | .aff x _=>x.val
def yv:Pt→Nat
 | .inf=>0
 | .aff _ y=>y.val
def PV(p:Pt):Value:=PT (xv p) (yv p)
theorem Hd(p:Pt):xv p<R:=by cases p with|inf=>decide|aff x y=>exact B7 x
theorem Nz(p:Pt):yv p<R:=by cases p with|inf=>decide|aff x y=>exact B7 y
theorem Q7{p:Pt}(h:p.on):toP (xv p) (yv p)=p:=by
 cases p with
 |inf=>
  have:onF ⟨0,by decide⟩ ⟨0,by decide⟩=false:=by decide+kernel
  exact(dif_pos ⟨by decide,by decide⟩).trans (if_neg (fun c=>Bool.false_ne_true (this.symm.trans c)))
 |aff x y=>exact(dif_pos ⟨x.isLt,y.isLt⟩).trans (if_pos (PH.2 h))
theorem al(j:Jp)(w:World)(ha:At w b pp):Calls prog 132 #[FV b,TF j] w fun e w'=>e= .returned (PV j.rep)∧Gw w w':=by
 obtain⟨x,y,z⟩:=j;by_cases h:z=0
 ·subst h
  rw[TollEc.rep_inf rfl];exact o9 x y w ha
 ·obtain⟨i,hi⟩:=TollEc.inv_ex z h
  rw[TollEc.rep_of (j:=⟨x,y,z⟩) hi];exact pA x y z i _ _ _ _ w ha hi rfl rfl rfl rfl
theorem o1(hx:x=0)(hy:y=0)(p q:Operand)(w:World):(do eqGuard .eql 141 p q (PT x y) (.agg #[.int .u8 0,.int .u8 0,.int .u8 0,.int .u8 0,.int .u8 0,.int .u8 0,.int .u8 0,.int .u8 0,.int .u8 0,.int .u8 0,.int .u8 0,.int .u8 0,.int .u8 0,.int .u8 0,.int .u8 0,.int .u8 0,.int .u8 0,.int .u8 0,.int .u8 0,.int .u8 0,.int .u8 0,.int .u8 0,.int .u8 0,.int .u8 0,.int .u8 0,.int .u8 0,.int .u8 0,.int .u8 0,.int .u8 0,.int .u8 0,.int .u8 0,.int .u8 0,.int .u8 0,.int .u8 0,.int .u8 0,.int .u8 0,.int .u8 0,.int .u8 0,.int .u8 0,.int .u8 0,.int .u8 0,.int .u8 0,.int .u8 0,.int .u8 0,.int .u8 0,.int .u8 0,.int .u8 0,.int .u8 0,.int .u8 0,.int .u8 0,.int .u8 0,.int .u8 0,.int .u8 0,.int .u8 0,.int .u8 0,.int .u8 0,.int .u8 0,.int .u8 0,.int .u8 0,.int .u8 0,.int .u8 0,.int .u8 0,.int .u8 0,.int .u8 0]);binOp .eql 141 (PT x y) (.agg #[.int .u8 0,.int .u8 0,.int .u8 0,.int .u8 0,.int .u8 0,.int .u8 0,.int .u8 0,.int .u8 0,.int .u8 0,.int .u8 0,.int .u8 0,.int .u8 0,.int .u8 0,.int .u8 0,.int .u8 0,.int .u8 0,.int .u8 0,.int .u8 0,.int .u8 0,.int .u8 0,.int .u8 0,.int .u8 0,.int .u8 0,.int .u8 0,.int .u8 0,.int .u8 0,.int .u8 0,.int .u8 0,.int .u8 0,.int .u8 0,.int .u8 0,.int .u8 0,.int .u8 0,.int .u8 0,.int .u8 0,.int .u8 0,.int .u8 0,.int .u8 0,.int .u8 0,.int .u8 0,.int .u8 0,.int .u8 0,.int .u8 0,.int .u8 0,.int .u8 0,.int .u8 0,.int .u8 0,.int .u8 0,.int .u8 0,.int .u8 0,.int .u8 0,.int .u8 0,.int .u8 0,.int .u8 0,.int .u8 0,.int .u8 0,.int .u8 0,.int .u8 0,.int .u8 0,.int .u8 0,.int .u8 0,.int .u8 0,.int .u8 0,.int .u8 0]):Sem Value).run prog w= .ok (.bool true) w:=by
 subst hx hy;have:=ag (x:=0) (y:=0) (x':=0) (y':=0) (by decide) (by decide) (by decide) (by decide) p q w;exact this
theorem o0(hx:x<R)(hy:y<R)(h: ¬(x=0∧y=0))(p q:Operand)(w:World):(do eqGuard .eql 141 p q (PT x y) (.agg #[.int .u8 0,.int .u8 0,.int .u8 0,.int .u8 0,.int .u8 0,.int .u8 0,.int .u8 0,.int .u8 0,.int .u8 0,.int .u8 0,.int .u8 0,.int .u8 0,.int .u8 0,.int .u8 0,.int .u8 0,.int .u8 0,.int .u8 0,.int .u8 0,.int .u8 0,.int .u8 0,.int .u8 0,.int .u8 0,.int .u8 0,.int .u8 0,.int .u8 0,.int .u8 0,.int .u8 0,.int .u8 0,.int .u8 0,.int .u8 0,.int .u8 0,.int .u8 0,.int .u8 0,.int .u8 0,.int .u8 0,.int .u8 0,.int .u8 0,.int .u8 0,.int .u8 0,.int .u8 0,.int .u8 0,.int .u8 0,.int .u8 0,.int .u8 0,.int .u8 0,.int .u8 0,.int .u8 0,.int .u8 0,.int .u8 0,.int .u8 0,.int .u8 0,.int .u8 0,.int .u8 0,.int .u8 0,.int .u8 0,.int .u8 0,.int .u8 0,.int .u8 0,.int .u8 0,.int .u8 0,.int .u8 0,.int .u8 0,.int .u8 0,.int .u8 0]);binOp .eql 141 (PT x y) (.agg #[.int .u8 0,.int .u8 0,.int .u8 0,.int .u8 0,.int .u8 0,.int .u8 0,.int .u8 0,.int .u8 0,.int .u8 0,.int .u8 0,.int .u8 0,.int .u8 0,.int .u8 0,.int .u8 0,.int .u8 0,.int .u8 0,.int .u8 0,.int .u8 0,.int .u8 0,.int .u8 0,.int .u8 0,.int .u8 0,.int .u8 0,.int .u8 0,.int .u8 0,.int .u8 0,.int .u8 0,.int .u8 0,.int .u8 0,.int .u8 0,.int .u8 0,.int .u8 0,.int .u8 0,.int .u8 0,.int .u8 0,.int .u8 0,.int .u8 0,.int .u8 0,.int .u8 0,.int .u8 0,.int .u8 0,.int .u8 0,.int .u8 0,.int .u8 0,.int .u8 0,.int .u8 0,.int .u8 0,.int .u8 0,.int .u8 0,.int .u8 0,.int .u8 0,.int .u8 0,.int .u8 0,.int .u8 0,.int .u8 0,.int .u8 0,.int .u8 0,.int .u8 0,.int .u8 0,.int .u8 0,.int .u8 0,.int .u8 0,.int .u8 0,.int .u8 0]):Sem Value).run prog w= .ok (.bool false) w:=by
 have:=ag (x':=0) (y':=0) hx hy (by decide) (by decide) p q w;rw[decide_eq_false h]at this;exact this
theorem cB(hk:k<256)(w:World):Calls prog 136 #[N n,.int .i64 (((k+1:Nat):Int)-1)] w fun e w'=>e= .returned (.int .i64 (n/2^k %2:Nat))∧Gw w w':=by
 rw[show((k+1:Nat):Int)-1=(k:Int) by omega];exact rA n k hk w
theorem mK{t r:Jp}(hk:k<256)(hb:n/2^k %2=1)(hr:r=TollEc.ladder n t (256-(k+1))):D5 (Df r) t=TollEc.ladder n t (256-k):=by
 rw[hr,show 256-k=(256-(k+1))+1 by omega];show _=(if n/2^(255-(256-(k+1))) %2=1 then _ else _)
 rw[show 255-(256-(k+1))=k by omega,if_pos hb]
theorem mL{t r:Jp}(hk:k<256)(hb: ¬n/2^k %2=1)(hr:r=TollEc.ladder n t (256-(k+1))):Df r=TollEc.ladder n t (256-k):=by
 rw[hr,show 256-k=(256-(k+1))+1 by omega];show _=(if n/2^(255-(256-(k+1))) %2=1 then _ else _)
 rw[show 255-(256-(k+1))=k by omega,if_neg hb]
theorem ss(hx:x<R)(hy:y<R)(hx':x'<R)(hy':y'<R)(w:World)(hL:Laid w):Calls prog 84 #[PT x y,PT x' y'] w fun e w'=>e= .returned (PV (D5 (Gr x y) (Gr x' y')).rep)∧Gw w w':=by
 go_enter func84,ntmps84
 refine Dn ?_
 refine J3 ?_
 refine AV (by exact QE rfl rfl gg rfl (eo func122) (Ck pp) 199 (fun w' hw'=>Sk w' (hL.gw hw'))) ?_;refine AV (by exact BZ rfl rfl gg zeroValue192) ?_;refine AV (by exact Tq rfl gg rfl rfl rfl sizeOf192 (by simp)) ?_;iterate 3 refine t_k ?_
 iterate 3 refine Is ?_
 refine Ls ?_;refine AV (by exact Aj [6] rfl gg rfl (eo func134) (fun ρ w' hs=>S5 hx hy w' (Ha hs (by simp) rfl) (hL.gw hs.1))) ?_;refine Is ?_;refine Ls ?_;refine AV (by exact Aj [6] rfl gg rfl (eo func134) (fun ρ w' hs=>S5 hx' hy' w' (Ha hs (by simp) rfl) (hL.gw hs.1))) ?_;refine AV (by exact Aj [6] rfl gg rfl (eo func133) (fun ρ w' hs=>cZ _ _ w' (Ha hs (by simp) rfl))) ?_;refine AV (by exact Aj [6] rfl gg rfl (eo func132) (fun ρ w' hs=>al _ w' (Ha hs (by simp) rfl))) ?_;refine Lq ?_;refine Dx ?_;refine AD (AH results84 (Ac rfl rfl underlying141 rfl sizeOf141 rfl rfl)) ?_;intro w' hg;exact⟨rfl,hg⟩
theorem sF(hn:n<R)(hx:x<R)(hy:y<R)(w:World)(hL:Laid w):Calls prog 85 #[B32 n,PT x y] w fun e w'=>e= .returned (PV (TollEc.ladder n (Gr x y) 256).rep)∧Gw w w':=by
 go_enter func85,ntmps85
 refine Dn ?_
 refine J3 ?_
 refine AV (by exact QE rfl rfl gg rfl (eo func122) (Ck pp) 199 (fun w' hw'=>Sk w' (hL.gw hw'))) ?_;refine AV (by exact BZ rfl rfl gg zeroValue192) ?_;refine AV (by exact Tq rfl gg rfl rfl rfl sizeOf192 (by simp)) ?_;iterate 3 refine t_k ?_
 refine HE ?_;refine AV (by exact AM rfl gg rfl (eo func82) (fun w' hw'=>ofN n hn w')) ?_;refine Is ?_;refine Ls ?_;refine AV (by exact Aj [10] rfl gg rfl (eo func134) (fun ρ w' hs=>S5 hx hy w' (Ha hs (by simp) rfl) (hL.gw hs.1))) ?_;refine CV ?_;refine OT ?_;refine Ho ?_;refine Lt ?_;iterate 3 refine t_k ?_
 refine OT ?_;iterate 7 refine BJ ?_
 obtain⟨t,ht⟩: ∃t,t=Gr x y:=⟨_,rfl⟩
 rw[←ht];refine Ii (fun i s=> ∃(r:Jp),i≤256∧r=TollEc.ladder n t (256-i)∧s.fr=[.v (B32 n),.v (PT x y),.p 2 0,.p 3 0,.p 4 0,.p 5 0,.p 6 0,.p 7 0,.p 8 0,.v (.int .i64 ((i:Int)-1)),.ap 10 0,s.fr.getD 11 default,s.fr.getD 12 default,s.fr.getD 13 default,s.fr.getD 14 default,s.fr.getD 15 default,s.fr.getD 16 default,s.fr.getD 17 default,s.fr.getD 18 default,s.fr.getD 19 default,s.fr.getD 20 default,s.fr.getD 21 default,s.fr.getD 22 default,s.fr.getD 23 default,s.fr.getD 24 default,s.fr.getD 25 default,s.fr.getD 26 default,s.fr.getD 27 default,s.fr.getD 28 default,s.fr.getD 29 default,s.fr.getD 30 default,s.fr.getD 31 default,s.fr.getD 32 default,s.fr.getD 33 default]∧s.mem=AJ [(8,([.v (.int .u64 (lv r.x 0:Nat)),.v (.int .u64 (lv r.x 1:Nat)),.v (.int .u64 (lv r.x 2:Nat)),.v (.int .u64 (lv r.x 3:Nat)),.v (.int .u64 (lv r.y 0:Nat)),.v (.int .u64 (lv r.y 1:Nat)),.v (.int .u64 (lv r.y 2:Nat)),.v (.int .u64 (lv r.y 3:Nat)),.v (.int .u64 (lv r.z 0:Nat)),.v (.int .u64 (lv r.z 1:Nat)),.v (.int .u64 (lv r.z 2:Nat)),.v (.int .u64 (lv r.z 3:Nat))],205)),(7,([.v (.int .u64 (lv t.x 0:Nat)),.v (.int .u64 (lv t.x 1:Nat)),.v (.int .u64 (lv t.x 2:Nat)),.v (.int .u64 (lv t.x 3:Nat)),.v (.int .u64 (lv t.y 0:Nat)),.v (.int .u64 (lv t.y 1:Nat)),.v (.int .u64 (lv t.y 2:Nat)),.v (.int .u64 (lv t.y 3:Nat)),.v (.int .u64 (lv t.z 0:Nat)),.v (.int .u64 (lv t.z 1:Nat)),.v (.int .u64 (lv t.z 2:Nat)),.v (.int .u64 (lv t.z 3:Nat))],205)),(6,([.v (.int .u64 (lim n 0:Nat)),.v (.int .u64 (lim n 1:Nat)),.v (.int .u64 (lim n 2:Nat)),.v (.int .u64 (lim n 3:Nat))],147)),(5,([.p 10 0],192)),(10,((Ck pp).map SV.v,199)),(4,([.v (.int .u8 0),.v (.int .u8 0),.v (.int .u8 0),.v (.int .u8 0),.v (.int .u8 0),.v (.int .u8 0),.v (.int .u8 0),.v (.int .u8 0),.v (.int .u8 0),.v (.int .u8 0),.v (.int .u8 0),.v (.int .u8 0),.v (.int .u8 0),.v (.int .u8 0),.v (.int .u8 0),.v (.int .u8 0),.v (.int .u8 0),.v (.int .u8 0),.v (.int .u8 0),.v (.int .u8 0),.v (.int .u8 0),.v (.int .u8 0),.v (.int .u8 0),.v (.int .u8 0),.v (.int .u8 0),.v (.int .u8 0),.v (.int .u8 0),.v (.int .u8 0),.v (.int .u8 0),.v (.int .u8 0),.v (.int .u8 0),.v (.int .u8 0),.v (.int .u8 0),.v (.int .u8 0),.v (.int .u8 0),.v (.int .u8 0),.v (.int .u8 0),.v (.int .u8 0),.v (.int .u8 0),.v (.int .u8 0),.v (.int .u8 0),.v (.int .u8 0),.v (.int .u8 0),.v (.int .u8 0),.v (.int .u8 0),.v (.int .u8 0),.v (.int .u8 0),.v (.int .u8 0),.v (.int .u8 0),.v (.int .u8 0),.v (.int .u8 0),.v (.int .u8 0),.v (.int .u8 0),.v (.int .u8 0),.v (.int .u8 0),.v (.int .u8 0),.v (.int .u8 0),.v (.int .u8 0),.v (.int .u8 0),.v (.int .u8 0),.v (.int .u8 0),.v (.int .u8 0),.v (.int .u8 0),.v (.int .u8 0)],141)),(3,([.v (.int .u8 (byt x 0:Nat)),.v (.int .u8 (byt x 1:Nat)),.v (.int .u8 (byt x 2:Nat)),.v (.int .u8 (byt x 3:Nat)),.v (.int .u8 (byt x 4:Nat)),.v (.int .u8 (byt x 5:Nat)),.v (.int .u8 (byt x 6:Nat)),.v (.int .u8 (byt x 7:Nat)),.v (.int .u8 (byt x 8:Nat)),.v (.int .u8 (byt x 9:Nat)),.v (.int .u8 (byt x 10:Nat)),.v (.int .u8 (byt x 11:Nat)),.v (.int .u8 (byt x 12:Nat)),.v (.int .u8 (byt x 13:Nat)),.v (.int .u8 (byt x 14:Nat)),.v (.int .u8 (byt x 15:Nat)),.v (.int .u8 (byt x 16:Nat)),.v (.int .u8 (byt x 17:Nat)),.v (.int .u8 (byt x 18:Nat)),.v (.int .u8 (byt x 19:Nat)),.v (.int .u8 (byt x 20:Nat)),.v (.int .u8 (byt x 21:Nat)),.v (.int .u8 (byt x 22:Nat)),.v (.int .u8 (byt x 23:Nat)),.v (.int .u8 (byt x 24:Nat)),.v (.int .u8 (byt x 25:Nat)),.v (.int .u8 (byt x 26:Nat)),.v (.int .u8 (byt x 27:Nat)),.v (.int .u8 (byt x 28:Nat)),.v (.int .u8 (byt x 29:Nat)),.v (.int .u8 (byt x 30:Nat)),.v (.int .u8 (byt x 31:Nat)),.v (.int .u8 (byt y 0:Nat)),.v (.int .u8 (byt y 1:Nat)),.v (.int .u8 (byt y 2:Nat)),.v (.int .u8 (byt y 3:Nat)),.v (.int .u8 (byt y 4:Nat)),.v (.int .u8 (byt y 5:Nat)),.v (.int .u8 (byt y 6:Nat)),.v (.int .u8 (byt y 7:Nat)),.v (.int .u8 (byt y 8:Nat)),.v (.int .u8 (byt y 9:Nat)),.v (.int .u8 (byt y 10:Nat)),.v (.int .u8 (byt y 11:Nat)),.v (.int .u8 (byt y 12:Nat)),.v (.int .u8 (byt y 13:Nat)),.v (.int .u8 (byt y 14:Nat)),.v (.int .u8 (byt y 15:Nat)),.v (.int .u8 (byt y 16:Nat)),.v (.int .u8 (byt y 17:Nat)),.v (.int .u8 (byt y 18:Nat)),.v (.int .u8 (byt y 19:Nat)),.v (.int .u8 (byt y 20:Nat)),.v (.int .u8 (byt y 21:Nat)),.v (.int .u8 (byt y 22:Nat)),.v (.int .u8 (byt y 23:Nat)),.v (.int .u8 (byt y 24:Nat)),.v (.int .u8 (byt y 25:Nat)),.v (.int .u8 (byt y 26:Nat)),.v (.int .u8 (byt y 27:Nat)),.v (.int .u8 (byt y 28:Nat)),.v (.int .u8 (byt y 29:Nat)),.v (.int .u8 (byt y 30:Nat)),.v (.int .u8 (byt y 31:Nat))],141)),(2,([.v (.int .u8 (byt n 0:Nat)),.v (.int .u8 (byt n 1:Nat)),.v (.int .u8 (byt n 2:Nat)),.v (.int .u8 (byt n 3:Nat)),.v (.int .u8 (byt n 4:Nat)),.v (.int .u8 (byt n 5:Nat)),.v (.int .u8 (byt n 6:Nat)),.v (.int .u8 (byt n 7:Nat)),.v (.int .u8 (byt n 8:Nat)),.v (.int .u8 (byt n 9:Nat)),.v (.int .u8 (byt n 10:Nat)),.v (.int .u8 (byt n 11:Nat)),.v (.int .u8 (byt n 12:Nat)),.v (.int .u8 (byt n 13:Nat)),.v (.int .u8 (byt n 14:Nat)),.v (.int .u8 (byt n 15:Nat)),.v (.int .u8 (byt n 16:Nat)),.v (.int .u8 (byt n 17:Nat)),.v (.int .u8 (byt n 18:Nat)),.v (.int .u8 (byt n 19:Nat)),.v (.int .u8 (byt n 20:Nat)),.v (.int .u8 (byt n 21:Nat)),.v (.int .u8 (byt n 22:Nat)),.v (.int .u8 (byt n 23:Nat)),.v (.int .u8 (byt n 24:Nat)),.v (.int .u8 (byt n 25:Nat)),.v (.int .u8 (byt n 26:Nat)),.v (.int .u8 (byt n 27:Nat)),.v (.int .u8 (byt n 28:Nat)),.v (.int .u8 (byt n 29:Nat)),.v (.int .u8 (byt n 30:Nat)),.v (.int .u8 (byt n 31:Nat))],64))]) ?_ 256 ?_;rotate_left
 ·exact⟨⟨0,0,0⟩,Nat.le_refl _,rfl,rfl,rfl⟩
 rintro i ⟨fr,mm⟩ ⟨r,hi,hr,hfr,hmm⟩;obtain⟨f,hf⟩: ∃f:Nat→SV,fr=[.v (B32 n),.v (PT x y),.p 2 0,.p 3 0,.p 4 0,.p 5 0,.p 6 0,.p 7 0,.p 8 0,.v (.int .i64 ((i:Int)-1)),.ap 10 0,f 11,f 12,f 13,f 14,f 15,f 16,f 17,f 18,f 19,f 20,f 21,f 22,f 23,f 24,f 25,f 26,f 27,f 28,f 29,f 30,f 31,f 32,f 33]:=⟨fun i=>fr.getD i default,hfr⟩
 clear hfr;simp only at hmm;subst hf hmm;cases i with
 |succ k=>
  have hk:k<256:=by omega
  have hdn:IntKind.i64.wrap (((k+1:Nat):Int)-1-1)=(k:Int)-1:=by rw[Ah (by omega) (by omega)];omega
  have hge:decide ((0:Int)≤((k+1:Nat):Int)-1)=true:=decide_eq_true (by omega);by_cases hb:n/2^k %2=1
  ·have he:decide (((n/2^k %2:Nat):Int)=1)=true:=decide_eq_true (by omega)
   iterate 4 refine BJ ?_
   refine AV (by exact B4 (p:=true) rfl gg rfl rfl hge) ?_;iterate 7 refine t_k ?_
   refine Is ?_;refine It ?_;refine AV (by exact Aj [10] rfl gg rfl (eo func135) (fun ρ w' hs=>T6 _ w' (Ha hs (by simp) rfl))) ?_;refine Lt ?_;iterate 3 refine t_k ?_
   refine t_0 ?_;refine BJ ?_;refine AV (by exact AM rfl gg rfl (eo func136) (fun w' hw'=>cB hk w')) ?_;refine AV (by exact Ag (p:=true) rfl gg rfl rfl he) ?_;iterate 3 refine t_k ?_
   refine Is ?_;iterate 2 refine It ?_
   refine AV (by exact Aj [10] rfl gg rfl (eo func133) (fun ρ w' hs=>cZ _ _ w' (Ha hs (by simp) rfl))) ?_;refine Lt ?_;iterate 3 refine BJ ?_
   refine AV (by exact Bu rfl gg rfl rfl hdn) ?_;iterate 2 refine BJ ?_
   exact⟨k,by omega,_,by omega,mK hk hb hr,rfl,rfl⟩
  ·have he:decide (((n/2^k %2:Nat):Int)=1)=false:=decide_eq_false (by omega)
   iterate 4 refine BJ ?_
   refine AV (by exact B4 (p:=true) rfl gg rfl rfl hge) ?_;iterate 7 refine t_k ?_
   refine Is ?_;refine It ?_;refine AV (by exact Aj [10] rfl gg rfl (eo func135) (fun ρ w' hs=>T6 _ w' (Ha hs (by simp) rfl))) ?_;refine Lt ?_;iterate 3 refine t_k ?_
   refine t_0 ?_;refine BJ ?_;refine AV (by exact AM rfl gg rfl (eo func136) (fun w' hw'=>cB hk w')) ?_;refine AV (by exact Ag (p:=false) rfl gg rfl rfl he) ?_;iterate 5 refine BJ ?_
   refine AV (by exact Bu rfl gg rfl rfl hdn) ?_;iterate 2 refine BJ ?_
   exact⟨k,by omega,_,by omega,mL hk hb hr,rfl,rfl⟩
 |zero=>
  iterate 4 refine BJ ?_
  refine AV (by exact B4 (p:=false) rfl gg rfl rfl (by decide)) ?_;iterate 2 refine t_k ?_
  refine As ?_;change VOk _ _ _ _ _;refine Bv ?_
  refine Is ?_;refine It ?_;refine AV (by exact Aj [10] rfl gg rfl (eo func132) (fun ρ w' hs=>al _ w' (Ha hs (by simp) rfl))) ?_;refine Lq ?_;refine Dx ?_;refine AD (AH results85 (Ac rfl rfl underlying141 rfl sizeOf141 rfl rfl)) ?_;intro w' hg;exact⟨by rw[hr,ht];exact rfl,hg⟩
end Go.Proofs.YtafbhakmkbehiaaGreatDoor
