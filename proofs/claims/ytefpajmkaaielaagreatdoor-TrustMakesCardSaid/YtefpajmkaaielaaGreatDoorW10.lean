import Derived.Test.YtefpajmkaaielaaGreatDoorW8
open Go.Proofs.Tryz
set_option maxHeartbeats 4000000
set_option maxRecDepth 100000
namespace Go.Proofs.YtefpajmkaaielaaGreatDoor
open Go.RowKit Go.Toll
variable(w:World){rd:List Nat}{b k n x x' y y':Nat}{ρ:Nat→Nat}
section
abbrev Gz:Value:= .agg #[.int .u8 0,.int .u8 0,.int .u8 0,.int .u8 0,.int .u8 0,.int .u8 0,.int .u8 0,.int .u8 0,.int .u8 0,.int .u8 0,.int .u8 0,.int .u8 0,.int .u8 0,.int .u8 0,.int .u8 0,.int .u8 0,.int .u8 0,.int .u8 0,.int .u8 0,.int .u8 0,.int .u8 0,.int .u8 0,.int .u8 0,.int .u8 0,.int .u8 0,.int .u8 0,.int .u8 0,.int .u8 0,.int .u8 0,.int .u8 0,.int .u8 0,.int .u8 0,.int .u8 0,.int .u8 0,.int .u8 0,.int .u8 0,.int .u8 0,.int .u8 0,.int .u8 0,.int .u8 0,.int .u8 0,.int .u8 0,.int .u8 0,.int .u8 0,.int .u8 0,.int .u8 0,.int .u8 0,.int .u8 0,.int .u8 0,.int .u8 0,.int .u8 0,.int .u8 0,.int .u8 0,.int .u8 0,.int .u8 0,.int .u8 0,.int .u8 0,.int .u8 0,.int .u8 0,.int .u8 0,.int .u8 0,.int .u8 0,.int .u8 0,.int .u8 0]
open Go.RowKit Go.Toll TollMont
open TollEc (F pp cb Jp Pt)
def lv(x:F)(i:Nat):Nat:=lim x.val i
def NF(x:F):Value:= .agg #[.int .u64 (lv x 0:Nat),.int .u64 (lv x 1:Nat),.int .u64 (lv x 2:Nat),.int .u64 (lv x 3:Nat)]
def TF(j:Jp):Value:= .agg #[.int .u64 (lv j.x 0:Nat),.int .u64 (lv j.x 1:Nat),.int .u64 (lv j.x 2:Nat),.int .u64 (lv j.x 3:Nat),.int .u64 (lv j.y 0:Nat),.int .u64 (lv j.y 1:Nat),.int .u64 (lv j.y 2:Nat),.int .u64 (lv j.y 3:Nat),.int .u64 (lv j.z 0:Nat),.int .u64 (lv j.z 1:Nat),.int .u64 (lv j.z 2:Nat),.int .u64 (lv j.z 3:Nat)]
def byt(n i:Nat):Nat:=lim n (3-i/8)/2^(56-8*(i %8)) %256
def B32(n:Nat):Value:= .agg #[.int .u8 (byt n 0:Nat),.int .u8 (byt n 1:Nat),.int .u8 (byt n 2:Nat),.int .u8 (byt n 3:Nat),.int .u8 (byt n 4:Nat),.int .u8 (byt n 5:Nat),.int .u8 (byt n 6:Nat),.int .u8 (byt n 7:Nat),.int .u8 (byt n 8:Nat),.int .u8 (byt n 9:Nat),.int .u8 (byt n 10:Nat),.int .u8 (byt n 11:Nat),.int .u8 (byt n 12:Nat),.int .u8 (byt n 13:Nat),.int .u8 (byt n 14:Nat),.int .u8 (byt n 15:Nat),.int .u8 (byt n 16:Nat),.int .u8 (byt n 17:Nat),.int .u8 (byt n 18:Nat),.int .u8 (byt n 19:Nat),.int .u8 (byt n 20:Nat),.int .u8 (byt n 21:Nat),.int .u8 (byt n 22:Nat),.int .u8 (byt n 23:Nat),.int .u8 (byt n 24:Nat),.int .u8 (byt n 25:Nat),.int .u8 (byt n 26:Nat),.int .u8 (byt n 27:Nat),.int .u8 (byt n 28:Nat),.int .u8 (byt n 29:Nat),.int .u8 (byt n 30:Nat),.int .u8 (byt n 31:Nat)]
def PT(x y:Nat):Value:= .agg #[.int .u8 (byt x 0:Nat),.int .u8 (byt x 1:Nat),.int .u8 (byt x 2:Nat),.int .u8 (byt x 3:Nat),.int .u8 (byt x 4:Nat),.int .u8 (byt x 5:Nat),.int .u8 (byt x 6:Nat),.int .u8 (byt x 7:Nat),.int .u8 (byt x 8:Nat),.int .u8 (byt x 9:Nat),.int .u8 (byt x 10:Nat),.int .u8 (byt x 11:Nat),.int .u8 (byt x 12:Nat),.int .u8 (byt x 13:Nat),.int .u8 (byt x 14:Nat),.int .u8 (byt x 15:Nat),.int .u8 (byt x 16:Nat),.int .u8 (byt x 17:Nat),.int .u8 (byt x 18:Nat),.int .u8 (byt x 19:Nat),.int .u8 (byt x 20:Nat),.int .u8 (byt x 21:Nat),.int .u8 (byt x 22:Nat),.int .u8 (byt x 23:Nat),.int .u8 (byt x 24:Nat),.int .u8 (byt x 25:Nat),.int .u8 (byt x 26:Nat),.int .u8 (byt x 27:Nat),.int .u8 (byt x 28:Nat),.int .u8 (byt x 29:Nat),.int .u8 (byt x 30:Nat),.int .u8 (byt x 31:Nat),.int .u8 (byt y 0:Nat),.int .u8 (byt y 1:Nat),.int .u8 (byt y 2:Nat),.int .u8 (byt y 3:Nat),.int .u8 (byt y 4:Nat),.int .u8 (byt y 5:Nat),.int .u8 (byt y 6:Nat),.int .u8 (byt y 7:Nat),.int .u8 (byt y 8:Nat),.int .u8 (byt y 9:Nat),.int .u8 (byt y 10:Nat),.int .u8 (byt y 11:Nat),.int .u8 (byt y 12:Nat),.int .u8 (byt y 13:Nat),.int .u8 (byt y 14:Nat),.int .u8 (byt y 15:Nat),.int .u8 (byt y 16:Nat),.int .u8 (byt y 17:Nat),.int .u8 (byt y 18:Nat),.int .u8 (byt y 19:Nat),.int .u8 (byt y 20:Nat),.int .u8 (byt y 21:Nat),.int .u8 (byt y 22:Nat),.int .u8 (byt y 23:Nat),.int .u8 (byt y 24:Nat),.int .u8 (byt y 25:Nat),.int .u8 (byt y 26:Nat),.int .u8 (byt y 27:Nat),.int .u8 (byt y 28:Nat),.int .u8 (byt y 29:Nat),.int .u8 (byt y 30:Nat),.int .u8 (byt y 31:Nat)]
def FV(b:Nat):Value:= .agg #[.pointer (some ⟨b,0,none⟩)]
theorem nNF(x:F):Value.cells (NF x)= #[.int .u64 (lv x 0:Nat),.int .u64 (lv x 1:Nat),.int .u64 (lv x 2:Nat),.int .u64 (lv x 3:Nat)]:=rfl
theorem nTF(j:Jp):Value.cells (TF j)= #[.int .u64 (lv j.x 0:Nat),.int .u64 (lv j.x 1:Nat),.int .u64 (lv j.x 2:Nat),.int .u64 (lv j.x 3:Nat),.int .u64 (lv j.y 0:Nat),.int .u64 (lv j.y 1:Nat),.int .u64 (lv j.y 2:Nat),.int .u64 (lv j.y 3:Nat),.int .u64 (lv j.z 0:Nat),.int .u64 (lv j.z 1:Nat),.int .u64 (lv j.z 2:Nat),.int .u64 (lv j.z 3:Nat)]:=rfl
theorem MZ(n:Nat):Value.cells (B32 n)= #[.int .u8 (byt n 0:Nat),.int .u8 (byt n 1:Nat),.int .u8 (byt n 2:Nat),.int .u8 (byt n 3:Nat),.int .u8 (byt n 4:Nat),.int .u8 (byt n 5:Nat),.int .u8 (byt n 6:Nat),.int .u8 (byt n 7:Nat),.int .u8 (byt n 8:Nat),.int .u8 (byt n 9:Nat),.int .u8 (byt n 10:Nat),.int .u8 (byt n 11:Nat),.int .u8 (byt n 12:Nat),.int .u8 (byt n 13:Nat),.int .u8 (byt n 14:Nat),.int .u8 (byt n 15:Nat),.int .u8 (byt n 16:Nat),.int .u8 (byt n 17:Nat),.int .u8 (byt n 18:Nat),.int .u8 (byt n 19:Nat),.int .u8 (byt n 20:Nat),.int .u8 (byt n 21:Nat),.int .u8 (byt n 22:Nat),.int .u8 (byt n 23:Nat),.int .u8 (byt n 24:Nat),.int .u8 (byt n 25:Nat),.int .u8 (byt n 26:Nat),.int .u8 (byt n 27:Nat),.int .u8 (byt n 28:Nat),.int .u8 (byt n 29:Nat),.int .u8 (byt n 30:Nat),.int .u8 (byt n 31:Nat)]:=rfl
theorem nPT(x y:Nat):Value.cells (PT x y)= #[.int .u8 (byt x 0:Nat),.int .u8 (byt x 1:Nat),.int .u8 (byt x 2:Nat),.int .u8 (byt x 3:Nat),.int .u8 (byt x 4:Nat),.int .u8 (byt x 5:Nat),.int .u8 (byt x 6:Nat),.int .u8 (byt x 7:Nat),.int .u8 (byt x 8:Nat),.int .u8 (byt x 9:Nat),.int .u8 (byt x 10:Nat),.int .u8 (byt x 11:Nat),.int .u8 (byt x 12:Nat),.int .u8 (byt x 13:Nat),.int .u8 (byt x 14:Nat),.int .u8 (byt x 15:Nat),.int .u8 (byt x 16:Nat),.int .u8 (byt x 17:Nat),.int .u8 (byt x 18:Nat),.int .u8 (byt x 19:Nat),.int .u8 (byt x 20:Nat),.int .u8 (byt x 21:Nat),.int .u8 (byt x 22:Nat),.int .u8 (byt x 23:Nat),.int .u8 (byt x 24:Nat),.int .u8 (byt x 25:Nat),.int .u8 (byt x 26:Nat),.int .u8 (byt x 27:Nat),.int .u8 (byt x 28:Nat),.int .u8 (byt x 29:Nat),.int .u8 (byt x 30:Nat),.int .u8 (byt x 31:Nat),.int .u8 (byt y 0:Nat),.int .u8 (byt y 1:Nat),.int .u8 (byt y 2:Nat),.int .u8 (byt y 3:Nat),.int .u8 (byt y 4:Nat),.int .u8 (byt y 5:Nat),.int .u8 (byt y 6:Nat),.int .u8 (byt y 7:Nat),.int .u8 (byt y 8:Nat),.int .u8 (byt y 9:Nat),.int .u8 (byt y 10:Nat),.int .u8 (byt y 11:Nat),.int .u8 (byt y 12:Nat),.int .u8 (byt y 13:Nat),.int .u8 (byt y 14:Nat),.int .u8 (byt y 15:Nat),.int .u8 (byt y 16:Nat),.int .u8 (byt y 17:Nat),.int .u8 (byt y 18:Nat),.int .u8 (byt y 19:Nat),.int .u8 (byt y 20:Nat),.int .u8 (byt y 21:Nat),.int .u8 (byt y 22:Nat),.int .u8 (byt y 23:Nat),.int .u8 (byt y 24:Nat),.int .u8 (byt y 25:Nat),.int .u8 (byt y 26:Nat),.int .u8 (byt y 27:Nat),.int .u8 (byt y 28:Nat),.int .u8 (byt y 29:Nat),.int .u8 (byt y 30:Nat),.int .u8 (byt y 31:Nat)]:=rfl
theorem nFV(b:Nat):Value.cells (FV b)= #[.pointer (some ⟨b,0,none⟩)]:=rfl
theorem nN(n:Nat):Value.cells (N n)= #[.int .u64 (lim n 0:Nat),.int .u64 (lim n 1:Nat),.int .u64 (lim n 2:Nat),.int .u64 (lim n 3:Nat)]:=rfl
theorem nm2:type_of%nm∧type_of%nNF∧type_of%nTF∧type_of%MZ∧type_of%nPT∧type_of%nFV∧type_of%nN:=⟨nm,nNF,nTF,MZ,nPT,nFV,nN⟩
theorem mdp:Md pp:=⟨by decide,by decide,by decide⟩
theorem C4(x:F):x.val<R:=Nat.lt_trans x.isLt (by decide)
variable{b:Nat}
theorem Uh(x y:F)(w:World)(ha:At w b pp):CGy 43 #[ptr b,NF x,NF y] w (NF (x*y)):=
 Uf mdp (C4 x) (C4 y) w ha
theorem Re(x y:F)(w:World)(ha:At w b pp):CGy 44 #[ptr b,NF x,NF y] w (NF (x+y)):=
 Uz mdp (C4 x) (C4 y) w ha
theorem bQ(x y:F):(x-y).val=DJ pp x.val y.val:=by
 have hx:=x.isLt;have hy:=y.isLt;rw[Fin.sub_def];unfold DJ;rw[Nat.mod_eq_of_lt hx,Nat.mod_eq_of_lt hy];show(pp-y.val+x.val) %pp=_;congr 1;omega
theorem Sy(x y:F)(w:World)(ha:At w b pp):CGy 76 #[ptr b,NF x,NF y] w (NF (x-y)):=by
 have:=Pk mdp (C4 x) (C4 y) w ha;rw[←bQ]at this;exact this
theorem VV(n:Nat)(hn:n<R)(w:World):CGy 58 #[N n,N pp] w (.bool (decide (n<pp))):=
 P3 n pp hn (by decide) w
theorem zeq(x:F):BOy .eql 96 (NF x) (.agg #[.int .u64 0,.int .u64 0,.int .u64 0,.int .u64 0]) (.bool (decide (x=0))):=by
 intro p q w
 have:=NU 96 (.inl rfl) (lv x 0) (lv x 1) (lv x 2) (lv x 3) 0 0 0 0 p q w;have e:decide (lv x 0=0∧lv x 1=0∧lv x 2=0∧lv x 3=0)=decide (x=0):=decide_eq_decide.2 ((Wi (C4 x)).trans ⟨fun h=>Fin.ext h,fun h=>by rw[h];rfl⟩);rw[e]at this;exact this
theorem Gx{x:F}(h:x=0):BOy .eql 96 (NF x) (.agg #[.int .u64 0,.int .u64 0,.int .u64 0,.int .u64 0]) (.bool true):=by
 intro p q w
 have:=zeq x p q w;rw[decide_eq_true h]at this;exact this
theorem Gy{x:F}(h:x≠0):BOy .eql 96 (NF x) (.agg #[.int .u64 0,.int .u64 0,.int .u64 0,.int .u64 0]) (.bool false):=by
 intro p q w
 have:=zeq x p q w;rw[decide_eq_false h]at this;exact this
theorem eqF(x y:F):BOy .eql 96 (NF x) (NF y) (.bool (decide (x=y))):=by
 intro p q w
 have:=NU 96 (.inl rfl) (lv x 0) (lv x 1) (lv x 2) (lv x 3) (lv y 0) (lv y 1) (lv y 2) (lv y 3) p q w;have e:decide (lv x 0=lv y 0∧lv x 1=lv y 1∧lv x 2=lv y 2∧lv x 3=lv y 3)=decide (x=y):=decide_eq_decide.2 ⟨fun⟨a,b,c,d⟩=>Fin.ext (Ip (C4 x) (C4 y) a b c d),fun h=>by rw[h];exact⟨rfl,rfl,rfl,rfl⟩⟩;rw[e]at this;exact this
theorem mc{x i:F}(h:x*i=1)(w:World)(ha:At w b pp):CGy 42 #[ptr b,NF x] w (.tuple #[NF i,.int .i64 0]):=by
 have hv:i.val*x.val %pp=1:=by rw[Nat.mul_comm];exact congrArg Fin.val h
 have:=QZ mdp (C4 x) w ha
 rw[if_pos (by
  have h1:Nat.gcd x.val pp∣i.val*x.val %pp:=(Nat.dvd_mod_iff (Nat.gcd_dvd_right _ _)).2 (Nat.dvd_trans (Nat.gcd_dvd_left _ _) ⟨i.val,Nat.mul_comm _ _⟩);rw[hv]at h1;exact Nat.dvd_one.1 h1),Pn i.isLt hv]at this
 exact this
theorem me(w:World)(ha:At w b pp):CGy 42 #[ptr b,NF 0] w (.tuple #[N 0,.int .i64 1]):=by
 have:=QZ mdp (x:=0) (by decide) w ha;rw[if_neg (by decide)]at this;exact this
theorem JS(n:Nat)(w:World):CGy 45 #[N n] w (B32 n):=Np n w
theorem ofN(n:Nat)(hn:n<R)(w:World):CGy 41 #[B32 n] w (N n):=UL n hn w
theorem Nr(x:F)(w:World):CGy 45 #[NF x] w (B32 x.val):=Np x.val w
theorem ofF(x:F)(w:World):CGy 41 #[B32 x.val] w (NF x):=UL x.val (C4 x) w
theorem Yh:prog.built 96 []=some #[.int .u64 0,.int .u64 0,.int .u64 0,.int .u64 0]:=by kernel_rfl
theorem Nt:prog.built 137 []=some #[.int .u64 0,.int .u64 0,.int .u64 0,.int .u64 0,.int .u64 0,.int .u64 0,.int .u64 0,.int .u64 0,.int .u64 0,.int .u64 0,.int .u64 0,.int .u64 0]:=by kernel_rfl
theorem Ht:prog.built 87 []=some #[.int .u8 0,.int .u8 0,.int .u8 0,.int .u8 0,.int .u8 0,.int .u8 0,.int .u8 0,.int .u8 0,.int .u8 0,.int .u8 0,.int .u8 0,.int .u8 0,.int .u8 0,.int .u8 0,.int .u8 0,.int .u8 0,.int .u8 0,.int .u8 0,.int .u8 0,.int .u8 0,.int .u8 0,.int .u8 0,.int .u8 0,.int .u8 0,.int .u8 0,.int .u8 0,.int .u8 0,.int .u8 0,.int .u8 0,.int .u8 0,.int .u8 0,.int .u8 0,.int .u8 0,.int .u8 0,.int .u8 0,.int .u8 0,.int .u8 0,.int .u8 0,.int .u8 0,.int .u8 0,.int .u8 0,.int .u8 0,.int .u8 0,.int .u8 0,.int .u8 0,.int .u8 0,.int .u8 0,.int .u8 0,.int .u8 0,.int .u8 0,.int .u8 0,.int .u8 0,.int .u8 0,.int .u8 0,.int .u8 0,.int .u8 0,.int .u8 0,.int .u8 0,.int .u8 0,.int .u8 0,.int .u8 0,.int .u8 0,.int .u8 0,.int .u8 0]:=by kernel_rfl
theorem RG(x y z:F):prog.built 137 [(0,NF x),(1,NF y),(2,NF z)]=some #[.int .u64 (lv x 0:Nat),.int .u64 (lv x 1:Nat),.int .u64 (lv x 2:Nat),.int .u64 (lv x 3:Nat),.int .u64 (lv y 0:Nat),.int .u64 (lv y 1:Nat),.int .u64 (lv y 2:Nat),.int .u64 (lv y 3:Nat),.int .u64 (lv z 0:Nat),.int .u64 (lv z 1:Nat),.int .u64 (lv z 2:Nat),.int .u64 (lv z 3:Nat)]:=by kernel_rfl
structure Laid(w:World):Prop where
 bx: ∀(j:Nat) (v:Value),(Bt TollEc.bx.val)[j]? =some v→w.cell? ⟨2,0+j,none⟩=some v
 bY: ∀(j:Nat) (v:Value),(Bt TollEc.bY.val)[j]? =some v→w.cell? ⟨3,0+j,none⟩=some v
 nn: ∀(j:Nat) (v:Value),(Bt TollEc.nn)[j]? =some v→w.cell? ⟨1,0+j,none⟩=some v
 pp: ∀(j:Nat) (v:Value),(Bt pp)[j]? =some v→w.cell? ⟨4,0+j,none⟩=some v
 cb: ∀(j:Nat) (v:Value),(Bt cb.val)[j]? =some v→w.cell? ⟨5,0+j,none⟩=some v
theorem Laid.gw{w w':World}(h:Laid w)(g:Gw w w'):Laid w':=
 ⟨fun j v hj=>g.cell (h.bx j v hj),fun j v hj=>g.cell (h.bY j v hj),fun j v hj=>g.cell (h.nn j v hj),fun j v hj=>g.cell (h.pp j v hj),fun j v hj=>g.cell (h.cb j v hj)⟩
end
open TollMont
open TollEc (F pp cb Jp Pt)
theorem aA(x:F)(w:World)(ha:At w b pp):CGy 101 #[FV b,NF x] w (NF (x+x)):=by
 go_enter func101,ntmps101
 refine EY ?_
 refine CU ?_;iterate 3 refine t_k ?_
 refine t_6 ?_;refine t_2 ?_;iterate 2 refine t_0 ?_
 refine Om ?_;refine GF ?_;refine EF ?_;refine AD (AM results101 (Ad rfl rfl underlying96 rfl sizeOf96 rfl rfl)) ?_;intro w' hg;exact⟨rfl,hg⟩
theorem aV(x:F)(w:World)(ha:At w b pp):CGy 100 #[FV b,NF x] w (NF (x+x+x)):=by
 go_enter func100,ntmps100
 refine EY ?_
 refine CU ?_;iterate 3 refine t_k ?_
 refine t_6 ?_;refine t_2 ?_;refine t_6 ?_;refine t_2 ?_;iterate 2 refine t_0 ?_
 refine Om ?_;refine t_0 ?_;refine Om ?_;refine GF ?_;refine EF ?_;refine AD (AM results100 (Ad rfl rfl underlying96 rfl sizeOf96 rfl rfl)) ?_;intro w' hg;exact⟨rfl,hg⟩
theorem pB(p:Jp)(w:World)(_ha:At w b pp)(hz:p.z=0):CGy 62 #[FV b,TF p] w (TF ⟨0,0,0⟩):=by
 go_enter func62,ntmps62
 refine EY ?_
 refine Jj ?_
 refine t_7 ?_;refine t_0 ?_;refine C5 ?_;refine AV (by exact AN rfl gg rfl rfl (fun w=>Gx hz _ _ w)) ?_;refine BC ?_;refine On ?_;refine IP ?_;refine OZ ?_;refine Sd ?_;iterate 5 refine BC ?_
 refine AV (by exact Ar rfl gg rfl (Nt)) ?_;refine E0 ?_;refine AD (AM results62 (Ad rfl rfl underlying137 rfl sizeOf137 rfl rfl)) ?_;intro w' hg;exact⟨rfl,hg⟩
theorem pC(p:Jp)(w:World)(_ha:At w b pp)(hz:p.z≠0)(hy:p.y=0):CGy 62 #[FV b,TF p] w (TF ⟨0,0,0⟩):=by
 go_enter func62,ntmps62
 refine EY ?_
 refine Jj ?_
 refine t_7 ?_;refine t_0 ?_;refine C5 ?_;refine IL ?_;refine BC ?_;refine On ?_;refine IP ?_;refine OZ ?_;refine AV (by first|exact Ev.skip (fun _=>rfl)|exact AN rfl (fun _=>rfl) rfl rfl (fun w=>Gx hy _ _ w)) ?_;iterate 5 refine BC ?_
 refine AV (by exact Ar rfl gg rfl (Nt)) ?_;refine E0 ?_;refine AD (AM results62 (Ad rfl rfl underlying137 rfl sizeOf137 rfl rfl)) ?_;intro w' hg;exact⟨rfl,hg⟩
theorem B3{x y z:F}(h:x*y=z)(w:World)(ha:At w b pp):CGy 43 #[ptr b,NF x,NF y] w (NF z):=h▸Uh x y w ha
theorem uC{x y z:F}(h:x+y=z)(w:World)(ha:At w b pp):CGy 44 #[ptr b,NF x,NF y] w (NF z):=h▸Re x y w ha
theorem E3{x y z:F}(h:x-y=z)(w:World)(ha:At w b pp):CGy 76 #[ptr b,NF x,NF y] w (NF z):=h▸Sy x y w ha
theorem F7{x z:F}(h:x+x=z)(w:World)(ha:At w b pp):CGy 101 #[FV b,NF x] w (NF z):=h▸aA x w ha
theorem aW{x z:F}(h:x+x+x=z)(w:World)(ha:At w b pp):CGy 100 #[FV b,NF x] w (NF z):=h▸aV x w ha
theorem pD(p:Jp)(v29 v36 v42 v51 v57 v58 v59 v63 v64 v71 v74 v75 v83 v84 v85 v86 v97 v98 v100 v106 v109:F)(w:World)(ha:At w b pp)(hz:p.z≠0)(hy:p.y≠0)(e29:p.z*p.z=v29)(e36:p.y*p.y=v36)(e42:p.x*v36=v42)(e51:p.x-v29=v51)(e57:p.x+v29=v57)(e58:v51*v57=v58)(e59:v58+v58+v58=v59)(e63:v42+v42=v63)(e64:v63+v63=v64)(e71:v59*v59=v71)(e74:v64+v64=v74)(e75:v71-v74=v75)(e83:v36*v36=v83)(e84:v83+v83=v84)(e85:v84+v84=v85)(e86:v85+v85=v86)(e97:v64-v75=v97)(e98:v59*v97=v98)(e100:v98-v86=v100)(e106:p.y+p.y=v106)(e109:v106*p.z=v109):CGy 62 #[FV b,TF p] w (TF ⟨v75,v100,v109⟩):=by
 go_enter func62,ntmps62
 refine EY ?_
 refine Jj ?_
 refine t_7 ?_;refine t_0 ?_;refine C5 ?_;refine IL ?_;refine BC ?_;refine On ?_;refine IP ?_;refine OZ ?_;refine AV (by first|exact Ev.skip (fun _=>rfl)|exact AN rfl (fun _=>rfl) rfl rfl (fun w=>Gy hy _ _ w)) ?_;iterate 6 refine BC ?_
 refine t_6 ?_;refine t_2 ?_;refine t_7 ?_;refine t_0 ?_;refine t_7 ?_;refine t_0 ?_;refine AV (by exact AS rfl gg rfl (eo func43) (fun w' hw'=>B3 e29 w' (ha.gw hw'))) ?_;refine t_6 ?_;refine t_2 ?_;refine t_7 ?_;refine t_0 ?_;refine t_7 ?_;refine t_0 ?_;refine AV (by exact AS rfl gg rfl (eo func43) (fun w' hw'=>B3 e36 w' (ha.gw hw'))) ?_;iterate 2 refine CU ?_
 refine Ea ?_;refine t_2 ?_;refine t_7 ?_;iterate 2 refine t_0 ?_
 refine AV (by exact AS rfl gg rfl (eo func43) (fun w' hw'=>B3 e42 w' (ha.gw hw'))) ?_;refine FU ?_
 refine FY ?_;refine t_6 ?_;refine t_2 ?_;refine t_6 ?_;refine t_2 ?_;refine t_7 ?_;iterate 2 refine t_0 ?_
 refine AV (by exact AS rfl gg rfl (eo func76) (fun w' hw'=>E3 e51 w' (ha.gw hw'))) ?_;refine t_6 ?_;refine t_2 ?_;refine t_7 ?_;iterate 2 refine t_0 ?_
 refine AV (by exact AS rfl gg rfl (eo func44) (fun w' hw'=>uC e57 w' (ha.gw hw'))) ?_;refine AV (by exact AS rfl gg rfl (eo func43) (fun w' hw'=>B3 e58 w' (ha.gw hw'))) ?_;refine AV (by exact AS rfl gg rfl (eo func100) (fun w' hw'=>aW e59 w' (ha.gw hw'))) ?_;refine FU ?_
 iterate 2 refine FY ?_
 refine t_0 ?_;refine AV (by exact AS rfl gg rfl (eo func101) (fun w' hw'=>F7 e63 w' (ha.gw hw'))) ?_;refine AV (by exact AS rfl gg rfl (eo func101) (fun w' hw'=>F7 e64 w' (ha.gw hw'))) ?_;refine FU ?_
 refine t_6 ?_;refine t_2 ?_;refine t_6 ?_;refine t_2 ?_;iterate 2 refine t_0 ?_
 refine AV (by exact AS rfl gg rfl (eo func43) (fun w' hw'=>B3 e71 w' (ha.gw hw'))) ?_;refine FY ?_;refine t_0 ?_;refine AV (by exact AS rfl gg rfl (eo func101) (fun w' hw'=>F7 e74 w' (ha.gw hw'))) ?_;refine AV (by exact AS rfl gg rfl (eo func76) (fun w' hw'=>E3 e75 w' (ha.gw hw'))) ?_;refine FU ?_
 iterate 3 refine FY ?_
 refine t_6 ?_;refine t_2 ?_;iterate 2 refine t_0 ?_
 refine AV (by exact AS rfl gg rfl (eo func43) (fun w' hw'=>B3 e83 w' (ha.gw hw'))) ?_;refine AV (by exact AS rfl gg rfl (eo func101) (fun w' hw'=>F7 e84 w' (ha.gw hw'))) ?_;refine AV (by exact AS rfl gg rfl (eo func101) (fun w' hw'=>F7 e85 w' (ha.gw hw'))) ?_;refine AV (by exact AS rfl gg rfl (eo func101) (fun w' hw'=>F7 e86 w' (ha.gw hw'))) ?_;refine FU ?_
 refine t_0 ?_;refine t_6 ?_;refine t_2 ?_;refine t_6 ?_;refine t_2 ?_;refine t_0 ?_;refine t_6 ?_;refine t_2 ?_;iterate 2 refine t_0 ?_
 refine AV (by exact AS rfl gg rfl (eo func76) (fun w' hw'=>E3 e97 w' (ha.gw hw'))) ?_;refine AV (by exact AS rfl gg rfl (eo func43) (fun w' hw'=>B3 e98 w' (ha.gw hw'))) ?_;refine t_0 ?_;refine AV (by exact AS rfl gg rfl (eo func76) (fun w' hw'=>E3 e100 w' (ha.gw hw'))) ?_;refine t_6 ?_;refine t_2 ?_;refine FY ?_;refine t_7 ?_;refine t_0 ?_;refine AV (by exact AS rfl gg rfl (eo func101) (fun w' hw'=>F7 e106 w' (ha.gw hw'))) ?_;refine t_7 ?_;refine t_0 ?_;refine AV (by exact AS rfl gg rfl (eo func43) (fun w' hw'=>B3 e109 w' (ha.gw hw'))) ?_;refine AV (by exact Ar rfl gg rfl (RG _ _ _)) ?_;refine E0 ?_;refine AD (AM results62 (Ad rfl rfl underlying137 rfl sizeOf137 rfl rfl)) ?_;intro w' hg;exact⟨rfl,hg⟩
theorem tu(p q:Jp)(w:World)(_ha:At w b pp)(hz:p.z=0):CGy 64 #[FV b,TF p,TF q] w (TF q):=by
 go_enter func64,ntmps64
 refine Jg ?_
 refine Ji ?_
 refine t_7 ?_;refine t_0 ?_;refine C5 ?_;refine AV (by exact AN rfl gg rfl rfl (fun w=>Gx hz _ _ w)) ?_;iterate 5 refine BC ?_
 refine G9 ?_;refine E0 ?_;refine AD (AM results64 (Ad rfl rfl underlying137 rfl sizeOf137 rfl rfl)) ?_;intro w' hg;exact⟨rfl,hg⟩
theorem tr(p q:Jp)(w:World)(_ha:At w b pp)(hz:p.z≠0)(hw:q.z=0):CGy 64 #[FV b,TF p,TF q] w (TF p):=by
 go_enter func64,ntmps64
 refine Jg ?_
 refine Ji ?_
 refine t_7 ?_;refine t_0 ?_;refine C5 ?_;refine IL ?_;iterate 5 refine BC ?_
 refine t_7 ?_;refine t_0 ?_;refine C5 ?_;refine AV (by exact AN rfl gg rfl rfl (fun w=>Gx hw _ _ w)) ?_;iterate 5 refine BC ?_
 refine G9 ?_;refine E0 ?_;refine AD (AM results64 (Ad rfl rfl underlying137 rfl sizeOf137 rfl rfl)) ?_;intro w' hg;exact⟨rfl,hg⟩
theorem t7(p q d:Jp)(v37 v44 v50 v56 v66 v67 v77 v78 v83 v88:F)(w:World)(ha:At w b pp)(hz:p.z≠0)(hw:q.z≠0)(e37:p.z*p.z=v37)(e44:q.z*q.z=v44)(e50:p.x*v44=v50)(e56:q.x*v37=v56)(e66:q.z*v44=v66)(e67:p.y*v66=v67)(e77:p.z*v37=v77)(e78:q.y*v77=v78)(e83:v56-v50=v83)(e88:v78-v67=v88)(hh:v83=0)(hr:v88=0)(hd: ∀w',Gw w w'→CGy 62 #[FV b,TF p] w' (TF d)):CGy 64 #[FV b,TF p,TF q] w (TF d):=by
 go_enter func64,ntmps64
 refine Jg ?_
 refine Ji ?_
 refine t_7 ?_;refine t_0 ?_;refine C5 ?_;refine IL ?_;iterate 5 refine BC ?_
 refine t_7 ?_;refine t_0 ?_;refine C5 ?_;refine AV (by exact AN rfl gg rfl rfl (fun w=>Gy hw _ _ w)) ?_;iterate 6 refine BC ?_
 refine t_6 ?_;refine t_2 ?_;refine t_7 ?_;refine t_0 ?_;refine t_7 ?_;refine t_0 ?_;refine Oi ?_;refine t_6 ?_;refine t_2 ?_;refine t_7 ?_;refine t_0 ?_;refine t_7 ?_;refine t_0 ?_;refine Oh ?_;iterate 2 refine CU ?_
 refine Ea ?_;refine t_2 ?_;refine t_7 ?_;iterate 2 refine t_0 ?_
 refine Og ?_;refine t_6 ?_;refine t_2 ?_;refine t_7 ?_;iterate 2 refine t_0 ?_
 refine Of ?_;iterate 2 refine CU ?_
 refine Ea ?_;refine t_2 ?_;refine t_7 ?_;refine t_0 ?_;refine t_6 ?_;refine t_2 ?_;refine t_7 ?_;iterate 2 refine t_0 ?_
 refine Oe ?_;refine Od ?_;refine t_6 ?_;refine t_2 ?_;refine t_7 ?_;refine t_0 ?_;refine t_6 ?_;refine t_2 ?_;refine t_7 ?_;iterate 2 refine t_0 ?_
 refine Oc ?_;refine Ob ?_;iterate 2 refine CU ?_
 refine Ea ?_;refine t_2 ?_;iterate 2 refine t_0 ?_
 refine Ol ?_;refine t_6 ?_;refine t_2 ?_;iterate 2 refine t_0 ?_
 refine Oj ?_;iterate 2 refine CU ?_
 refine II ?_
 refine t_0 ?_;refine C5 ?_;refine AV (by exact AN rfl gg rfl rfl (fun w=>Gx hh _ _ w)) ?_;iterate 5 refine t_k ?_
 refine t_0 ?_;refine C5 ?_;refine AV (by exact AN rfl gg rfl rfl (fun w=>Gx hr _ _ w)) ?_;iterate 4 refine t_k ?_
 refine FY ?_;refine G9 ?_;refine AV (by exact AS rfl gg rfl (eo func62) (fun w' hw'=>hd w' hw')) ?_;refine E0 ?_;refine AD (AM results64 (Ad rfl rfl underlying137 rfl sizeOf137 rfl rfl)) ?_;intro w' hg;exact⟨rfl,hg⟩
theorem F1(p q:Jp)(v37 v44 v50 v56 v66 v67 v77 v78 v83 v88:F)(w:World)(ha:At w b pp)(hz:p.z≠0)(hw:q.z≠0)(e37:p.z*p.z=v37)(e44:q.z*q.z=v44)(e50:p.x*v44=v50)(e56:q.x*v37=v56)(e66:q.z*v44=v66)(e67:p.y*v66=v67)(e77:p.z*v37=v77)(e78:q.y*v77=v78)(e83:v56-v50=v83)(e88:v78-v67=v88)(hh:v83=0)(hr:v88≠0):CGy 64 #[FV b,TF p,TF q] w (TF ⟨0,0,0⟩):=by
 go_enter func64,ntmps64
 refine Jg ?_
 refine Ji ?_
 refine t_7 ?_;refine t_0 ?_;refine C5 ?_;refine IL ?_;iterate 5 refine BC ?_
 refine t_7 ?_;refine t_0 ?_;refine C5 ?_;refine AV (by exact AN rfl gg rfl rfl (fun w=>Gy hw _ _ w)) ?_;iterate 6 refine BC ?_
 refine t_6 ?_;refine t_2 ?_;refine t_7 ?_;refine t_0 ?_;refine t_7 ?_;refine t_0 ?_;refine Oi ?_;refine t_6 ?_;refine t_2 ?_;refine t_7 ?_;refine t_0 ?_;refine t_7 ?_;refine t_0 ?_;refine Oh ?_;iterate 2 refine CU ?_
 refine Ea ?_;refine t_2 ?_;refine t_7 ?_;iterate 2 refine t_0 ?_
 refine Og ?_;refine t_6 ?_;refine t_2 ?_;refine t_7 ?_;iterate 2 refine t_0 ?_
 refine Of ?_;iterate 2 refine CU ?_
 refine Ea ?_;refine t_2 ?_;refine t_7 ?_;refine t_0 ?_;refine t_6 ?_;refine t_2 ?_;refine t_7 ?_;iterate 2 refine t_0 ?_
 refine Oe ?_;refine Od ?_;refine t_6 ?_;refine t_2 ?_;refine t_7 ?_;refine t_0 ?_;refine t_6 ?_;refine t_2 ?_;refine t_7 ?_;iterate 2 refine t_0 ?_
 refine Oc ?_;refine Ob ?_;iterate 2 refine CU ?_
 refine Ea ?_;refine t_2 ?_;iterate 2 refine t_0 ?_
 refine Ol ?_;refine t_6 ?_;refine t_2 ?_;iterate 2 refine t_0 ?_
 refine Oj ?_;iterate 2 refine CU ?_
 refine II ?_
 refine t_0 ?_;refine C5 ?_;refine AV (by exact AN rfl gg rfl rfl (fun w=>Gx hh _ _ w)) ?_;iterate 5 refine t_k ?_
 refine t_0 ?_;refine C5 ?_;refine AV (by exact AN rfl gg rfl rfl (fun w=>Gy hr _ _ w)) ?_;iterate 5 refine t_k ?_
 refine AV (by exact Ar rfl gg rfl (Nt)) ?_;refine E0 ?_;refine AD (AM results64 (Ad rfl rfl underlying137 rfl sizeOf137 rfl rfl)) ?_;intro w' hg;exact⟨rfl,hg⟩
theorem tz(p q:Jp)(v37 v44 v50 v56 v66 v67 v77 v78 v83 v88 v103 v108 v113 v122 v124 v127 v128 v139 v140 v145 v146 v155 v157:F)(w:World)(ha:At w b pp)(hz:p.z≠0)(hw:q.z≠0)(e37:p.z*p.z=v37)(e44:q.z*q.z=v44)(e50:p.x*v44=v50)(e56:q.x*v37=v56)(e66:q.z*v44=v66)(e67:p.y*v66=v67)(e77:p.z*v37=v77)(e78:q.y*v77=v78)(e83:v56-v50=v83)(e88:v78-v67=v88)(e103:v83*v83=v103)(e108:v83*v103=v108)(e113:v50*v103=v113)(e122:v88*v88=v122)(e124:v122-v108=v124)(e127:v113+v113=v127)(e128:v124-v127=v128)(e139:v113-v128=v139)(e140:v88*v139=v140)(e145:v67*v108=v145)(e146:v140-v145=v146)(e155:p.z*q.z=v155)(e157:v155*v83=v157)(hh:v83≠0):CGy 64 #[FV b,TF p,TF q] w (TF ⟨v128,v146,v157⟩):=by
 go_enter func64,ntmps64
 refine Jg ?_
 refine Ji ?_
 refine t_7 ?_;refine t_0 ?_;refine C5 ?_;refine IL ?_;iterate 5 refine BC ?_
 refine t_7 ?_;refine t_0 ?_;refine C5 ?_;refine AV (by exact AN rfl gg rfl rfl (fun w=>Gy hw _ _ w)) ?_;iterate 6 refine BC ?_
 refine t_6 ?_;refine t_2 ?_;refine t_7 ?_;refine t_0 ?_;refine t_7 ?_;refine t_0 ?_;refine Oi ?_;refine t_6 ?_;refine t_2 ?_;refine t_7 ?_;refine t_0 ?_;refine t_7 ?_;refine t_0 ?_;refine Oh ?_;iterate 2 refine CU ?_
 refine Ea ?_;refine t_2 ?_;refine t_7 ?_;iterate 2 refine t_0 ?_
 refine Og ?_;refine t_6 ?_;refine t_2 ?_;refine t_7 ?_;iterate 2 refine t_0 ?_
 refine Of ?_;iterate 2 refine CU ?_
 refine Ea ?_;refine t_2 ?_;refine t_7 ?_;refine t_0 ?_;refine t_6 ?_;refine t_2 ?_;refine t_7 ?_;iterate 2 refine t_0 ?_
 refine Oe ?_;refine Od ?_;refine t_6 ?_;refine t_2 ?_;refine t_7 ?_;refine t_0 ?_;refine t_6 ?_;refine t_2 ?_;refine t_7 ?_;iterate 2 refine t_0 ?_
 refine Oc ?_;refine Ob ?_;iterate 2 refine CU ?_
 refine Ea ?_;refine t_2 ?_;iterate 2 refine t_0 ?_
 refine Ol ?_;refine t_6 ?_;refine t_2 ?_;iterate 2 refine t_0 ?_
 refine Oj ?_;iterate 2 refine CU ?_
 refine II ?_
 refine t_0 ?_;refine C5 ?_;refine AV (by exact AN rfl gg rfl rfl (fun w=>Gy hh _ _ w)) ?_;iterate 5 refine t_k ?_
 refine t_6 ?_;refine t_2 ?_;iterate 2 refine t_0 ?_
 refine AV (by exact AS rfl gg rfl (eo func43) (fun w' hw'=>B3 e103 w' (ha.gw hw'))) ?_;refine FU ?_
 refine t_6 ?_;refine t_2 ?_;iterate 2 refine t_0 ?_
 refine AV (by exact AS rfl gg rfl (eo func43) (fun w' hw'=>B3 e108 w' (ha.gw hw'))) ?_;refine t_6 ?_;refine t_2 ?_;iterate 2 refine t_0 ?_
 refine AV (by exact AS rfl gg rfl (eo func43) (fun w' hw'=>B3 e113 w' (ha.gw hw'))) ?_;iterate 2 refine CU ?_
 refine Ea ?_;refine t_2 ?_;refine t_6 ?_;refine t_2 ?_;refine t_6 ?_;refine t_2 ?_;iterate 2 refine t_0 ?_
 refine AV (by exact AS rfl gg rfl (eo func43) (fun w' hw'=>B3 e122 w' (ha.gw hw'))) ?_;refine t_0 ?_;refine AV (by exact AS rfl gg rfl (eo func76) (fun w' hw'=>E3 e124 w' (ha.gw hw'))) ?_;refine FY ?_;refine t_0 ?_;refine AV (by exact AS rfl gg rfl (eo func101) (fun w' hw'=>F7 e127 w' (ha.gw hw'))) ?_;refine AV (by exact AS rfl gg rfl (eo func76) (fun w' hw'=>E3 e128 w' (ha.gw hw'))) ?_;refine FU ?_
 refine t_0 ?_;refine t_6 ?_;refine t_2 ?_;refine t_6 ?_;refine t_2 ?_;refine t_0 ?_;refine t_6 ?_;refine t_2 ?_;iterate 2 refine t_0 ?_
 refine AV (by exact AS rfl gg rfl (eo func76) (fun w' hw'=>E3 e139 w' (ha.gw hw'))) ?_;refine AV (by exact AS rfl gg rfl (eo func43) (fun w' hw'=>B3 e140 w' (ha.gw hw'))) ?_;refine t_6 ?_;refine t_2 ?_;iterate 2 refine t_0 ?_
 refine AV (by exact AS rfl gg rfl (eo func43) (fun w' hw'=>B3 e145 w' (ha.gw hw'))) ?_;refine AV (by exact AS rfl gg rfl (eo func76) (fun w' hw'=>E3 e146 w' (ha.gw hw'))) ?_;refine t_6 ?_;refine t_2 ?_;refine t_6 ?_;refine t_2 ?_;refine t_7 ?_;refine t_0 ?_;refine t_7 ?_;refine t_0 ?_;refine AV (by exact AS rfl gg rfl (eo func43) (fun w' hw'=>B3 e155 w' (ha.gw hw'))) ?_;refine t_0 ?_;refine AV (by exact AS rfl gg rfl (eo func43) (fun w' hw'=>B3 e157 w' (ha.gw hw'))) ?_;refine AV (by exact Ar rfl gg rfl (RG _ _ _)) ?_;refine E0 ?_;refine AD (AM results64 (Ad rfl rfl underlying137 rfl sizeOf137 rfl rfl)) ?_;intro w' hg;exact⟨rfl,hg⟩
open TollEc (CX Cz)
theorem Qt(p:Jp)(w:World)(ha:At w b pp):CGy 62 #[FV b,TF p] w (TF (CX p)):=by
 by_cases hz:p.z=0
 ·rw[show CX p=⟨0,0,0⟩ from if_pos (.inl hz)];exact pB p w ha hz
 ·by_cases hy:p.y=0
  ·rw[show CX p=⟨0,0,0⟩ from if_pos (.inr hy)];exact pC p w ha hz hy
  ·have h:=pD p _ _ _ _ _ _ _ _ _ _ _ _ _ _ _ _ _ _ _ _ _ w ha hz hy rfl rfl rfl rfl rfl rfl rfl rfl rfl rfl rfl rfl rfl rfl rfl rfl rfl rfl rfl rfl rfl
   have e:CX p=_:=if_neg (fun c:p.z=0∨p.y=0=>c.elim hz hy);rw[e];exact h
theorem ZF(p q:Jp)(w:World)(ha:At w b pp):CGy 64 #[FV b,TF p,TF q] w (TF (Cz p q)):=by
 by_cases hz:p.z=0
 ·rw[show Cz p q=q from if_pos hz];exact tu p q w ha hz
 ·by_cases hw:q.z=0
  ·rw[show Cz p q=p from(if_neg hz).trans (if_pos hw)];exact tr p q w ha hz hw
  ·by_cases hh:q.x*(p.z*p.z)-p.x*(q.z*q.z)=0
   ·by_cases hr:q.y*(p.z*(p.z*p.z))-p.y*(q.z*(q.z*q.z))=0
    ·rw[show Cz p q=CX p from(if_neg hz).trans ((if_neg hw).trans ((if_pos hh).trans (if_pos hr)))]
     exact t7 p q _ _ _ _ _ _ _ _ _ _ _ w ha hz hw rfl rfl rfl rfl rfl rfl rfl rfl rfl rfl hh hr (fun w' hw'=>Qt p w' (ha.gw hw'))
    ·rw[show Cz p q=⟨0,0,0⟩ from(if_neg hz).trans ((if_neg hw).trans ((if_pos hh).trans (if_neg hr)))]
     exact F1 p q _ _ _ _ _ _ _ _ _ _ w ha hz hw rfl rfl rfl rfl rfl rfl rfl rfl rfl rfl hh hr
   ·have h:=tz p q _ _ _ _ _ _ _ _ _ _ _ _ _ _ _ _ _ _ _ _ _ _ _ w ha hz hw rfl rfl rfl rfl rfl rfl rfl rfl rfl rfl rfl rfl rfl rfl rfl rfl rfl rfl rfl rfl rfl rfl rfl hh
    have e:Cz p q=_:=(if_neg hz).trans ((if_neg hw).trans (if_neg hh));rw[e];exact h
theorem P2(hn:n<R)(h:n<pp)(w:World):CGy 58 #[N n,N pp] w (.bool true):=by
 have:=VV n hn w;rw[decide_eq_true h]at this;exact this
theorem VU(hn:n<R)(h: ¬n<pp)(w:World):CGy 58 #[N n,N pp] w (.bool false):=by
 have:=VV n hn w;rw[decide_eq_false h]at this;exact this
theorem uj:NF 1= .agg #[.int .u64 1,.int .u64 0,.int .u64 0,.int .u64 0]:=Rq
theorem ui:NF 3= .agg #[.int .u64 3,.int .u64 0,.int .u64 0,.int .u64 0]:=uh (k:=3) (by decide)
theorem bT(x:F)(w:World)(ha:At w b pp):CGy 76 #[ptr b,NF x,.agg #[.int .u64 3,.int .u64 0,.int .u64 0,.int .u64 0]] w (NF (x-3)):=by
 have:=Sy x 3 w ha;rw[ui]at this;exact this
theorem q9:prog.built 96 [(0,.int .u64 3)]=some #[.int .u64 3,.int .u64 0,.int .u64 0,.int .u64 0]:=by kernel_rfl
theorem rA:prog.built 96 [(0,.int .u64 1)]=some #[.int .u64 1,.int .u64 0,.int .u64 0,.int .u64 0]:=by kernel_rfl
theorem q7(x y:F):prog.built 137 [(0,NF x),(1,NF y),(2,.agg #[.int .u64 1,.int .u64 0,.int .u64 0,.int .u64 0])]=some #[.int .u64 (lv x 0:Nat),.int .u64 (lv x 1:Nat),.int .u64 (lv x 2:Nat),.int .u64 (lv x 3:Nat),.int .u64 (lv y 0:Nat),.int .u64 (lv y 1:Nat),.int .u64 (lv y 2:Nat),.int .u64 (lv y 3:Nat),.int .u64 (lv 1 0:Nat),.int .u64 (lv 1 1:Nat),.int .u64 (lv 1 2:Nat),.int .u64 (lv 1 3:Nat)]:=by
 rw[←uj];exact RG x y 1
theorem Nu(x y:Nat):prog.built 87 [(0,B32 x),(1,B32 y)]=some #[.int .u8 (byt x 0:Nat),.int .u8 (byt x 1:Nat),.int .u8 (byt x 2:Nat),.int .u8 (byt x 3:Nat),.int .u8 (byt x 4:Nat),.int .u8 (byt x 5:Nat),.int .u8 (byt x 6:Nat),.int .u8 (byt x 7:Nat),.int .u8 (byt x 8:Nat),.int .u8 (byt x 9:Nat),.int .u8 (byt x 10:Nat),.int .u8 (byt x 11:Nat),.int .u8 (byt x 12:Nat),.int .u8 (byt x 13:Nat),.int .u8 (byt x 14:Nat),.int .u8 (byt x 15:Nat),.int .u8 (byt x 16:Nat),.int .u8 (byt x 17:Nat),.int .u8 (byt x 18:Nat),.int .u8 (byt x 19:Nat),.int .u8 (byt x 20:Nat),.int .u8 (byt x 21:Nat),.int .u8 (byt x 22:Nat),.int .u8 (byt x 23:Nat),.int .u8 (byt x 24:Nat),.int .u8 (byt x 25:Nat),.int .u8 (byt x 26:Nat),.int .u8 (byt x 27:Nat),.int .u8 (byt x 28:Nat),.int .u8 (byt x 29:Nat),.int .u8 (byt x 30:Nat),.int .u8 (byt x 31:Nat),.int .u8 (byt y 0:Nat),.int .u8 (byt y 1:Nat),.int .u8 (byt y 2:Nat),.int .u8 (byt y 3:Nat),.int .u8 (byt y 4:Nat),.int .u8 (byt y 5:Nat),.int .u8 (byt y 6:Nat),.int .u8 (byt y 7:Nat),.int .u8 (byt y 8:Nat),.int .u8 (byt y 9:Nat),.int .u8 (byt y 10:Nat),.int .u8 (byt y 11:Nat),.int .u8 (byt y 12:Nat),.int .u8 (byt y 13:Nat),.int .u8 (byt y 14:Nat),.int .u8 (byt y 15:Nat),.int .u8 (byt y 16:Nat),.int .u8 (byt y 17:Nat),.int .u8 (byt y 18:Nat),.int .u8 (byt y 19:Nat),.int .u8 (byt y 20:Nat),.int .u8 (byt y 21:Nat),.int .u8 (byt y 22:Nat),.int .u8 (byt y 23:Nat),.int .u8 (byt y 24:Nat),.int .u8 (byt y 25:Nat),.int .u8 (byt y 26:Nat),.int .u8 (byt y 27:Nat),.int .u8 (byt y 28:Nat),.int .u8 (byt y 29:Nat),.int .u8 (byt y 30:Nat),.int .u8 (byt y 31:Nat)]:=by kernel_rfl
theorem q8(g:Nat):prog.built 133 [(0,.pointer (some ⟨g,0,none⟩))]=some #[.pointer (some ⟨g,0,none⟩)]:=by kernel_rfl
theorem SL(l:List Value):unV (l.map SV.v)=some l:=by
 induction l with
 |nil=>rfl
 |cons a l ih=>simp only[List.map_cons,unV,ih]
theorem Fz{w0 w:World}{s:VS}{id ty m:Nat}(hs:Ex w0 s rd ρ w)(hid:id∈rd)(hm:s.mem id=some ((Cc m).map SV.v,ty)):At w (ρ id) m:=
 O4 hs hid hm 0 (Cc m) (by rw[List.drop_zero];show unV (((Cc m).map SV.v).take (Cc m).length)=_;rw[List.take_of_length_le (by simp)];exact SL _)
theorem fT(hx:x<R)(hy:y<R)(w:World)(_ha:At w b pp)(hL:Laid w)(h: ¬x<pp):CGy 60 #[FV b,PT x y] w (.bool false):=by
 go_enter func60,ntmps60
 refine D1 ?_;iterate 8 refine BC ?_
 refine GD ?_;refine FX ?_;refine AV (by exact AS rfl gg rfl (eo func41) (fun w' hw'=>ofN x hx w')) ?_;refine GD ?_;refine FX ?_;refine AV (by exact AS rfl gg rfl (eo func41) (fun w' hw'=>ofN y hy w')) ?_;iterate 2 refine CU ?_
 refine II ?_
 refine t_0 ?_;refine Lx ?_;refine AV (by exact AS (v:= .bool false) rfl gg rfl (eo func58) (fun w' hw'=>VU hx h w')) ?_;iterate 2 refine BC ?_
 iterate 2 refine IP ?_
 refine Sd ?_;refine AV (by first|exact Ev.skip (fun _=>rfl)|exact Fq rfl (fun _=>rfl) rfl) ?_;iterate 7 refine BC ?_
 refine AG ?_;refine AD (AM results60 (AE rfl)) ?_;intro w' hg;exact⟨rfl,hg⟩
theorem fS(hx:x<R)(hy:y<R)(w:World)(_ha:At w b pp)(hL:Laid w)(h:x<pp)(h2: ¬y<pp):CGy 60 #[FV b,PT x y] w (.bool false):=by
 go_enter func60,ntmps60
 refine D1 ?_;iterate 8 refine BC ?_
 refine GD ?_;refine FX ?_;refine AV (by exact AS rfl gg rfl (eo func41) (fun w' hw'=>ofN x hx w')) ?_;refine GD ?_;refine FX ?_;refine AV (by exact AS rfl gg rfl (eo func41) (fun w' hw'=>ofN y hy w')) ?_;iterate 2 refine CU ?_
 refine II ?_
 refine t_0 ?_;refine Lx ?_;refine AV (by exact AS (v:= .bool true) rfl gg rfl (eo func58) (fun w' hw'=>P2 hx h w')) ?_;iterate 2 refine BC ?_
 refine IP ?_;refine AV (by first|exact Ev.skip (fun _=>rfl)|exact CS rfl (fun _=>rfl) rfl underlying96 rfl sizeOf96 (hL.pp) rfl) ?_;refine AV (by first|exact Ev.skip (fun _=>rfl)|exact AS (v:= .bool false) rfl (fun _=>rfl) rfl (eo func58) (fun w' hw'=>VU hy h2 w')) ?_;refine AV (by first|exact Ev.skip (fun _=>rfl)|exact Fq rfl (fun _=>rfl) rfl) ?_;iterate 7 refine BC ?_
 refine AG ?_;refine AD (AM results60 (AE rfl)) ?_;intro w' hg;exact⟨rfl,hg⟩
theorem fW(x y:F)(w:World)(ha:At w b pp)(hL:Laid w):CGy 60 #[FV b,PT x.val y.val] w (.bool (decide (y*y=(x*x-3)*x+cb))):=by
 go_enter func60,ntmps60
 refine D1 ?_;iterate 8 refine BC ?_
 refine GD ?_;refine FX ?_;refine AV (by exact AS rfl gg rfl (eo func41) (fun w' hw'=>ofF x w')) ?_;refine GD ?_;refine FX ?_;refine AV (by exact AS rfl gg rfl (eo func41) (fun w' hw'=>ofF y w')) ?_;iterate 2 refine CU ?_
 refine II ?_
 refine t_0 ?_;refine Lx ?_;refine AV (by exact AS (v:= .bool true) rfl gg rfl (eo func58) (fun w' hw'=>P2 (C4 x) x.isLt w')) ?_;iterate 2 refine BC ?_
 refine IP ?_;refine AV (by first|exact Ev.skip (fun _=>rfl)|exact CS rfl (fun _=>rfl) rfl underlying96 rfl sizeOf96 (hL.pp) rfl) ?_;refine AV (by first|exact Ev.skip (fun _=>rfl)|exact AS (v:= .bool true) rfl (fun _=>rfl) rfl (eo func58) (fun w' hw'=>P2 (C4 y) y.isLt w')) ?_;refine AV (by first|exact Ev.skip (fun _=>rfl)|exact Fq rfl (fun _=>rfl) rfl) ?_;iterate 6 refine BC ?_
 refine t_6 ?_;refine t_2 ?_;refine t_6 ?_;refine t_2 ?_;refine t_6 ?_;refine t_2 ?_;refine t_6 ?_;refine t_2 ?_;iterate 2 refine t_0 ?_
 refine Oa ?_;refine AV (by exact Ar rfl gg rfl q9) ?_;refine AV (by exact AS rfl gg rfl (eo func76) (fun w' hw'=>bT _ w' (ha.gw hw'))) ?_;refine t_0 ?_;refine Oa ?_;refine AV (by exact CS rfl gg rfl underlying96 rfl sizeOf96 (hL.cb) rfl) ?_;refine AV (by exact AS rfl gg rfl (eo func44) (fun w' hw'=>Re _ cb w' (ha.gw hw'))) ?_;refine FU ?_
 refine t_6 ?_;refine t_2 ?_;iterate 2 refine t_0 ?_
 refine Oa ?_;refine t_0 ?_;refine AV (by exact AN rfl gg rfl rfl (fun w=>eqF _ _ _ _ w)) ?_;iterate 2 refine BC ?_
 refine AG ?_;refine AD (AM results60 (AE rfl)) ?_;intro w' hg;exact⟨rfl,hg⟩
theorem VT(hon: ∀w',Gw w w'→CGy 60 #[FV b,PT x y] w' (.bool false)):CGy 61 #[FV b,PT x y] w (TF ⟨0,0,0⟩):=by
 go_enter func61,ntmps61
 refine EY ?_
 refine Jj ?_
 refine FY ?_;refine Jq ?_;refine AV (by exact AS rfl gg rfl (eo func60) (fun w' hw'=>hon w' hw')) ?_;iterate 5 refine BC ?_
 refine AV (by exact Ar rfl gg rfl (Nt)) ?_;refine E0 ?_;refine AD (AM results61 (Ad rfl rfl underlying137 rfl sizeOf137 rfl rfl)) ?_;intro w' hg;exact⟨rfl,hg⟩
theorem kF(x y:F)(w:World)(hon: ∀w',Gw w w'→CGy 60 #[FV b,PT x.val y.val] w' (.bool true)):CGy 61 #[FV b,PT x.val y.val] w (TF ⟨x,y,1⟩):=by
 go_enter func61,ntmps61
 refine EY ?_
 refine Jj ?_
 refine FY ?_;refine Jq ?_;refine AV (by exact AS rfl gg rfl (eo func60) (fun w' hw'=>hon w' hw')) ?_;iterate 6 refine BC ?_
 refine GD ?_;refine FX ?_;refine AV (by exact AS rfl gg rfl (eo func41) (fun w' hw'=>ofF x w')) ?_;refine GD ?_;refine FX ?_;refine AV (by exact AS rfl gg rfl (eo func41) (fun w' hw'=>ofF y w')) ?_;refine AV (by exact Ar rfl gg rfl rA) ?_;refine AV (by exact Ar rfl gg rfl (q7 _ _)) ?_;refine E0 ?_;refine AD (AM results61 (Ad rfl rfl underlying137 rfl sizeOf137 rfl rfl)) ?_;intro w' hg;exact⟨rfl,hg⟩
theorem o9(x y:F)(w:World)(ha:At w b pp):CGy 65 #[FV b,TF ⟨x,y,0⟩] w (PT 0 0):=by
 go_enter func65,ntmps65
 refine EY ?_
 refine Jh ?_
 refine t_6 ?_;refine t_2 ?_;refine t_7 ?_;refine t_0 ?_;refine AV (by exact AS rfl gg rfl (eo func42) (fun w' hw'=>me w' (ha.gw hw'))) ?_;iterate 3 refine BC ?_
 refine CU ?_;refine GF ?_;iterate 6 refine BC ?_
 refine AV (by refine El gg (fun ρ w=>by simp only[VS.act,SV.c,List.map_cons,List.map_nil];go_simp;exact rfl) (fun _ _=>rfl)) ?_;iterate 4 refine t_k ?_
 refine AV (by exact Ar rfl gg rfl (Ht)) ?_;refine Jn ?_;refine EF ?_;refine AD (AM results65 (Ad rfl rfl underlying87 rfl sizeOf87 rfl rfl)) ?_;intro w' hg;exact⟨rfl,hg⟩
theorem pA(x y z i ii u v iii:F)(w:World)(ha:At w b pp)(hi:z*i=1)(e1:i*i=ii)(e2:x*ii=u)(e3:i*ii=iii)(e4:y*iii=v):CGy 65 #[FV b,TF ⟨x,y,z⟩] w (PT u.val v.val):=by
 go_enter func65,ntmps65
 refine EY ?_
 refine Jh ?_
 refine t_6 ?_;refine t_2 ?_;refine t_7 ?_;refine t_0 ?_;refine AV (by exact AS rfl gg rfl (eo func42) (fun w' hw'=>mc hi w' (ha.gw hw'))) ?_;iterate 3 refine BC ?_
 refine CU ?_;refine GF ?_;iterate 6 refine BC ?_
 refine AV (by refine El gg (fun ρ w=>by simp only[VS.act,SV.c,List.map_cons,List.map_nil];go_simp;exact rfl) (fun _ _=>rfl)) ?_;iterate 5 refine t_k ?_
 refine t_6 ?_;refine t_2 ?_;iterate 2 refine t_0 ?_
 refine AV (by exact AS rfl gg rfl (eo func43) (fun w' hw'=>B3 e1 w' (ha.gw hw'))) ?_;refine FU ?_
 refine t_6 ?_;refine t_2 ?_;refine t_7 ?_;iterate 2 refine t_0 ?_
 refine AV (by exact AS rfl gg rfl (eo func43) (fun w' hw'=>B3 e2 w' (ha.gw hw'))) ?_;refine AV (by exact AS rfl gg rfl (eo func45) (fun w' hw'=>Nr _ w')) ?_;refine t_6 ?_;refine t_2 ?_;refine t_7 ?_;refine t_0 ?_;refine t_6 ?_;refine t_2 ?_;iterate 2 refine t_0 ?_
 refine AV (by exact AS rfl gg rfl (eo func43) (fun w' hw'=>B3 e3 w' (ha.gw hw'))) ?_;refine AV (by exact AS rfl gg rfl (eo func43) (fun w' hw'=>B3 e4 w' (ha.gw hw'))) ?_;refine AV (by exact AS rfl gg rfl (eo func45) (fun w' hw'=>Nr _ w')) ?_;refine AV (by exact Ar rfl gg rfl (Nu _ _)) ?_;refine Jn ?_;refine EF ?_;refine AD (AM results65 (Ad rfl rfl underlying87 rfl sizeOf87 rfl rfl)) ?_;intro w' hg;exact⟨rfl,hg⟩
theorem PX(hL:Laid w):Calls prog 59 #[] w fun e w'=> ∃g,w.heap.size≤g∧e= .returned (.agg #[.pointer (some ⟨g,0,none⟩)])∧w'.heap[g]? =some (.cells (Cc pp).toArray 150 (0,0))∧Gw w w':=by
 go_enter func59,ntmps59
 refine D1 ?_;iterate 2 refine t_k ?_
 refine AV (by exact Bq rfl rfl gg zeroValue133) ?_;iterate 3 refine t_k ?_
 refine Lx ?_;refine AV (by exact oQ rfl rfl gg rfl (eo func69) (Cc pp) 150 (fun w' _=>UX mdp w')) ?_;refine BC ?_;refine AV (by exact oG rfl gg rfl) ?_;refine AV (by exact oF rfl gg rfl) ?_;iterate 6 refine BC ?_
 refine AV (by exact oY rfl gg rfl (fun g=>q8 g)) ?_;refine AV (by exact Qj rfl gg rfl rfl rfl sizeOf133 (by simp)) ?_;refine EF ?_;refine eO (id:=5) results59 rfl rfl underlying133 rfl sizeOf133 rfl rfl (SL _) ?_;intro g w' h1 h2 h3;exact⟨g,h1,rfl,h2,h3⟩
theorem rl(hL:Laid w):CGy 33 #[] w (PT TollEc.bx.val TollEc.bY.val):=by
 go_enter func33,ntmps33
 refine D1 ?_;iterate 2 refine t_k ?_
 refine Jh ?_
 refine AV (by exact CS rfl gg rfl underlying96 rfl sizeOf96 (hL.bx) rfl) ?_;refine AV (by exact AS rfl gg rfl (eo func45) (fun w' hw'=>Nr TollEc.bx w')) ?_;refine AV (by exact CS rfl gg rfl underlying96 rfl sizeOf96 (hL.bY) rfl) ?_;refine AV (by exact AS rfl gg rfl (eo func45) (fun w' hw'=>Nr TollEc.bY w')) ?_;refine AV (by exact Ar rfl gg rfl (Nu _ _)) ?_;refine Jn ?_;refine EF ?_;refine AD (AM results33 (Ad rfl rfl underlying87 rfl sizeOf87 rfl rfl)) ?_;intro w' hg;exact⟨rfl,hg⟩
theorem fO(hL:Laid w):CGy 68 #[] w (B32 TollEc.nn):=by
 go_enter func68,ntmps68
 refine D1 ?_;iterate 2 refine t_k ?_
 refine AV (by exact Bq rfl rfl gg zeroValue46) ?_;iterate 3 refine t_k ?_
 refine AV (by exact CS rfl gg rfl underlying96 rfl sizeOf96 (hL.nn) rfl) ?_;refine AV (by exact AS rfl gg rfl (eo func45) (fun w' hw'=>JS TollEc.nn w')) ?_;refine AV (by exact Be rfl gg rfl rfl rfl sizeOf46 rfl (by simp) rfl) ?_;refine EF ?_;refine AD (AM results68 (Ad rfl rfl underlying46 rfl sizeOf46 rfl rfl)) ?_;intro w' hg;exact⟨rfl,hg⟩
theorem XX{P:Program}{e:TypeId}{k k':IntKind}(he:P.underlying e=some (.int k'))(d:Nat)(zs ys:List Int)(w:World): ∀(is:List Nat),(∀j∈is,j<zs.length∧j<ys.length)→
 (Op.eqItems (d+1) e 1 (zs.map (Value.int k)).toArray (ys.map (Value.int k)).toArray is).run P w= .ok (is.all fun j=>zs.getD j 0==ys.getD j 0) w
 | [],_=>by simp[Op.eqItems]
 |j::is,h=>by
  obtain⟨hz,hy⟩:=h j (by simp)
  have hp:(part e (zs.map (Value.int k)).toArray (j*1)).run P w= .ok (.int k zs[j]) w:=by
   simp[part,Bu he,Bc,hz]
  have hq:(part e (ys.map (Value.int k)).toArray (j*1)).run P w= .ok (.int k ys[j]) w:=by
   simp[part,Bu he,Bc,hy]
  have hi:=run_equalIn_int w d e k k' zs[j] ys[j] he;have ih:=XX (k:=k) he d zs ys w is fun i hi=>h i (by simp[hi])
  simp only[Op.eqItems,Sem.run_bind,hp,hq,Result.andThen_ok,hi,List.all_cons,List.getD_eq_getElem?_getD,List.getElem?_eq_getElem hz,List.getElem?_eq_getElem hy,Option.getD_some];by_cases hc:zs[j]=ys[j]
  ·simp only[hc,beq_self_eq_true,Bool.not_true,Bool.false_eq_true,if_false,Bool.true_and]
   simpa only[List.getD_eq_getElem?_getD] using ih
  ·simp[hc]
def Gq(n:Nat):List Int:=(List.range 32).map fun i=>((byt n i:Nat):Int)
theorem qk{a c:Nat}(ha:a<W)(hc:c<W)(h: ∀i,i<8→a/2^(56-8*i) %256=c/2^(56-8*i) %256):a=c:=by
 have h0:a/72057594037927936 %256=c/72057594037927936 %256:=h 0 (by decide);have h1:a/281474976710656 %256=c/281474976710656 %256:=h 1 (by decide);have h2:a/1099511627776 %256=c/1099511627776 %256:=h 2 (by decide);have h3:a/4294967296 %256=c/4294967296 %256:=h 3 (by decide);have h4:a/16777216 %256=c/16777216 %256:=h 4 (by decide);have h5:a/65536 %256=c/65536 %256:=h 5 (by decide);have h6:a/256 %256=c/256 %256:=h 6 (by decide);have h7:a/1 %256=c/1 %256:=h 7 (by decide);simp only[W]at ha hc;clear h;omega
theorem bytes_inj(hx:x<R)(hy:y<R)(h: ∀i,i<32→byt x i=byt y i):x=y:=by
 have g: ∀g,g<4→lim x (3-g)=lim y (3-g):=fun g hg=>by
  refine qk (Ae _ _) (Ae _ _) fun i hi=> ?_
  have:=h (8*g+i) (by omega);unfold byt at this
  rwa [show(8*g+i)/8=g by omega,show(8*g+i) %8=i by omega]at this
 exact Ip hx hy (g 3 (by omega)) (g 2 (by omega)) (g 1 (by omega)) (g 0 (by omega))
theorem ou(hx:x<R)(hy:y<R):((List.range 32).all fun j=>(Gq x).getD j 0==(Gq y).getD j 0)=decide (x=y):=by
 rw[Bool.eq_iff_iff,List.all_eq_true,decide_eq_true_iff];constructor
 ·intro h
  refine bytes_inj hx hy fun i hi=> ?_
  have:=h i (by simpa using hi);simp[Gq,hi]at this;omega
 ·rintro rfl i _
  exact beq_self_eq_true _
theorem Qq(d:Nat)(hx:x<R)(hy:y<R)(w:World):(Op.equalIn (d+2) 46 (.agg #[.int .u8 (byt x 0:Nat),.int .u8 (byt x 1:Nat),.int .u8 (byt x 2:Nat),.int .u8 (byt x 3:Nat),.int .u8 (byt x 4:Nat),.int .u8 (byt x 5:Nat),.int .u8 (byt x 6:Nat),.int .u8 (byt x 7:Nat),.int .u8 (byt x 8:Nat),.int .u8 (byt x 9:Nat),.int .u8 (byt x 10:Nat),.int .u8 (byt x 11:Nat),.int .u8 (byt x 12:Nat),.int .u8 (byt x 13:Nat),.int .u8 (byt x 14:Nat),.int .u8 (byt x 15:Nat),.int .u8 (byt x 16:Nat),.int .u8 (byt x 17:Nat),.int .u8 (byt x 18:Nat),.int .u8 (byt x 19:Nat),.int .u8 (byt x 20:Nat),.int .u8 (byt x 21:Nat),.int .u8 (byt x 22:Nat),.int .u8 (byt x 23:Nat),.int .u8 (byt x 24:Nat),.int .u8 (byt x 25:Nat),.int .u8 (byt x 26:Nat),.int .u8 (byt x 27:Nat),.int .u8 (byt x 28:Nat),.int .u8 (byt x 29:Nat),.int .u8 (byt x 30:Nat),.int .u8 (byt x 31:Nat)]) (.agg #[.int .u8 (byt y 0:Nat),.int .u8 (byt y 1:Nat),.int .u8 (byt y 2:Nat),.int .u8 (byt y 3:Nat),.int .u8 (byt y 4:Nat),.int .u8 (byt y 5:Nat),.int .u8 (byt y 6:Nat),.int .u8 (byt y 7:Nat),.int .u8 (byt y 8:Nat),.int .u8 (byt y 9:Nat),.int .u8 (byt y 10:Nat),.int .u8 (byt y 11:Nat),.int .u8 (byt y 12:Nat),.int .u8 (byt y 13:Nat),.int .u8 (byt y 14:Nat),.int .u8 (byt y 15:Nat),.int .u8 (byt y 16:Nat),.int .u8 (byt y 17:Nat),.int .u8 (byt y 18:Nat),.int .u8 (byt y 19:Nat),.int .u8 (byt y 20:Nat),.int .u8 (byt y 21:Nat),.int .u8 (byt y 22:Nat),.int .u8 (byt y 23:Nat),.int .u8 (byt y 24:Nat),.int .u8 (byt y 25:Nat),.int .u8 (byt y 26:Nat),.int .u8 (byt y 27:Nat),.int .u8 (byt y 28:Nat),.int .u8 (byt y 29:Nat),.int .u8 (byt y 30:Nat),.int .u8 (byt y 31:Nat)])).run prog w= .ok (decide (x=y)) w:=by
 have h:=XX (k:= .u8) underlying5 d (Gq x) (Gq y) w (List.range 32) (by intro j hj;simp[Gq]at *; exact hj);rw[ou hx hy]at h;show(Op.equalIn (d+2) 46 (.agg ((Gq x).map (Value.int .u8)).toArray) (.agg ((Gq y).map (Value.int .u8)).toArray)).run prog w=_;rw[run_equalIn_array w (d+1) _ _ underlying46 (i:=prog.types[5]) rfl,show prog.cellsOf 5=1 by kernel_rfl];exact h
theorem XW(hx:x<R)(hy:y<R)(hx':x'<R)(hy':y'<R):BOy .eql 87 (PT x y) (PT x' y') (.bool (decide (x=x'∧y=y'))):=by
 intro p q w
 unfold PT
 go_simp
 rw[Qq _ hx hx'];by_cases h:x=x'
 ·simp[h,Qq _ hy hy',Result.andThen]
  by_cases h2:y=y'<;>simp[h2]
 ·simp[h,Result.andThen]
def onF(x y:F):Bool:=decide (y*y=(x*x-3)*x+cb)
theorem MS{x y:F}:onF x y=true↔TollEc.onE x y:=by
 unfold onF TollEc.onE;rw[decide_eq_true_iff,show(x*x-3)*x+cb=x*x*x-3*x+cb by grind-lia]
def onB(x y:Nat):Bool:=if h:x<pp∧y<pp then onF ⟨x,h.1⟩ ⟨y,h.2⟩else false
theorem KF(hx:x<R)(hy:y<R)(w:World)(ha:At w b pp)(hL:Laid w):CGy 60 #[FV b,PT x y] w (.bool (onB x y)):=by
 by_cases h1:x<pp
 ·by_cases h2:y<pp
  ·have h:=fW (b:=b) ⟨x,h1⟩ ⟨y,h2⟩ w ha hL
   rw[show onB x y=onF ⟨x,h1⟩ ⟨y,h2⟩ from dif_pos ⟨h1,h2⟩];exact h
  ·rw[show onB x y=false from dif_neg (fun c=>h2 c.2)];exact fS hx hy w ha hL h1 h2
 ·rw[show onB x y=false from dif_neg (fun c=>h1 c.1)];exact fT hx hy w ha hL h1
def toP(x y:Nat):Pt:=if h:x<pp∧y<pp then(if onF ⟨x,h.1⟩ ⟨y,h.2⟩then .aff ⟨x,h.1⟩ ⟨y,h.2⟩else .inf)else .inf
def FE(x y:Nat):Jp:=if h:x<pp∧y<pp then(if onF ⟨x,h.1⟩ ⟨y,h.2⟩then⟨⟨x,h.1⟩,⟨y,h.2⟩,1⟩else⟨0,0,0⟩)else⟨0,0,0⟩
theorem P1(hx:x<R)(hy:y<R)(w:World)(ha:At w b pp)(hL:Laid w):CGy 61 #[FV b,PT x y] w (TF (FE x y)):=by
 have hon:=fun(w':World) (hw:Gw w w')=>KF hx hy w' (ha.gw hw) (hL.gw hw)
 by_cases h:x<pp∧y<pp
 ·by_cases h2:onF ⟨x,h.1⟩ ⟨y,h.2⟩=true
  ·have e:onB x y=true:=(dif_pos h).trans h2
   rw[e]at hon;rw[show FE x y=⟨⟨x,h.1⟩,⟨y,h.2⟩,1⟩ from(dif_pos h).trans (if_pos h2)];exact kF ⟨x,h.1⟩ ⟨y,h.2⟩ w hon
  ·have e:onB x y=false:=(dif_pos h).trans (by simpa using h2)
   rw[e]at hon;rw[show FE x y=⟨0,0,0⟩ from(dif_pos h).trans (if_neg h2)];exact VT w hon
 ·have e:onB x y=false:=dif_neg h
  rw[e]at hon;rw[show FE x y=⟨0,0,0⟩ from dif_neg h];exact VT w hon
theorem Iq(x y:Nat):(FE x y).rep=toP x y:=by
 unfold FE toP;split
 ·split
  ·exact TollEc.rep_one _ _
  ·exact TollEc.rep_inf rfl
 ·exact TollEc.rep_inf rfl
theorem Ll(x y:Nat):(toP x y).on:=by
 unfold toP;split
 ·split
  ·rename_i h;exact MS.1 h
  ·exact True.intro
 ·exact True.intro
def xv:Pt→Nat
 | .inf=>0
 | .aff x _=>x.val
def yv:Pt→Nat
 | .inf=>0
 | .aff _ y=>y.val
def PV(p:Pt):Value:=PT (xv p) (yv p)
theorem F3(p:Pt):xv p<R:=by cases p with|inf=>decide|aff x y=>exact C4 x
theorem LZ(p:Pt):yv p<R:=by cases p with|inf=>decide|aff x y=>exact C4 y
theorem OX{p:Pt}(h:p.on):toP (xv p) (yv p)=p:=by
 cases p with
 |inf=>
  have:onF ⟨0,by decide⟩ ⟨0,by decide⟩=false:=by decide+kernel
  exact(dif_pos ⟨by decide,by decide⟩).trans (if_neg (fun c=>Bool.false_ne_true (this.symm.trans c)))
 |aff x y=>exact(dif_pos ⟨x.isLt,y.isLt⟩).trans (if_pos (MS.2 h))
theorem Xn(j:Jp)(w:World)(ha:At w b pp):CGy 65 #[FV b,TF j] w (PV j.rep):=by
 obtain⟨x,y,z⟩:=j;by_cases h:z=0
 ·subst h
  rw[TollEc.rep_inf rfl];exact o9 x y w ha
 ·obtain⟨i,hi⟩:=TollEc.inv_ex z h
  rw[TollEc.rep_of (j:=⟨x,y,z⟩) hi];exact pA x y z i _ _ _ _ w ha hi rfl rfl rfl rfl
theorem oi(hx:x=0)(hy:y=0):BOy .eql 87 (PT x y) (.agg #[.int .u8 0,.int .u8 0,.int .u8 0,.int .u8 0,.int .u8 0,.int .u8 0,.int .u8 0,.int .u8 0,.int .u8 0,.int .u8 0,.int .u8 0,.int .u8 0,.int .u8 0,.int .u8 0,.int .u8 0,.int .u8 0,.int .u8 0,.int .u8 0,.int .u8 0,.int .u8 0,.int .u8 0,.int .u8 0,.int .u8 0,.int .u8 0,.int .u8 0,.int .u8 0,.int .u8 0,.int .u8 0,.int .u8 0,.int .u8 0,.int .u8 0,.int .u8 0,.int .u8 0,.int .u8 0,.int .u8 0,.int .u8 0,.int .u8 0,.int .u8 0,.int .u8 0,.int .u8 0,.int .u8 0,.int .u8 0,.int .u8 0,.int .u8 0,.int .u8 0,.int .u8 0,.int .u8 0,.int .u8 0,.int .u8 0,.int .u8 0,.int .u8 0,.int .u8 0,.int .u8 0,.int .u8 0,.int .u8 0,.int .u8 0,.int .u8 0,.int .u8 0,.int .u8 0,.int .u8 0,.int .u8 0,.int .u8 0,.int .u8 0,.int .u8 0]) (.bool true):=by
 intro p q w
 subst hx hy;have:=XW (x:=0) (y:=0) (x':=0) (y':=0) (by decide) (by decide) (by decide) (by decide) p q w;exact this
theorem oh(hx:x<R)(hy:y<R)(h: ¬(x=0∧y=0)):BOy .eql 87 (PT x y) (.agg #[.int .u8 0,.int .u8 0,.int .u8 0,.int .u8 0,.int .u8 0,.int .u8 0,.int .u8 0,.int .u8 0,.int .u8 0,.int .u8 0,.int .u8 0,.int .u8 0,.int .u8 0,.int .u8 0,.int .u8 0,.int .u8 0,.int .u8 0,.int .u8 0,.int .u8 0,.int .u8 0,.int .u8 0,.int .u8 0,.int .u8 0,.int .u8 0,.int .u8 0,.int .u8 0,.int .u8 0,.int .u8 0,.int .u8 0,.int .u8 0,.int .u8 0,.int .u8 0,.int .u8 0,.int .u8 0,.int .u8 0,.int .u8 0,.int .u8 0,.int .u8 0,.int .u8 0,.int .u8 0,.int .u8 0,.int .u8 0,.int .u8 0,.int .u8 0,.int .u8 0,.int .u8 0,.int .u8 0,.int .u8 0,.int .u8 0,.int .u8 0,.int .u8 0,.int .u8 0,.int .u8 0,.int .u8 0,.int .u8 0,.int .u8 0,.int .u8 0,.int .u8 0,.int .u8 0,.int .u8 0,.int .u8 0,.int .u8 0,.int .u8 0,.int .u8 0]) (.bool false):=by
 intro p q w
 have:=XW (x':=0) (y':=0) hx hy (by decide) (by decide) p q w;rw[decide_eq_false h]at this;exact this
theorem Yp(hk:k<256)(w:World):CGy 63 #[N n,.int .i64 (((k+1:Nat):Int)-1)] w (.int .i64 (n/2^k %2:Nat)):=by
 rw[show((k+1:Nat):Int)-1=(k:Int) by omega];exact rU n k hk w
theorem kf{t r:Jp}(hk:k<256)(hb:n/2^k %2=1)(hr:r=TollEc.ladder n t (256-(k+1))):Cz (CX r) t=TollEc.ladder n t (256-k):=by
 rw[hr,show 256-k=(256-(k+1))+1 by omega];show _=(if n/2^(255-(256-(k+1))) %2=1 then _ else _)
 rw[show 255-(256-(k+1))=k by omega,if_pos hb]
theorem kg{t r:Jp}(hk:k<256)(hb: ¬n/2^k %2=1)(hr:r=TollEc.ladder n t (256-(k+1))):CX r=TollEc.ladder n t (256-k):=by
 rw[hr,show 256-k=(256-(k+1))+1 by omega];show _=(if n/2^(255-(256-(k+1))) %2=1 then _ else _)
 rw[show 255-(256-(k+1))=k by omega,if_neg hb]
theorem vD(hx:x<R)(hy:y<R)(hx':x'<R)(hy':y'<R)(w:World)(hL:Laid w):CGy 99 #[PT x y,PT x' y'] w (PV (Cz (FE x y) (FE x' y')).rep):=by
 go_enter func99,ntmps99
 refine EY ?_
 refine Jh ?_
 refine AV (by exact NT rfl rfl gg rfl (eo func59) (Cc pp) 150 (fun w' hw'=>PX w' (hL.gw hw'))) ?_;refine AV (by exact Bq rfl rfl gg zeroValue133) ?_;refine AV (by exact Qj rfl gg rfl rfl rfl sizeOf133 (by simp)) ?_;iterate 3 refine t_k ?_
 iterate 3 refine G8 ?_
 refine Jq ?_;refine AV (by exact Aj [6] rfl gg rfl (eo func61) (fun ρ w' hs=>P1 hx hy w' (Fz hs (by simp) rfl) (hL.gw hs.1))) ?_;refine G8 ?_;refine Jq ?_;refine AV (by exact Aj [6] rfl gg rfl (eo func61) (fun ρ w' hs=>P1 hx' hy' w' (Fz hs (by simp) rfl) (hL.gw hs.1))) ?_;refine AV (by exact Aj [6] rfl gg rfl (eo func64) (fun ρ w' hs=>ZF _ _ w' (Fz hs (by simp) rfl))) ?_;refine AV (by exact Aj [6] rfl gg rfl (eo func65) (fun ρ w' hs=>Xn _ w' (Fz hs (by simp) rfl))) ?_;refine Jn ?_;refine EF ?_;refine AD (AM results99 (Ad rfl rfl underlying87 rfl sizeOf87 rfl rfl)) ?_;intro w' hg;exact⟨rfl,hg⟩
theorem uR(hn:n<R)(hx:x<R)(hy:y<R)(w:World)(hL:Laid w):CGy 32 #[B32 n,PT x y] w (PV (TollEc.ladder n (FE x y) 256).rep):=by
 go_enter func32,ntmps32
 refine EY ?_
 refine Jh ?_
 refine AV (by exact NT rfl rfl gg rfl (eo func59) (Cc pp) 150 (fun w' hw'=>PX w' (hL.gw hw'))) ?_;refine AV (by exact Bq rfl rfl gg zeroValue133) ?_;refine AV (by exact Qj rfl gg rfl rfl rfl sizeOf133 (by simp)) ?_;iterate 3 refine t_k ?_
 refine FX ?_;refine AV (by exact AS rfl gg rfl (eo func41) (fun w' hw'=>ofN n hn w')) ?_;refine G8 ?_;refine Jq ?_;refine AV (by exact Aj [10] rfl gg rfl (eo func61) (fun ρ w' hs=>P1 hx hy w' (Fz hs (by simp) rfl) (hL.gw hs.1))) ?_;refine CU ?_;refine Lz ?_;refine GF ?_;refine Jr ?_;iterate 3 refine t_k ?_
 refine Lz ?_;iterate 7 refine BC ?_
 obtain⟨t,ht⟩: ∃t,t=FE x y:=⟨_,rfl⟩
 rw[←ht];refine Lf (fun i s=> ∃(r:Jp),i≤256∧r=TollEc.ladder n t (256-i)∧s.fr=[.v (B32 n),.v (PT x y),.p 2 0,.p 3 0,.p 4 0,.p 5 0,.p 6 0,.p 7 0,.p 8 0,.v (.int .i64 ((i:Int)-1)),.ap 10 0,s.fr.getD 11 default,s.fr.getD 12 default,s.fr.getD 13 default,s.fr.getD 14 default,s.fr.getD 15 default,s.fr.getD 16 default,s.fr.getD 17 default,s.fr.getD 18 default,s.fr.getD 19 default,s.fr.getD 20 default,s.fr.getD 21 default,s.fr.getD 22 default,s.fr.getD 23 default,s.fr.getD 24 default,s.fr.getD 25 default,s.fr.getD 26 default,s.fr.getD 27 default,s.fr.getD 28 default,s.fr.getD 29 default,s.fr.getD 30 default,s.fr.getD 31 default,s.fr.getD 32 default,s.fr.getD 33 default]∧s.mem=AK [(8,([.v (.int .u64 (lv r.x 0:Nat)),.v (.int .u64 (lv r.x 1:Nat)),.v (.int .u64 (lv r.x 2:Nat)),.v (.int .u64 (lv r.x 3:Nat)),.v (.int .u64 (lv r.y 0:Nat)),.v (.int .u64 (lv r.y 1:Nat)),.v (.int .u64 (lv r.y 2:Nat)),.v (.int .u64 (lv r.y 3:Nat)),.v (.int .u64 (lv r.z 0:Nat)),.v (.int .u64 (lv r.z 1:Nat)),.v (.int .u64 (lv r.z 2:Nat)),.v (.int .u64 (lv r.z 3:Nat))],137)),(7,([.v (.int .u64 (lv t.x 0:Nat)),.v (.int .u64 (lv t.x 1:Nat)),.v (.int .u64 (lv t.x 2:Nat)),.v (.int .u64 (lv t.x 3:Nat)),.v (.int .u64 (lv t.y 0:Nat)),.v (.int .u64 (lv t.y 1:Nat)),.v (.int .u64 (lv t.y 2:Nat)),.v (.int .u64 (lv t.y 3:Nat)),.v (.int .u64 (lv t.z 0:Nat)),.v (.int .u64 (lv t.z 1:Nat)),.v (.int .u64 (lv t.z 2:Nat)),.v (.int .u64 (lv t.z 3:Nat))],137)),(6,([.v (.int .u64 (lim n 0:Nat)),.v (.int .u64 (lim n 1:Nat)),.v (.int .u64 (lim n 2:Nat)),.v (.int .u64 (lim n 3:Nat))],96)),(5,([.p 10 0],133)),(10,((Cc pp).map SV.v,150)),(4,([.v (.int .u8 0),.v (.int .u8 0),.v (.int .u8 0),.v (.int .u8 0),.v (.int .u8 0),.v (.int .u8 0),.v (.int .u8 0),.v (.int .u8 0),.v (.int .u8 0),.v (.int .u8 0),.v (.int .u8 0),.v (.int .u8 0),.v (.int .u8 0),.v (.int .u8 0),.v (.int .u8 0),.v (.int .u8 0),.v (.int .u8 0),.v (.int .u8 0),.v (.int .u8 0),.v (.int .u8 0),.v (.int .u8 0),.v (.int .u8 0),.v (.int .u8 0),.v (.int .u8 0),.v (.int .u8 0),.v (.int .u8 0),.v (.int .u8 0),.v (.int .u8 0),.v (.int .u8 0),.v (.int .u8 0),.v (.int .u8 0),.v (.int .u8 0),.v (.int .u8 0),.v (.int .u8 0),.v (.int .u8 0),.v (.int .u8 0),.v (.int .u8 0),.v (.int .u8 0),.v (.int .u8 0),.v (.int .u8 0),.v (.int .u8 0),.v (.int .u8 0),.v (.int .u8 0),.v (.int .u8 0),.v (.int .u8 0),.v (.int .u8 0),.v (.int .u8 0),.v (.int .u8 0),.v (.int .u8 0),.v (.int .u8 0),.v (.int .u8 0),.v (.int .u8 0),.v (.int .u8 0),.v (.int .u8 0),.v (.int .u8 0),.v (.int .u8 0),.v (.int .u8 0),.v (.int .u8 0),.v (.int .u8 0),.v (.int .u8 0),.v (.int .u8 0),.v (.int .u8 0),.v (.int .u8 0),.v (.int .u8 0)],87)),(3,([.v (.int .u8 (byt x 0:Nat)),.v (.int .u8 (byt x 1:Nat)),.v (.int .u8 (byt x 2:Nat)),.v (.int .u8 (byt x 3:Nat)),.v (.int .u8 (byt x 4:Nat)),.v (.int .u8 (byt x 5:Nat)),.v (.int .u8 (byt x 6:Nat)),.v (.int .u8 (byt x 7:Nat)),.v (.int .u8 (byt x 8:Nat)),.v (.int .u8 (byt x 9:Nat)),.v (.int .u8 (byt x 10:Nat)),.v (.int .u8 (byt x 11:Nat)),.v (.int .u8 (byt x 12:Nat)),.v (.int .u8 (byt x 13:Nat)),.v (.int .u8 (byt x 14:Nat)),.v (.int .u8 (byt x 15:Nat)),.v (.int .u8 (byt x 16:Nat)),.v (.int .u8 (byt x 17:Nat)),.v (.int .u8 (byt x 18:Nat)),.v (.int .u8 (byt x 19:Nat)),.v (.int .u8 (byt x 20:Nat)),.v (.int .u8 (byt x 21:Nat)),.v (.int .u8 (byt x 22:Nat)),.v (.int .u8 (byt x 23:Nat)),.v (.int .u8 (byt x 24:Nat)),.v (.int .u8 (byt x 25:Nat)),.v (.int .u8 (byt x 26:Nat)),.v (.int .u8 (byt x 27:Nat)),.v (.int .u8 (byt x 28:Nat)),.v (.int .u8 (byt x 29:Nat)),.v (.int .u8 (byt x 30:Nat)),.v (.int .u8 (byt x 31:Nat)),.v (.int .u8 (byt y 0:Nat)),.v (.int .u8 (byt y 1:Nat)),.v (.int .u8 (byt y 2:Nat)),.v (.int .u8 (byt y 3:Nat)),.v (.int .u8 (byt y 4:Nat)),.v (.int .u8 (byt y 5:Nat)),.v (.int .u8 (byt y 6:Nat)),.v (.int .u8 (byt y 7:Nat)),.v (.int .u8 (byt y 8:Nat)),.v (.int .u8 (byt y 9:Nat)),.v (.int .u8 (byt y 10:Nat)),.v (.int .u8 (byt y 11:Nat)),.v (.int .u8 (byt y 12:Nat)),.v (.int .u8 (byt y 13:Nat)),.v (.int .u8 (byt y 14:Nat)),.v (.int .u8 (byt y 15:Nat)),.v (.int .u8 (byt y 16:Nat)),.v (.int .u8 (byt y 17:Nat)),.v (.int .u8 (byt y 18:Nat)),.v (.int .u8 (byt y 19:Nat)),.v (.int .u8 (byt y 20:Nat)),.v (.int .u8 (byt y 21:Nat)),.v (.int .u8 (byt y 22:Nat)),.v (.int .u8 (byt y 23:Nat)),.v (.int .u8 (byt y 24:Nat)),.v (.int .u8 (byt y 25:Nat)),.v (.int .u8 (byt y 26:Nat)),.v (.int .u8 (byt y 27:Nat)),.v (.int .u8 (byt y 28:Nat)),.v (.int .u8 (byt y 29:Nat)),.v (.int .u8 (byt y 30:Nat)),.v (.int .u8 (byt y 31:Nat))],87)),(2,([.v (.int .u8 (byt n 0:Nat)),.v (.int .u8 (byt n 1:Nat)),.v (.int .u8 (byt n 2:Nat)),.v (.int .u8 (byt n 3:Nat)),.v (.int .u8 (byt n 4:Nat)),.v (.int .u8 (byt n 5:Nat)),.v (.int .u8 (byt n 6:Nat)),.v (.int .u8 (byt n 7:Nat)),.v (.int .u8 (byt n 8:Nat)),.v (.int .u8 (byt n 9:Nat)),.v (.int .u8 (byt n 10:Nat)),.v (.int .u8 (byt n 11:Nat)),.v (.int .u8 (byt n 12:Nat)),.v (.int .u8 (byt n 13:Nat)),.v (.int .u8 (byt n 14:Nat)),.v (.int .u8 (byt n 15:Nat)),.v (.int .u8 (byt n 16:Nat)),.v (.int .u8 (byt n 17:Nat)),.v (.int .u8 (byt n 18:Nat)),.v (.int .u8 (byt n 19:Nat)),.v (.int .u8 (byt n 20:Nat)),.v (.int .u8 (byt n 21:Nat)),.v (.int .u8 (byt n 22:Nat)),.v (.int .u8 (byt n 23:Nat)),.v (.int .u8 (byt n 24:Nat)),.v (.int .u8 (byt n 25:Nat)),.v (.int .u8 (byt n 26:Nat)),.v (.int .u8 (byt n 27:Nat)),.v (.int .u8 (byt n 28:Nat)),.v (.int .u8 (byt n 29:Nat)),.v (.int .u8 (byt n 30:Nat)),.v (.int .u8 (byt n 31:Nat))],46))]) ?_ 256 ?_;rotate_left
 ·exact⟨⟨0,0,0⟩,Nat.le_refl _,rfl,rfl,rfl⟩
 rintro i ⟨fr,mm⟩ ⟨r,hi,hr,hfr,hmm⟩;obtain⟨f,hf⟩: ∃f:Nat→SV,fr=[.v (B32 n),.v (PT x y),.p 2 0,.p 3 0,.p 4 0,.p 5 0,.p 6 0,.p 7 0,.p 8 0,.v (.int .i64 ((i:Int)-1)),.ap 10 0,f 11,f 12,f 13,f 14,f 15,f 16,f 17,f 18,f 19,f 20,f 21,f 22,f 23,f 24,f 25,f 26,f 27,f 28,f 29,f 30,f 31,f 32,f 33]:=⟨fun i=>fr.getD i default,hfr⟩
 clear hfr;simp only at hmm;subst hf hmm;cases i with
 |succ k=>
  have hk:k<256:=by omega
  have hdn:IntKind.i64.wrap (((k+1:Nat):Int)-1-1)=(k:Int)-1:=by rw[Af (by omega) (by omega)];omega
  have hge:decide ((0:Int)≤((k+1:Nat):Int)-1)=true:=decide_eq_true (by omega);by_cases hb:n/2^k %2=1
  ·have he:decide (((n/2^k %2:Nat):Int)=1)=true:=decide_eq_true (by omega)
   iterate 4 refine BC ?_
   refine AV (by exact Dh (p:=true) rfl gg rfl rfl hge) ?_;iterate 7 refine t_k ?_
   refine G8 ?_;refine G9 ?_;refine AV (by exact Aj [10] rfl gg rfl (eo func62) (fun ρ w' hs=>Qt _ w' (Fz hs (by simp) rfl))) ?_;refine Jr ?_;iterate 3 refine t_k ?_
   refine t_0 ?_;refine BC ?_;refine AV (by exact AS rfl gg rfl (eo func63) (fun w' hw'=>Yp hk w')) ?_;refine AV (by exact Ax (p:=true) rfl gg rfl rfl he) ?_;iterate 3 refine t_k ?_
   refine G8 ?_;iterate 2 refine G9 ?_
   refine AV (by exact Aj [10] rfl gg rfl (eo func64) (fun ρ w' hs=>ZF _ _ w' (Fz hs (by simp) rfl))) ?_;refine Jr ?_;iterate 3 refine BC ?_
   refine AV (by exact CF rfl gg rfl rfl hdn) ?_;iterate 2 refine BC ?_
   exact⟨k,by omega,_,by omega,kf hk hb hr,rfl,rfl⟩
  ·have he:decide (((n/2^k %2:Nat):Int)=1)=false:=decide_eq_false (by omega)
   iterate 4 refine BC ?_
   refine AV (by exact Dh (p:=true) rfl gg rfl rfl hge) ?_;iterate 7 refine t_k ?_
   refine G8 ?_;refine G9 ?_;refine AV (by exact Aj [10] rfl gg rfl (eo func62) (fun ρ w' hs=>Qt _ w' (Fz hs (by simp) rfl))) ?_;refine Jr ?_;iterate 3 refine t_k ?_
   refine t_0 ?_;refine BC ?_;refine AV (by exact AS rfl gg rfl (eo func63) (fun w' hw'=>Yp hk w')) ?_;refine AV (by exact Ax (p:=false) rfl gg rfl rfl he) ?_;iterate 5 refine BC ?_
   refine AV (by exact CF rfl gg rfl rfl hdn) ?_;iterate 2 refine BC ?_
   exact⟨k,by omega,_,by omega,kg hk hb hr,rfl,rfl⟩
 |zero=>
  iterate 4 refine BC ?_
  refine AV (by exact Dh (p:=false) rfl gg rfl rfl (by decide)) ?_;iterate 2 refine t_k ?_
  refine Aq ?_;change VOk _ _ _ _ _;refine Ci ?_
  refine G8 ?_;refine G9 ?_;refine AV (by exact Aj [10] rfl gg rfl (eo func65) (fun ρ w' hs=>Xn _ w' (Fz hs (by simp) rfl))) ?_;refine Jn ?_;refine EF ?_;refine AD (AM results32 (Ad rfl rfl underlying87 rfl sizeOf87 rfl rfl)) ?_;intro w' hg;exact⟨by rw[hr,ht];exact rfl,hg⟩
end Go.Proofs.YtefpajmkaaielaaGreatDoor
