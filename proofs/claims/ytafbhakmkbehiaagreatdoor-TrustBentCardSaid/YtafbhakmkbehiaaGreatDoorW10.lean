import Derived.Test.YtafbhakmkbehiaaGreatDoorW8
open Go.Proofs.Tryz
set_option maxHeartbeats 4000000
set_option maxRecDepth 100000
namespace Go.Proofs.YtafbhakmkbehiaaGreatDoor
open Go.RowKit Go.Toll
variable(w:World){rd:List Nat}{b k n x x' y y':Nat}{ρ:Nat->Nat}
section
abbrev Gf:Value:=.agg #[.int .u8 0,.int .u8 0,.int .u8 0,.int .u8 0,.int .u8 0,.int .u8 0,.int .u8 0,.int .u8 0,.int .u8 0,.int .u8 0,.int .u8 0,.int .u8 0,.int .u8 0,.int .u8 0,.int .u8 0,.int .u8 0,.int .u8 0,.int .u8 0,.int .u8 0,.int .u8 0,.int .u8 0,.int .u8 0,.int .u8 0,.int .u8 0,.int .u8 0,.int .u8 0,.int .u8 0,.int .u8 0,.int .u8 0,.int .u8 0,.int .u8 0,.int .u8 0,.int .u8 0,.int .u8 0,.int .u8 0,.int .u8 0,.int .u8 0,.int .u8 0,.int .u8 0,.int .u8 0,.int .u8 0,.int .u8 0,.int .u8 0,.int .u8 0,.int .u8 0,.int .u8 0,.int .u8 0,.int .u8 0,.int .u8 0,.int .u8 0,.int .u8 0,.int .u8 0,.int .u8 0,.int .u8 0,.int .u8 0,.int .u8 0,.int .u8 0,.int .u8 0,.int .u8 0,.int .u8 0,.int .u8 0,.int .u8 0,.int .u8 0,.int .u8 0]
open Go.RowKit Go.Toll TollMont
open TollEc (F pp cb Jp Pt)
def lv(x:F)(i:Nat):Nat:=lim x.val i
def NF(x:F):Value:=.agg #[.int .u64 (lv x 0:Nat),.int .u64 (lv x 1:Nat),.int .u64 (lv x 2:Nat),.int .u64 (lv x 3:Nat)]
def TF(j:Jp):Value:=.agg #[.int .u64 (lv j.x 0:Nat),.int .u64 (lv j.x 1:Nat),.int .u64 (lv j.x 2:Nat),.int .u64 (lv j.x 3:Nat),.int .u64 (lv j.y 0:Nat),.int .u64 (lv j.y 1:Nat),.int .u64 (lv j.y 2:Nat),.int .u64 (lv j.y 3:Nat),.int .u64 (lv j.z 0:Nat),.int .u64 (lv j.z 1:Nat),.int .u64 (lv j.z 2:Nat),.int .u64 (lv j.z 3:Nat)]
def byt(n i:Nat):Nat:=lim n (3-i/8)/2^(56-8*(i %8)) %256
def B32(n:Nat):Value:=.agg #[.int .u8 (byt n 0:Nat),.int .u8 (byt n 1:Nat),.int .u8 (byt n 2:Nat),.int .u8 (byt n 3:Nat),.int .u8 (byt n 4:Nat),.int .u8 (byt n 5:Nat),.int .u8 (byt n 6:Nat),.int .u8 (byt n 7:Nat),.int .u8 (byt n 8:Nat),.int .u8 (byt n 9:Nat),.int .u8 (byt n 10:Nat),.int .u8 (byt n 11:Nat),.int .u8 (byt n 12:Nat),.int .u8 (byt n 13:Nat),.int .u8 (byt n 14:Nat),.int .u8 (byt n 15:Nat),.int .u8 (byt n 16:Nat),.int .u8 (byt n 17:Nat),.int .u8 (byt n 18:Nat),.int .u8 (byt n 19:Nat),.int .u8 (byt n 20:Nat),.int .u8 (byt n 21:Nat),.int .u8 (byt n 22:Nat),.int .u8 (byt n 23:Nat),.int .u8 (byt n 24:Nat),.int .u8 (byt n 25:Nat),.int .u8 (byt n 26:Nat),.int .u8 (byt n 27:Nat),.int .u8 (byt n 28:Nat),.int .u8 (byt n 29:Nat),.int .u8 (byt n 30:Nat),.int .u8 (byt n 31:Nat)]
def PT(x y:Nat):Value:=.agg #[.int .u8 (byt x 0:Nat),.int .u8 (byt x 1:Nat),.int .u8 (byt x 2:Nat),.int .u8 (byt x 3:Nat),.int .u8 (byt x 4:Nat),.int .u8 (byt x 5:Nat),.int .u8 (byt x 6:Nat),.int .u8 (byt x 7:Nat),.int .u8 (byt x 8:Nat),.int .u8 (byt x 9:Nat),.int .u8 (byt x 10:Nat),.int .u8 (byt x 11:Nat),.int .u8 (byt x 12:Nat),.int .u8 (byt x 13:Nat),.int .u8 (byt x 14:Nat),.int .u8 (byt x 15:Nat),.int .u8 (byt x 16:Nat),.int .u8 (byt x 17:Nat),.int .u8 (byt x 18:Nat),.int .u8 (byt x 19:Nat),.int .u8 (byt x 20:Nat),.int .u8 (byt x 21:Nat),.int .u8 (byt x 22:Nat),.int .u8 (byt x 23:Nat),.int .u8 (byt x 24:Nat),.int .u8 (byt x 25:Nat),.int .u8 (byt x 26:Nat),.int .u8 (byt x 27:Nat),.int .u8 (byt x 28:Nat),.int .u8 (byt x 29:Nat),.int .u8 (byt x 30:Nat),.int .u8 (byt x 31:Nat),.int .u8 (byt y 0:Nat),.int .u8 (byt y 1:Nat),.int .u8 (byt y 2:Nat),.int .u8 (byt y 3:Nat),.int .u8 (byt y 4:Nat),.int .u8 (byt y 5:Nat),.int .u8 (byt y 6:Nat),.int .u8 (byt y 7:Nat),.int .u8 (byt y 8:Nat),.int .u8 (byt y 9:Nat),.int .u8 (byt y 10:Nat),.int .u8 (byt y 11:Nat),.int .u8 (byt y 12:Nat),.int .u8 (byt y 13:Nat),.int .u8 (byt y 14:Nat),.int .u8 (byt y 15:Nat),.int .u8 (byt y 16:Nat),.int .u8 (byt y 17:Nat),.int .u8 (byt y 18:Nat),.int .u8 (byt y 19:Nat),.int .u8 (byt y 20:Nat),.int .u8 (byt y 21:Nat),.int .u8 (byt y 22:Nat),.int .u8 (byt y 23:Nat),.int .u8 (byt y 24:Nat),.int .u8 (byt y 25:Nat),.int .u8 (byt y 26:Nat),.int .u8 (byt y 27:Nat),.int .u8 (byt y 28:Nat),.int .u8 (byt y 29:Nat),.int .u8 (byt y 30:Nat),.int .u8 (byt y 31:Nat)]
def FV(b:Nat):Value:=.agg #[.pointer (some ⟨b,0,none⟩)]
theorem nNF(x:F):Value.cells (NF x)=#[.int .u64 (lv x 0:Nat),.int .u64 (lv x 1:Nat),.int .u64 (lv x 2:Nat),.int .u64 (lv x 3:Nat)]:=rfl
theorem nTF(j:Jp):Value.cells (TF j)=#[.int .u64 (lv j.x 0:Nat),.int .u64 (lv j.x 1:Nat),.int .u64 (lv j.x 2:Nat),.int .u64 (lv j.x 3:Nat),.int .u64 (lv j.y 0:Nat),.int .u64 (lv j.y 1:Nat),.int .u64 (lv j.y 2:Nat),.int .u64 (lv j.y 3:Nat),.int .u64 (lv j.z 0:Nat),.int .u64 (lv j.z 1:Nat),.int .u64 (lv j.z 2:Nat),.int .u64 (lv j.z 3:Nat)]:=rfl
theorem PN(n:Nat):Value.cells (B32 n)=#[.int .u8 (byt n 0:Nat),.int .u8 (byt n 1:Nat),.int .u8 (byt n 2:Nat),.int .u8 (byt n 3:Nat),.int .u8 (byt n 4:Nat),.int .u8 (byt n 5:Nat),.int .u8 (byt n 6:Nat),.int .u8 (byt n 7:Nat),.int .u8 (byt n 8:Nat),.int .u8 (byt n 9:Nat),.int .u8 (byt n 10:Nat),.int .u8 (byt n 11:Nat),.int .u8 (byt n 12:Nat),.int .u8 (byt n 13:Nat),.int .u8 (byt n 14:Nat),.int .u8 (byt n 15:Nat),.int .u8 (byt n 16:Nat),.int .u8 (byt n 17:Nat),.int .u8 (byt n 18:Nat),.int .u8 (byt n 19:Nat),.int .u8 (byt n 20:Nat),.int .u8 (byt n 21:Nat),.int .u8 (byt n 22:Nat),.int .u8 (byt n 23:Nat),.int .u8 (byt n 24:Nat),.int .u8 (byt n 25:Nat),.int .u8 (byt n 26:Nat),.int .u8 (byt n 27:Nat),.int .u8 (byt n 28:Nat),.int .u8 (byt n 29:Nat),.int .u8 (byt n 30:Nat),.int .u8 (byt n 31:Nat)]:=rfl
theorem nPT(x y:Nat):Value.cells (PT x y)=#[.int .u8 (byt x 0:Nat),.int .u8 (byt x 1:Nat),.int .u8 (byt x 2:Nat),.int .u8 (byt x 3:Nat),.int .u8 (byt x 4:Nat),.int .u8 (byt x 5:Nat),.int .u8 (byt x 6:Nat),.int .u8 (byt x 7:Nat),.int .u8 (byt x 8:Nat),.int .u8 (byt x 9:Nat),.int .u8 (byt x 10:Nat),.int .u8 (byt x 11:Nat),.int .u8 (byt x 12:Nat),.int .u8 (byt x 13:Nat),.int .u8 (byt x 14:Nat),.int .u8 (byt x 15:Nat),.int .u8 (byt x 16:Nat),.int .u8 (byt x 17:Nat),.int .u8 (byt x 18:Nat),.int .u8 (byt x 19:Nat),.int .u8 (byt x 20:Nat),.int .u8 (byt x 21:Nat),.int .u8 (byt x 22:Nat),.int .u8 (byt x 23:Nat),.int .u8 (byt x 24:Nat),.int .u8 (byt x 25:Nat),.int .u8 (byt x 26:Nat),.int .u8 (byt x 27:Nat),.int .u8 (byt x 28:Nat),.int .u8 (byt x 29:Nat),.int .u8 (byt x 30:Nat),.int .u8 (byt x 31:Nat),.int .u8 (byt y 0:Nat),.int .u8 (byt y 1:Nat),.int .u8 (byt y 2:Nat),.int .u8 (byt y 3:Nat),.int .u8 (byt y 4:Nat),.int .u8 (byt y 5:Nat),.int .u8 (byt y 6:Nat),.int .u8 (byt y 7:Nat),.int .u8 (byt y 8:Nat),.int .u8 (byt y 9:Nat),.int .u8 (byt y 10:Nat),.int .u8 (byt y 11:Nat),.int .u8 (byt y 12:Nat),.int .u8 (byt y 13:Nat),.int .u8 (byt y 14:Nat),.int .u8 (byt y 15:Nat),.int .u8 (byt y 16:Nat),.int .u8 (byt y 17:Nat),.int .u8 (byt y 18:Nat),.int .u8 (byt y 19:Nat),.int .u8 (byt y 20:Nat),.int .u8 (byt y 21:Nat),.int .u8 (byt y 22:Nat),.int .u8 (byt y 23:Nat),.int .u8 (byt y 24:Nat),.int .u8 (byt y 25:Nat),.int .u8 (byt y 26:Nat),.int .u8 (byt y 27:Nat),.int .u8 (byt y 28:Nat),.int .u8 (byt y 29:Nat),.int .u8 (byt y 30:Nat),.int .u8 (byt y 31:Nat)]:=rfl
theorem nFV(b:Nat):Value.cells (FV b)=#[.pointer (some ⟨b,0,none⟩)]:=rfl
theorem nN(n:Nat):Value.cells (N n)=#[.int .u64 (lim n 0:Nat),.int .u64 (lim n 1:Nat),.int .u64 (lim n 2:Nat),.int .u64 (lim n 3:Nat)]:=rfl
theorem nm2:type_of%nm/\type_of%nNF/\type_of%nTF/\type_of%PN/\type_of%nPT/\type_of%nFV/\type_of%nN:=⟨nm,nNF,nTF,PN,nPT,nFV,nN⟩
theorem mdp:Md pp:=⟨by decide,by decide,by decide⟩
theorem B7(x:F):x.val<R:=Nat.lt_trans x.isLt (by decide)
variable{b:Nat}
theorem Yf(x y:F)(w:World)(a:At w b pp):CGy 83 #[ptr b,NF x,NF y] w (NF (x*y)):=
 Yd mdp (B7 x) (B7 y) w a
theorem Ug(x y:F)(w:World)(a:At w b pp):CGy 106 #[ptr b,NF x,NF y] w (NF (x+y)):=
 Yn mdp (B7 x) (B7 y) w a
theorem Vi(x y:F):(x-y).val=Ce pp x.val y.val:=by
 have a:=x.isLt;have c:=y.isLt;rw[Fin.sub_def];unfold Ce;rw[yP a,yP c];show(pp-y.val+x.val) %pp=_;congr 1;omega
theorem Vk(x y:F)(w:World)(a:At w b pp):CGy 130 #[ptr b,NF x,NF y] w (NF (x-y)):=by
 have:=Ss mdp (B7 x) (B7 y) w a;rw[<-Vi]at this;exact this
theorem Yv(n:Nat)(a:n<R)(w:World):CGy 124 #[N n,N pp] w (.bool (decide (n<pp))):=
 S7 n pp a (by decide) w
theorem zeq(x:F):BOy .eql 147 (NF x) (.agg #[.int .u64 0,.int .u64 0,.int .u64 0,.int .u64 0]) (.bool (decide (x=0))):=by
 intro p q w
 have:=NX 147 (.inl rfl) (lv x 0) (lv x 1) (lv x 2) (lv x 3) 0 0 0 0 p q w;have e:decide (lv x 0=0/\lv x 1=0/\lv x 2=0/\lv x 3=0)=decide (x=0):=zM.2 ((Zt (B7 x)).trans ⟨λh=>Fin.ext h,λh=>by rw[h];rfl⟩);rw[e]at this;exact this
theorem Ie{x:F}(h:x=0):BOy .eql 147 (NF x) (.agg #[.int .u64 0,.int .u64 0,.int .u64 0,.int .u64 0]) (.bool true):=by
 intro p q w
 have:=zeq x p q w;rw[yE h]at this;exact this
theorem Ig{x:F}(h:x≠0):BOy .eql 147 (NF x) (.agg #[.int .u64 0,.int .u64 0,.int .u64 0,.int .u64 0]) (.bool false):=by
 intro p q w
 have:=zeq x p q w;rw[yB h]at this;exact this
theorem eqF(x y:F):BOy .eql 147 (NF x) (NF y) (.bool (decide (x=y))):=by
 intro p q w
 have:=NX 147 (.inl rfl) (lv x 0) (lv x 1) (lv x 2) (lv x 3) (lv y 0) (lv y 1) (lv y 2) (lv y 3) p q w;have e:decide (lv x 0=lv y 0/\lv x 1=lv y 1/\lv x 2=lv y 2/\lv x 3=lv y 3)=decide (x=y):=zM.2 ⟨λ⟨a,b,c,d⟩=>Fin.ext (JI (B7 x) (B7 y) a b c d),λh=>by rw[h];exact⟨rfl,rfl,rfl,rfl⟩⟩;rw[e]at this;exact this
theorem nA{x i:F}(h:x*i=1)(w:World)(d:At w b pp):CGy 81 #[ptr b,NF x] w (.tuple #[NF i,.int .i64 0]):=by
 have c:i.val*x.val %pp=1:=by rw[zE];exact BT Fin.val h
 have:=Tj mdp (B7 x) w d
 rw[x9 (by
  have a:Nat.gcd x.val pp∣i.val*x.val %pp:=(Nat.dvd_mod_iff (Nat.gcd_dvd_right _ _)).2 (uD2 (Nat.gcd_dvd_left _ _) ⟨i.val,zE _ _⟩);rw[c]at a;exact Nat.dvd_one.1 a),Sv i.isLt c]at this
 exact this
theorem nB(w:World)(a:At w b pp):CGy 81 #[ptr b,NF 0] w (.tuple #[N 0,.int .i64 1]):=by
 have:=Tj mdp (x:=0) (by decide) w a;rw[x8 (by decide)]at this;exact this
theorem LO(n:Nat)(w:World):CGy 86 #[N n] w (B32 n):=QQ n w
theorem ofN(n:Nat)(a:n<R)(w:World):CGy 82 #[B32 n] w (N n):=YB n a w
theorem QR(x:F)(w:World):CGy 86 #[NF x] w (B32 x.val):=QQ x.val w
theorem ofF(x:F)(w:World):CGy 82 #[B32 x.val] w (NF x):=YB x.val (B7 x) w
theorem bh:prog.built 147 []=some #[.int .u64 0,.int .u64 0,.int .u64 0,.int .u64 0]:=by kernel_rfl
theorem QT:prog.built 205 []=some #[.int .u64 0,.int .u64 0,.int .u64 0,.int .u64 0,.int .u64 0,.int .u64 0,.int .u64 0,.int .u64 0,.int .u64 0,.int .u64 0,.int .u64 0,.int .u64 0]:=by kernel_rfl
theorem Jn:prog.built 141 []=some #[.int .u8 0,.int .u8 0,.int .u8 0,.int .u8 0,.int .u8 0,.int .u8 0,.int .u8 0,.int .u8 0,.int .u8 0,.int .u8 0,.int .u8 0,.int .u8 0,.int .u8 0,.int .u8 0,.int .u8 0,.int .u8 0,.int .u8 0,.int .u8 0,.int .u8 0,.int .u8 0,.int .u8 0,.int .u8 0,.int .u8 0,.int .u8 0,.int .u8 0,.int .u8 0,.int .u8 0,.int .u8 0,.int .u8 0,.int .u8 0,.int .u8 0,.int .u8 0,.int .u8 0,.int .u8 0,.int .u8 0,.int .u8 0,.int .u8 0,.int .u8 0,.int .u8 0,.int .u8 0,.int .u8 0,.int .u8 0,.int .u8 0,.int .u8 0,.int .u8 0,.int .u8 0,.int .u8 0,.int .u8 0,.int .u8 0,.int .u8 0,.int .u8 0,.int .u8 0,.int .u8 0,.int .u8 0,.int .u8 0,.int .u8 0,.int .u8 0,.int .u8 0,.int .u8 0,.int .u8 0,.int .u8 0,.int .u8 0,.int .u8 0,.int .u8 0]:=by kernel_rfl
theorem UQ(x y z:F):prog.built 205 [(0,NF x),(1,NF y),(2,NF z)]=some #[.int .u64 (lv x 0:Nat),.int .u64 (lv x 1:Nat),.int .u64 (lv x 2:Nat),.int .u64 (lv x 3:Nat),.int .u64 (lv y 0:Nat),.int .u64 (lv y 1:Nat),.int .u64 (lv y 2:Nat),.int .u64 (lv y 3:Nat),.int .u64 (lv z 0:Nat),.int .u64 (lv z 1:Nat),.int .u64 (lv z 2:Nat),.int .u64 (lv z 3:Nat)]:=by kernel_rfl
structure Laid(w:World):Prop where
 bx:∀(j:Nat) (v:Value),(Bq TollEc.bx.val)[j]? =some v->w.cell? ⟨1,0+j,none⟩=some v
 bY:∀(j:Nat) (v:Value),(Bq TollEc.bY.val)[j]? =some v->w.cell? ⟨2,0+j,none⟩=some v
 nn:∀(j:Nat) (v:Value),(Bq TollEc.nn)[j]? =some v->w.cell? ⟨3,0+j,none⟩=some v
 pp:∀(j:Nat) (v:Value),(Bq pp)[j]? =some v->w.cell? ⟨4,0+j,none⟩=some v
 cb:∀(j:Nat) (v:Value),(Bq cb.val)[j]? =some v->w.cell? ⟨5,0+j,none⟩=some v
theorem Laid.gw{w c:World}(h:Laid w)(g:Gw w c):Laid c:=
 ⟨λj v a=>g.cell (h.bx j v a),λj v a=>g.cell (h.bY j v a),λj v a=>g.cell (h.nn j v a),λj v a=>g.cell (h.pp j v a),λj v a=>g.cell (h.cb j v a)⟩
end
open TollMont
open TollEc (F pp cb Jp Pt)
theorem dj(x:F)(w:World)(ha:At w b pp):CGy 174 #[FV b,NF x] w (NF (x+x)):=by
 go_enter func174,ntmps174
 refine Cz ?_
 refine CV ?_;iterate 3 refine iN ?_
 refine t_6 ?_;refine t_2 ?_;iterate 2 refine oR ?_
 refine RR ?_;refine Ho ?_;refine Dn ?_;refine AD (AH results174 (Ac rfl rfl y8 rfl zD rfl rfl)) ?_;intro c a;exact⟨rfl,a⟩
theorem eC(x:F)(w:World)(ha:At w b pp):CGy 175 #[FV b,NF x] w (NF (x+x+x)):=by
 go_enter func175,ntmps175
 refine Cz ?_
 refine CV ?_;iterate 3 refine iN ?_
 refine t_6 ?_;refine t_2 ?_;refine t_6 ?_;refine t_2 ?_;iterate 2 refine oR ?_
 refine RR ?_;refine oR ?_;refine RR ?_;refine Ho ?_;refine Dn ?_;refine AD (AH results175 (Ac rfl rfl y8 rfl zD rfl rfl)) ?_;intro c a;exact⟨rfl,a⟩
theorem pB(p:Jp)(w:World)(_ha:At w b pp)(c:p.z=0):CGy 135 #[FV b,TF p] w (TF ⟨0,0,0⟩):=by
 go_enter func135,ntmps135
 refine Cz ?_
 refine JL ?_
 refine t_7 ?_;refine oR ?_;refine DV ?_;refine AV (by exact AK rfl gg rfl rfl (λw=>Ie c _ _ w)) ?_;refine BJ ?_;refine RS ?_;refine J8 ?_;refine Q9 ?_;refine VX ?_;iterate 5 refine BJ ?_
 refine AV (by exact A6 rfl gg rfl (QT)) ?_;refine eL ?_;refine AD (AH results135 (Ac rfl rfl uB9 rfl uC0 rfl rfl)) ?_;intro d a;exact⟨rfl,a⟩
theorem pC(p:Jp)(w:World)(_ha:At w b pp)(hz:p.z≠0)(c:p.y=0):CGy 135 #[FV b,TF p] w (TF ⟨0,0,0⟩):=by
 go_enter func135,ntmps135
 refine Cz ?_
 refine JL ?_
 refine t_7 ?_;refine oR ?_;refine DV ?_;refine J6 ?_;refine BJ ?_;refine RS ?_;refine J8 ?_;refine Q9 ?_;refine AV (by first|exact Ev.skip (λ_=>rfl)|exact AK rfl (λ_=>rfl) rfl rfl (λw=>Ie c _ _ w)) ?_;iterate 5 refine BJ ?_
 refine AV (by exact A6 rfl gg rfl (QT)) ?_;refine eL ?_;refine AD (AH results135 (Ac rfl rfl uB9 rfl uC0 rfl rfl)) ?_;intro d a;exact⟨rfl,a⟩
theorem B3{x y z:F}(h:x*y=z)(w:World)(a:At w b pp):CGy 83 #[ptr b,NF x,NF y] w (NF z):=h▸Yf x y w a
theorem rz{x y z:F}(h:x+y=z)(w:World)(a:At w b pp):CGy 106 #[ptr b,NF x,NF y] w (NF z):=h▸Ug x y w a
theorem GZ{x y z:F}(h:x-y=z)(w:World)(a:At w b pp):CGy 130 #[ptr b,NF x,NF y] w (NF z):=h▸Vk x y w a
theorem Hh{x z:F}(h:x+x=z)(w:World)(a:At w b pp):CGy 174 #[FV b,NF x] w (NF z):=h▸dj x w a
theorem eD{x z:F}(h:x+x+x=z)(w:World)(a:At w b pp):CGy 175 #[FV b,NF x] w (NF z):=h▸eC x w a
theorem pD(p:Jp)(o e q D E g h r i G H s t u v I J K j l m:F)(w:World)(d:At w b pp)(hz:p.z≠0)(hy:p.y≠0)(L:p.z*p.z=o)(M:p.y*p.y=e)(N:p.x*e=q)(O:p.x-o=D)(P:p.x+o=E)(Q:D*E=g)(R:g+g+g=h)(S:q+q=r)(T:r+r=i)(U:h*h=G)(V:i+i=H)(W:G-H=s)(X:e*e=t)(Y:t+t=u)(Z:u+u=v)(a0:v+v=I)(a1:i-s=J)(a2:h*J=K)(A:K-I=j)(B:p.y+p.y=l)(C:l*p.z=m):CGy 135 #[FV b,TF p] w (TF ⟨s,j,m⟩):=by
 go_enter func135,ntmps135
 refine Cz ?_
 refine JL ?_
 refine t_7 ?_;refine oR ?_;refine DV ?_;refine J6 ?_;refine BJ ?_;refine RS ?_;refine J8 ?_;refine Q9 ?_;refine AV (by first|exact Ev.skip (λ_=>rfl)|exact AK rfl (λ_=>rfl) rfl rfl (λw=>Ig hy _ _ w)) ?_;iterate 6 refine BJ ?_
 refine t_6 ?_;refine t_2 ?_;refine t_7 ?_;refine oR ?_;refine t_7 ?_;refine oR ?_;refine AV (by exact AM rfl gg rfl (eo zO) (λc a=>B3 L c (d.gw a))) ?_;refine t_6 ?_;refine t_2 ?_;refine t_7 ?_;refine oR ?_;refine t_7 ?_;refine oR ?_;refine AV (by exact AM rfl gg rfl (eo zO) (λc a=>B3 M c (d.gw a))) ?_;iterate 2 refine CV ?_
 refine E7 ?_;refine t_2 ?_;refine t_7 ?_;iterate 2 refine oR ?_
 refine AV (by exact AM rfl gg rfl (eo zO) (λc a=>B3 N c (d.gw a))) ?_;refine Lh ?_
 refine HF ?_;refine t_6 ?_;refine t_2 ?_;refine t_6 ?_;refine t_2 ?_;refine t_7 ?_;iterate 2 refine oR ?_
 refine AV (by exact AM rfl gg rfl (eo func130) (λc a=>GZ O c (d.gw a))) ?_;refine t_6 ?_;refine t_2 ?_;refine t_7 ?_;iterate 2 refine oR ?_
 refine AV (by exact AM rfl gg rfl (eo func106) (λc a=>rz P c (d.gw a))) ?_;refine AV (by exact AM rfl gg rfl (eo zO) (λc a=>B3 Q c (d.gw a))) ?_;refine AV (by exact AM rfl gg rfl (eo func175) (λc a=>eD R c (d.gw a))) ?_;refine Lh ?_
 iterate 2 refine HF ?_
 refine oR ?_;refine AV (by exact AM rfl gg rfl (eo func174) (λc a=>Hh S c (d.gw a))) ?_;refine AV (by exact AM rfl gg rfl (eo func174) (λc a=>Hh T c (d.gw a))) ?_;refine Lh ?_
 refine t_6 ?_;refine t_2 ?_;refine t_6 ?_;refine t_2 ?_;iterate 2 refine oR ?_
 refine AV (by exact AM rfl gg rfl (eo zO) (λc a=>B3 U c (d.gw a))) ?_;refine HF ?_;refine oR ?_;refine AV (by exact AM rfl gg rfl (eo func174) (λc a=>Hh V c (d.gw a))) ?_;refine AV (by exact AM rfl gg rfl (eo func130) (λc a=>GZ W c (d.gw a))) ?_;refine Lh ?_
 iterate 3 refine HF ?_
 refine t_6 ?_;refine t_2 ?_;iterate 2 refine oR ?_
 refine AV (by exact AM rfl gg rfl (eo zO) (λc a=>B3 X c (d.gw a))) ?_;refine AV (by exact AM rfl gg rfl (eo func174) (λc a=>Hh Y c (d.gw a))) ?_;refine AV (by exact AM rfl gg rfl (eo func174) (λc a=>Hh Z c (d.gw a))) ?_;refine AV (by exact AM rfl gg rfl (eo func174) (λc a=>Hh a0 c (d.gw a))) ?_;refine Lh ?_
 refine oR ?_;refine t_6 ?_;refine t_2 ?_;refine t_6 ?_;refine t_2 ?_;refine oR ?_;refine t_6 ?_;refine t_2 ?_;iterate 2 refine oR ?_
 refine AV (by exact AM rfl gg rfl (eo func130) (λc a=>GZ a1 c (d.gw a))) ?_;refine AV (by exact AM rfl gg rfl (eo zO) (λc a=>B3 a2 c (d.gw a))) ?_;refine oR ?_;refine AV (by exact AM rfl gg rfl (eo func130) (λc a=>GZ A c (d.gw a))) ?_;refine t_6 ?_;refine t_2 ?_;refine HF ?_;refine t_7 ?_;refine oR ?_;refine AV (by exact AM rfl gg rfl (eo func174) (λc a=>Hh B c (d.gw a))) ?_;refine t_7 ?_;refine oR ?_;refine AV (by exact AM rfl gg rfl (eo zO) (λc a=>B3 C c (d.gw a))) ?_;refine AV (by exact A6 rfl gg rfl (UQ _ _ _)) ?_;refine eL ?_;refine AD (AH results135 (Ac rfl rfl uB9 rfl uC0 rfl rfl)) ?_;intro c hg;exact⟨rfl,hg⟩
theorem rn(p q:Jp)(w:World)(_ha:At w b pp)(c:p.z=0):CGy 133 #[FV b,TF p,TF q] w (TF q):=by
 go_enter func133,ntmps133
 refine Ip ?_
 refine JK ?_
 refine t_7 ?_;refine oR ?_;refine DV ?_;refine AV (by exact AK rfl gg rfl rfl (λw=>Ie c _ _ w)) ?_;iterate 5 refine BJ ?_
 refine It ?_;refine eL ?_;refine AD (AH results133 (Ac rfl rfl uB9 rfl uC0 rfl rfl)) ?_;intro d a;exact⟨rfl,a⟩
theorem rl(p q:Jp)(w:World)(_ha:At w b pp)(hz:p.z≠0)(c:q.z=0):CGy 133 #[FV b,TF p,TF q] w (TF p):=by
 go_enter func133,ntmps133
 refine Ip ?_
 refine JK ?_
 refine t_7 ?_;refine oR ?_;refine DV ?_;refine J6 ?_;iterate 5 refine BJ ?_
 refine t_7 ?_;refine oR ?_;refine DV ?_;refine AV (by exact AK rfl gg rfl rfl (λw=>Ie c _ _ w)) ?_;iterate 5 refine BJ ?_
 refine It ?_;refine eL ?_;refine AD (AH results133 (Ac rfl rfl uB9 rfl uC0 rfl rfl)) ?_;intro d a;exact⟨rfl,a⟩
theorem ru(p q d:Jp)(a c e g h i j l m o:F)(w:World)(ha:At w b pp)(hz:p.z≠0)(B:q.z≠0)(e37:p.z*p.z=a)(e44:q.z*q.z=c)(e50:p.x*c=e)(e56:q.x*a=g)(e66:q.z*c=h)(e67:p.y*h=i)(e77:p.z*a=j)(e78:q.y*j=l)(e83:g-e=m)(e88:l-i=o)(v:m=0)(A:o=0)(t:∀r,Gw w r->CGy 135 #[FV b,TF p] r (TF d)):CGy 133 #[FV b,TF p,TF q] w (TF d):=by
 go_enter func133,ntmps133
 refine Ip ?_
 refine JK ?_
 refine t_7 ?_;refine oR ?_;refine DV ?_;refine J6 ?_;iterate 5 refine BJ ?_
 refine t_7 ?_;refine oR ?_;refine DV ?_;refine AV (by exact AK rfl gg rfl rfl (λw=>Ig B _ _ w)) ?_;iterate 6 refine BJ ?_
 refine t_6 ?_;refine t_2 ?_;refine t_7 ?_;refine oR ?_;refine t_7 ?_;refine oR ?_;refine RO ?_;refine t_6 ?_;refine t_2 ?_;refine t_7 ?_;refine oR ?_;refine t_7 ?_;refine oR ?_;refine RL ?_;iterate 2 refine CV ?_
 refine E7 ?_;refine t_2 ?_;refine t_7 ?_;iterate 2 refine oR ?_
 refine RJ ?_;refine t_6 ?_;refine t_2 ?_;refine t_7 ?_;iterate 2 refine oR ?_
 refine RI ?_;iterate 2 refine CV ?_
 refine E7 ?_;refine t_2 ?_;refine t_7 ?_;refine oR ?_;refine t_6 ?_;refine t_2 ?_;refine t_7 ?_;iterate 2 refine oR ?_
 refine RH ?_;refine RG ?_;refine t_6 ?_;refine t_2 ?_;refine t_7 ?_;refine oR ?_;refine t_6 ?_;refine t_2 ?_;refine t_7 ?_;iterate 2 refine oR ?_
 refine RF ?_;refine RE ?_;iterate 2 refine CV ?_
 refine E7 ?_;refine t_2 ?_;iterate 2 refine oR ?_
 refine RQ ?_;refine t_6 ?_;refine t_2 ?_;iterate 2 refine oR ?_
 refine RP ?_;iterate 2 refine CV ?_
 refine E3 ?_
 refine oR ?_;refine DV ?_;refine AV (by exact AK rfl gg rfl rfl (λw=>Ie v _ _ w)) ?_;iterate 5 refine iN ?_
 refine oR ?_;refine DV ?_;refine AV (by exact AK rfl gg rfl rfl (λw=>Ie A _ _ w)) ?_;iterate 4 refine iN ?_
 refine HF ?_;refine It ?_;refine AV (by exact AM rfl gg rfl (eo func135) (λr s=>t r s)) ?_;refine eL ?_;refine AD (AH results133 (Ac rfl rfl uB9 rfl uC0 rfl rfl)) ?_;intro r u;exact⟨rfl,u⟩
theorem Hb(p q:Jp)(a c d e g h i j l m:F)(w:World)(ha:At w b pp)(hz:p.z≠0)(t:q.z≠0)(e37:p.z*p.z=a)(e44:q.z*q.z=c)(e50:p.x*c=d)(e56:q.x*a=e)(e66:q.z*c=g)(e67:p.y*g=h)(e77:p.z*a=i)(e78:q.y*i=j)(e83:e-d=l)(e88:j-h=m)(r:l=0)(s:m≠0):CGy 133 #[FV b,TF p,TF q] w (TF ⟨0,0,0⟩):=by
 go_enter func133,ntmps133
 refine Ip ?_
 refine JK ?_
 refine t_7 ?_;refine oR ?_;refine DV ?_;refine J6 ?_;iterate 5 refine BJ ?_
 refine t_7 ?_;refine oR ?_;refine DV ?_;refine AV (by exact AK rfl gg rfl rfl (λw=>Ig t _ _ w)) ?_;iterate 6 refine BJ ?_
 refine t_6 ?_;refine t_2 ?_;refine t_7 ?_;refine oR ?_;refine t_7 ?_;refine oR ?_;refine RO ?_;refine t_6 ?_;refine t_2 ?_;refine t_7 ?_;refine oR ?_;refine t_7 ?_;refine oR ?_;refine RL ?_;iterate 2 refine CV ?_
 refine E7 ?_;refine t_2 ?_;refine t_7 ?_;iterate 2 refine oR ?_
 refine RJ ?_;refine t_6 ?_;refine t_2 ?_;refine t_7 ?_;iterate 2 refine oR ?_
 refine RI ?_;iterate 2 refine CV ?_
 refine E7 ?_;refine t_2 ?_;refine t_7 ?_;refine oR ?_;refine t_6 ?_;refine t_2 ?_;refine t_7 ?_;iterate 2 refine oR ?_
 refine RH ?_;refine RG ?_;refine t_6 ?_;refine t_2 ?_;refine t_7 ?_;refine oR ?_;refine t_6 ?_;refine t_2 ?_;refine t_7 ?_;iterate 2 refine oR ?_
 refine RF ?_;refine RE ?_;iterate 2 refine CV ?_
 refine E7 ?_;refine t_2 ?_;iterate 2 refine oR ?_
 refine RQ ?_;refine t_6 ?_;refine t_2 ?_;iterate 2 refine oR ?_
 refine RP ?_;iterate 2 refine CV ?_
 refine E3 ?_
 refine oR ?_;refine DV ?_;refine AV (by exact AK rfl gg rfl rfl (λw=>Ie r _ _ w)) ?_;iterate 5 refine iN ?_
 refine oR ?_;refine DV ?_;refine AV (by exact AK rfl gg rfl rfl (λw=>Ig s _ _ w)) ?_;iterate 5 refine iN ?_
 refine AV (by exact A6 rfl gg rfl (QT)) ?_;refine eL ?_;refine AD (AH results133 (Ac rfl rfl uB9 rfl uC0 rfl rfl)) ?_;intro u o;exact⟨rfl,o⟩
theorem rq(p q:Jp)(B C D T U E V W e j g h d l m o i r s t u v A:F)(w:World)(ha:At w b pp)(hz:p.z≠0)(Z:q.z≠0)(e37:p.z*p.z=B)(e44:q.z*q.z=C)(e50:p.x*C=D)(e56:q.x*B=T)(e66:q.z*C=U)(e67:p.y*U=E)(e77:p.z*B=V)(e78:q.y*V=W)(e83:T-D=e)(e88:W-E=j)(G:e*e=g)(H:e*g=h)(I:D*g=d)(J:j*j=l)(K:l-h=m)(L:d+d=o)(M:m-o=i)(N:d-i=r)(O:j*r=s)(P:E*h=t)(Q:s-t=u)(R:p.z*q.z=v)(S:v*e=A)(Y:e≠0):CGy 133 #[FV b,TF p,TF q] w (TF ⟨i,u,A⟩):=by
 go_enter func133,ntmps133
 refine Ip ?_
 refine JK ?_
 refine t_7 ?_;refine oR ?_;refine DV ?_;refine J6 ?_;iterate 5 refine BJ ?_
 refine t_7 ?_;refine oR ?_;refine DV ?_;refine AV (by exact AK rfl gg rfl rfl (λw=>Ig Z _ _ w)) ?_;iterate 6 refine BJ ?_
 refine t_6 ?_;refine t_2 ?_;refine t_7 ?_;refine oR ?_;refine t_7 ?_;refine oR ?_;refine RO ?_;refine t_6 ?_;refine t_2 ?_;refine t_7 ?_;refine oR ?_;refine t_7 ?_;refine oR ?_;refine RL ?_;iterate 2 refine CV ?_
 refine E7 ?_;refine t_2 ?_;refine t_7 ?_;iterate 2 refine oR ?_
 refine RJ ?_;refine t_6 ?_;refine t_2 ?_;refine t_7 ?_;iterate 2 refine oR ?_
 refine RI ?_;iterate 2 refine CV ?_
 refine E7 ?_;refine t_2 ?_;refine t_7 ?_;refine oR ?_;refine t_6 ?_;refine t_2 ?_;refine t_7 ?_;iterate 2 refine oR ?_
 refine RH ?_;refine RG ?_;refine t_6 ?_;refine t_2 ?_;refine t_7 ?_;refine oR ?_;refine t_6 ?_;refine t_2 ?_;refine t_7 ?_;iterate 2 refine oR ?_
 refine RF ?_;refine RE ?_;iterate 2 refine CV ?_
 refine E7 ?_;refine t_2 ?_;iterate 2 refine oR ?_
 refine RQ ?_;refine t_6 ?_;refine t_2 ?_;iterate 2 refine oR ?_
 refine RP ?_;iterate 2 refine CV ?_
 refine E3 ?_
 refine oR ?_;refine DV ?_;refine AV (by exact AK rfl gg rfl rfl (λw=>Ig Y _ _ w)) ?_;iterate 5 refine iN ?_
 refine t_6 ?_;refine t_2 ?_;iterate 2 refine oR ?_
 refine AV (by exact AM rfl gg rfl (eo zO) (λc a=>B3 G c (ha.gw a))) ?_;refine Lh ?_
 refine t_6 ?_;refine t_2 ?_;iterate 2 refine oR ?_
 refine AV (by exact AM rfl gg rfl (eo zO) (λc a=>B3 H c (ha.gw a))) ?_;refine t_6 ?_;refine t_2 ?_;iterate 2 refine oR ?_
 refine AV (by exact AM rfl gg rfl (eo zO) (λc a=>B3 I c (ha.gw a))) ?_;iterate 2 refine CV ?_
 refine E7 ?_;refine t_2 ?_;refine t_6 ?_;refine t_2 ?_;refine t_6 ?_;refine t_2 ?_;iterate 2 refine oR ?_
 refine AV (by exact AM rfl gg rfl (eo zO) (λc a=>B3 J c (ha.gw a))) ?_;refine oR ?_;refine AV (by exact AM rfl gg rfl (eo func130) (λc a=>GZ K c (ha.gw a))) ?_;refine HF ?_;refine oR ?_;refine AV (by exact AM rfl gg rfl (eo func174) (λc a=>Hh L c (ha.gw a))) ?_;refine AV (by exact AM rfl gg rfl (eo func130) (λc a=>GZ M c (ha.gw a))) ?_;refine Lh ?_
 refine oR ?_;refine t_6 ?_;refine t_2 ?_;refine t_6 ?_;refine t_2 ?_;refine oR ?_;refine t_6 ?_;refine t_2 ?_;iterate 2 refine oR ?_
 refine AV (by exact AM rfl gg rfl (eo func130) (λc a=>GZ N c (ha.gw a))) ?_;refine AV (by exact AM rfl gg rfl (eo zO) (λc a=>B3 O c (ha.gw a))) ?_;refine t_6 ?_;refine t_2 ?_;iterate 2 refine oR ?_
 refine AV (by exact AM rfl gg rfl (eo zO) (λc a=>B3 P c (ha.gw a))) ?_;refine AV (by exact AM rfl gg rfl (eo func130) (λc a=>GZ Q c (ha.gw a))) ?_;refine t_6 ?_;refine t_2 ?_;refine t_6 ?_;refine t_2 ?_;refine t_7 ?_;refine oR ?_;refine t_7 ?_;refine oR ?_;refine AV (by exact AM rfl gg rfl (eo zO) (λc a=>B3 R c (ha.gw a))) ?_;refine oR ?_;refine AV (by exact AM rfl gg rfl (eo zO) (λc a=>B3 S c (ha.gw a))) ?_;refine AV (by exact A6 rfl gg rfl (UQ _ _ _)) ?_;refine eL ?_;refine AD (AH results133 (Ac rfl rfl uB9 rfl uC0 rfl rfl)) ?_;intro c X;exact⟨rfl,X⟩
open TollEc (Df D5)
theorem T6(p:Jp)(w:World)(f:At w b pp):CGy 135 #[FV b,TF p] w (TF (Df p)):=by
 by_cases a:p.z=0
 .rw[show Df p=⟨0,0,0⟩ from x9 (.inl a)];exact pB p w f a
 .by_cases d:p.y=0
  .rw[show Df p=⟨0,0,0⟩ from x9 (.inr d)];exact pC p w f a d
  .have h:=pD p _ _ _ _ _ _ _ _ _ _ _ _ _ _ _ _ _ _ _ _ _ w f a d rfl rfl rfl rfl rfl rfl rfl rfl rfl rfl rfl rfl rfl rfl rfl rfl rfl rfl rfl rfl rfl
   have e:Df p=_:=x8 (λc:p.z=0\/p.y=0=>c.elim a d);rw[e];exact h
theorem cZ(p q:Jp)(w:World)(d:At w b pp):CGy 133 #[FV b,TF p,TF q] w (TF (D5 p q)):=by
 by_cases a:p.z=0
 .rw[show D5 p q=q from x9 a];exact rn p q w d a
 .by_cases c:q.z=0
  .rw[show D5 p q=p from(x8 a).trans (x9 c)];exact rl p q w d a c
  .by_cases f:q.x*(p.z*p.z)-p.x*(q.z*q.z)=0
   .by_cases g:q.y*(p.z*(p.z*p.z))-p.y*(q.z*(q.z*q.z))=0
    .rw[show D5 p q=Df p from(x8 a).trans ((x8 c).trans ((x9 f).trans (x9 g)))]
     exact ru p q _ _ _ _ _ _ _ _ _ _ _ w d a c rfl rfl rfl rfl rfl rfl rfl rfl rfl rfl f g (λj i=>T6 p j (d.gw i))
    .rw[show D5 p q=⟨0,0,0⟩ from(x8 a).trans ((x8 c).trans ((x9 f).trans (x8 g)))]
     exact Hb p q _ _ _ _ _ _ _ _ _ _ w d a c rfl rfl rfl rfl rfl rfl rfl rfl rfl rfl f g
   .have h:=rq p q _ _ _ _ _ _ _ _ _ _ _ _ _ _ _ _ _ _ _ _ _ _ _ w d a c rfl rfl rfl rfl rfl rfl rfl rfl rfl rfl rfl rfl rfl rfl rfl rfl rfl rfl rfl rfl rfl rfl rfl f
    have e:D5 p q=_:=(x8 a).trans ((x8 c).trans (x8 f));rw[e];exact h
theorem S6(a:n<R)(h:n<pp)(w:World):CGy 124 #[N n,N pp] w (.bool true):=by
 have:=Yv n a w;rw[yE h]at this;exact this
theorem Yu(a:n<R)(h: ¬n<pp)(w:World):CGy 124 #[N n,N pp] w (.bool false):=by
 have:=Yv n a w;rw[yB h]at this;exact this
theorem sS:NF 1=.agg #[.int .u64 1,.int .u64 0,.int .u64 0,.int .u64 0]:=Qo
theorem dB:NF 3=.agg #[.int .u64 3,.int .u64 0,.int .u64 0,.int .u64 0]:=sR (k:=3) (by decide)
theorem ec(x:F)(w:World)(a:At w b pp):CGy 130 #[ptr b,NF x,.agg #[.int .u64 3,.int .u64 0,.int .u64 0,.int .u64 0]] w (NF (x-3)):=by
 have:=Vk x 3 w a;rw[dB]at this;exact this
theorem qV:prog.built 147 [(0,.int .u64 3)]=some #[.int .u64 3,.int .u64 0,.int .u64 0,.int .u64 0]:=by kernel_rfl
theorem qX:prog.built 147 [(0,.int .u64 1)]=some #[.int .u64 1,.int .u64 0,.int .u64 0,.int .u64 0]:=by kernel_rfl
theorem qT(x y:F):prog.built 205 [(0,NF x),(1,NF y),(2,.agg #[.int .u64 1,.int .u64 0,.int .u64 0,.int .u64 0])]=some #[.int .u64 (lv x 0:Nat),.int .u64 (lv x 1:Nat),.int .u64 (lv x 2:Nat),.int .u64 (lv x 3:Nat),.int .u64 (lv y 0:Nat),.int .u64 (lv y 1:Nat),.int .u64 (lv y 2:Nat),.int .u64 (lv y 3:Nat),.int .u64 (lv 1 0:Nat),.int .u64 (lv 1 1:Nat),.int .u64 (lv 1 2:Nat),.int .u64 (lv 1 3:Nat)]:=by
 rw[<-sS];exact UQ x y 1
theorem QU(x y:Nat):prog.built 141 [(0,B32 x),(1,B32 y)]=some #[.int .u8 (byt x 0:Nat),.int .u8 (byt x 1:Nat),.int .u8 (byt x 2:Nat),.int .u8 (byt x 3:Nat),.int .u8 (byt x 4:Nat),.int .u8 (byt x 5:Nat),.int .u8 (byt x 6:Nat),.int .u8 (byt x 7:Nat),.int .u8 (byt x 8:Nat),.int .u8 (byt x 9:Nat),.int .u8 (byt x 10:Nat),.int .u8 (byt x 11:Nat),.int .u8 (byt x 12:Nat),.int .u8 (byt x 13:Nat),.int .u8 (byt x 14:Nat),.int .u8 (byt x 15:Nat),.int .u8 (byt x 16:Nat),.int .u8 (byt x 17:Nat),.int .u8 (byt x 18:Nat),.int .u8 (byt x 19:Nat),.int .u8 (byt x 20:Nat),.int .u8 (byt x 21:Nat),.int .u8 (byt x 22:Nat),.int .u8 (byt x 23:Nat),.int .u8 (byt x 24:Nat),.int .u8 (byt x 25:Nat),.int .u8 (byt x 26:Nat),.int .u8 (byt x 27:Nat),.int .u8 (byt x 28:Nat),.int .u8 (byt x 29:Nat),.int .u8 (byt x 30:Nat),.int .u8 (byt x 31:Nat),.int .u8 (byt y 0:Nat),.int .u8 (byt y 1:Nat),.int .u8 (byt y 2:Nat),.int .u8 (byt y 3:Nat),.int .u8 (byt y 4:Nat),.int .u8 (byt y 5:Nat),.int .u8 (byt y 6:Nat),.int .u8 (byt y 7:Nat),.int .u8 (byt y 8:Nat),.int .u8 (byt y 9:Nat),.int .u8 (byt y 10:Nat),.int .u8 (byt y 11:Nat),.int .u8 (byt y 12:Nat),.int .u8 (byt y 13:Nat),.int .u8 (byt y 14:Nat),.int .u8 (byt y 15:Nat),.int .u8 (byt y 16:Nat),.int .u8 (byt y 17:Nat),.int .u8 (byt y 18:Nat),.int .u8 (byt y 19:Nat),.int .u8 (byt y 20:Nat),.int .u8 (byt y 21:Nat),.int .u8 (byt y 22:Nat),.int .u8 (byt y 23:Nat),.int .u8 (byt y 24:Nat),.int .u8 (byt y 25:Nat),.int .u8 (byt y 26:Nat),.int .u8 (byt y 27:Nat),.int .u8 (byt y 28:Nat),.int .u8 (byt y 29:Nat),.int .u8 (byt y 30:Nat),.int .u8 (byt y 31:Nat)]:=by kernel_rfl
theorem qU(g:Nat):prog.built 192 [(0,.pointer (some ⟨g,0,none⟩))]=some #[.pointer (some ⟨g,0,none⟩)]:=by kernel_rfl
theorem VH(l:List Value):unV (l.map SV.v)=some l:=by
 induction l with
 |nil=>rfl
 |cons a l ih=>simp only[List.map_cons,unV,ih]
theorem Ha{g w:World}{s:VS}{c f m:Nat}(e:GM g s rd ρ w)(a:c∈rd)(d:s.mem c=some ((Ck m).map SV.v,f)):At w (ρ c) m:=
 Rs e a d 0 (Ck m) (by rw[List.drop_zero];show unV (((Ck m).map SV.v).take (Ck m).length)=_;rw[zT (by simp)];exact VH _)
theorem k6(d:x<R)(g:y<R)(w:World)(_ha:At w b pp)(hL:Laid w)(h: ¬x<pp):CGy 123 #[FV b,PT x y] w (.bool false):=by
 go_enter func123,ntmps123
 refine Dl ?_;iterate 8 refine BJ ?_
 refine Hm ?_;refine HE ?_;refine AV (by exact AM rfl gg rfl (eo zZ) (λa c=>ofN x d a)) ?_;refine Hm ?_;refine HE ?_;refine AV (by exact AM rfl gg rfl (eo zZ) (λa c=>ofN y g a)) ?_;iterate 2 refine CV ?_
 refine E3 ?_
 refine oR ?_;refine OO ?_;refine AV (by exact AM (v:=.bool false) rfl gg rfl (eo func124) (λa c=>Yu d h a)) ?_;iterate 2 refine BJ ?_
 iterate 2 refine J8 ?_
 refine VX ?_;refine AV (by first|exact Ev.skip (λ_=>rfl)|exact D7 rfl (λ_=>rfl) rfl) ?_;iterate 7 refine BJ ?_
 refine AG ?_;refine AD (AH results123 (AF rfl)) ?_;intro a e;exact⟨rfl,e⟩
theorem k5(d:x<R)(e:y<R)(w:World)(_ha:At w b pp)(hL:Laid w)(h:x<pp)(g: ¬y<pp):CGy 123 #[FV b,PT x y] w (.bool false):=by
 go_enter func123,ntmps123
 refine Dl ?_;iterate 8 refine BJ ?_
 refine Hm ?_;refine HE ?_;refine AV (by exact AM rfl gg rfl (eo zZ) (λa c=>ofN x d a)) ?_;refine Hm ?_;refine HE ?_;refine AV (by exact AM rfl gg rfl (eo zZ) (λa c=>ofN y e a)) ?_;iterate 2 refine CV ?_
 refine E3 ?_
 refine oR ?_;refine OO ?_;refine AV (by exact AM (v:=.bool true) rfl gg rfl (eo func124) (λa c=>S6 d h a)) ?_;iterate 2 refine BJ ?_
 refine J8 ?_;refine AV (by first|exact Ev.skip (λ_=>rfl)|exact A2 rfl (λ_=>rfl) rfl y8 rfl zD (hL.pp) rfl) ?_;refine AV (by first|exact Ev.skip (λ_=>rfl)|exact AM (v:=.bool false) rfl (λ_=>rfl) rfl (eo func124) (λa c=>Yu e g a)) ?_;refine AV (by first|exact Ev.skip (λ_=>rfl)|exact D7 rfl (λ_=>rfl) rfl) ?_;iterate 7 refine BJ ?_
 refine AG ?_;refine AD (AH results123 (AF rfl)) ?_;intro a i;exact⟨rfl,i⟩
theorem lB(x y:F)(w:World)(ha:At w b pp)(hL:Laid w):CGy 123 #[FV b,PT x.val y.val] w (.bool (decide (y*y=(x*x-3)*x+cb))):=by
 go_enter func123,ntmps123
 refine Dl ?_;iterate 8 refine BJ ?_
 refine Hm ?_;refine HE ?_;refine AV (by exact AM rfl gg rfl (eo zZ) (λc a=>ofF x c)) ?_;refine Hm ?_;refine HE ?_;refine AV (by exact AM rfl gg rfl (eo zZ) (λc a=>ofF y c)) ?_;iterate 2 refine CV ?_
 refine E3 ?_
 refine oR ?_;refine OO ?_;refine AV (by exact AM (v:=.bool true) rfl gg rfl (eo func124) (λc a=>S6 (B7 x) x.isLt c)) ?_;iterate 2 refine BJ ?_
 refine J8 ?_;refine AV (by first|exact Ev.skip (λ_=>rfl)|exact A2 rfl (λ_=>rfl) rfl y8 rfl zD (hL.pp) rfl) ?_;refine AV (by first|exact Ev.skip (λ_=>rfl)|exact AM (v:=.bool true) rfl (λ_=>rfl) rfl (eo func124) (λc a=>S6 (B7 y) y.isLt c)) ?_;refine AV (by first|exact Ev.skip (λ_=>rfl)|exact D7 rfl (λ_=>rfl) rfl) ?_;iterate 6 refine BJ ?_
 refine t_6 ?_;refine t_2 ?_;refine t_6 ?_;refine t_2 ?_;refine t_6 ?_;refine t_2 ?_;refine t_6 ?_;refine t_2 ?_;iterate 2 refine oR ?_
 refine RD ?_;refine AV (by exact A6 rfl gg rfl qV) ?_;refine AV (by exact AM rfl gg rfl (eo func130) (λc a=>ec _ c (ha.gw a))) ?_;refine oR ?_;refine RD ?_;refine AV (by exact A2 rfl gg rfl y8 rfl zD (hL.cb) rfl) ?_;refine AV (by exact AM rfl gg rfl (eo func106) (λc a=>Ug _ cb c (ha.gw a))) ?_;refine Lh ?_
 refine t_6 ?_;refine t_2 ?_;iterate 2 refine oR ?_
 refine RD ?_;refine oR ?_;refine AV (by exact AK rfl gg rfl rfl (λw=>eqF _ _ _ _ w)) ?_;iterate 2 refine BJ ?_
 refine AG ?_;refine AD (AH results123 (AF rfl)) ?_;intro c d;exact⟨rfl,d⟩
theorem Yt(c:∀a,Gw w a->CGy 123 #[FV b,PT x y] a (.bool false)):CGy 134 #[FV b,PT x y] w (TF ⟨0,0,0⟩):=by
 go_enter func134,ntmps134
 refine Cz ?_
 refine JL ?_
 refine HF ?_;refine Ls ?_;refine AV (by exact AM rfl gg rfl (eo func123) (λa d=>c a d)) ?_;iterate 5 refine BJ ?_
 refine AV (by exact A6 rfl gg rfl (QT)) ?_;refine eL ?_;refine AD (AH results134 (Ac rfl rfl uB9 rfl uC0 rfl rfl)) ?_;intro a e;exact⟨rfl,e⟩
theorem mF(x y:F)(w:World)(d:∀a,Gw w a->CGy 123 #[FV b,PT x.val y.val] a (.bool true)):CGy 134 #[FV b,PT x.val y.val] w (TF ⟨x,y,1⟩):=by
 go_enter func134,ntmps134
 refine Cz ?_
 refine JL ?_
 refine HF ?_;refine Ls ?_;refine AV (by exact AM rfl gg rfl (eo func123) (λa c=>d a c)) ?_;iterate 6 refine BJ ?_
 refine Hm ?_;refine HE ?_;refine AV (by exact AM rfl gg rfl (eo zZ) (λa c=>ofF x a)) ?_;refine Hm ?_;refine HE ?_;refine AV (by exact AM rfl gg rfl (eo zZ) (λa c=>ofF y a)) ?_;refine AV (by exact A6 rfl gg rfl qX) ?_;refine AV (by exact A6 rfl gg rfl (qT _ _)) ?_;refine eL ?_;refine AD (AH results134 (Ac rfl rfl uB9 rfl uC0 rfl rfl)) ?_;intro a e;exact⟨rfl,e⟩
theorem o9(x y:F)(w:World)(e:At w b pp):CGy 132 #[FV b,TF ⟨x,y,0⟩] w (PT 0 0):=by
 go_enter func132,ntmps132
 refine Cz ?_
 refine I5 ?_
 refine t_6 ?_;refine t_2 ?_;refine t_7 ?_;refine oR ?_;refine AV (by exact AM rfl gg rfl (eo func81) (λd a=>nB d (e.gw a))) ?_;iterate 3 refine BJ ?_
 refine CV ?_;refine Ho ?_;iterate 6 refine BJ ?_
 refine AV (by refine D6 gg (λρ w=>by simp only[VS.act,SV.c,List.map_cons,List.map_nil];go_simp;exact rfl) (λ_ _=>rfl)) ?_;iterate 4 refine iN ?_
 refine AV (by exact A6 rfl gg rfl (Jn)) ?_;refine Lq ?_;refine Dn ?_;refine AD (AH results132 (Ac rfl rfl DQ rfl uA3 rfl rfl)) ?_;intro d g;exact⟨rfl,g⟩
theorem pA(x y z i h u v g:F)(w:World)(e:At w b pp)(q:z*i=1)(j:i*i=h)(l:x*h=u)(m:i*h=g)(o:y*g=v):CGy 132 #[FV b,TF ⟨x,y,z⟩] w (PT u.val v.val):=by
 go_enter func132,ntmps132
 refine Cz ?_
 refine I5 ?_
 refine t_6 ?_;refine t_2 ?_;refine t_7 ?_;refine oR ?_;refine AV (by exact AM rfl gg rfl (eo func81) (λd a=>nA q d (e.gw a))) ?_;iterate 3 refine BJ ?_
 refine CV ?_;refine Ho ?_;iterate 6 refine BJ ?_
 refine AV (by refine D6 gg (λρ w=>by simp only[VS.act,SV.c,List.map_cons,List.map_nil];go_simp;exact rfl) (λ_ _=>rfl)) ?_;iterate 5 refine iN ?_
 refine t_6 ?_;refine t_2 ?_;iterate 2 refine oR ?_
 refine AV (by exact AM rfl gg rfl (eo zO) (λd a=>B3 j d (e.gw a))) ?_;refine Lh ?_
 refine t_6 ?_;refine t_2 ?_;refine t_7 ?_;iterate 2 refine oR ?_
 refine AV (by exact AM rfl gg rfl (eo zO) (λd a=>B3 l d (e.gw a))) ?_;refine AV (by exact AM rfl gg rfl (eo func86) (λd a=>QR _ d)) ?_;refine t_6 ?_;refine t_2 ?_;refine t_7 ?_;refine oR ?_;refine t_6 ?_;refine t_2 ?_;iterate 2 refine oR ?_
 refine AV (by exact AM rfl gg rfl (eo zO) (λd a=>B3 m d (e.gw a))) ?_;refine AV (by exact AM rfl gg rfl (eo zO) (λd a=>B3 o d (e.gw a))) ?_;refine AV (by exact AM rfl gg rfl (eo func86) (λd a=>QR _ d)) ?_;refine AV (by exact A6 rfl gg rfl (QU _ _)) ?_;refine Lq ?_;refine Dn ?_;refine AD (AH results132 (Ac rfl rfl DQ rfl uA3 rfl rfl)) ?_;intro d p;exact⟨rfl,p⟩
theorem Sk(hL:Laid w):Calls prog 122 #[] w λe a=> ∃g,w.heap.size<=g/\e=.returned (.agg #[.pointer (some ⟨g,0,none⟩)])/\a.heap[g]? =some (.cells (Ck pp).toArray 199 (0,0))/\Gw w a:=by
 go_enter func122,ntmps122
 refine Io ?_
 refine AV (by exact BZ rfl rfl gg zeroValue192) ?_;iterate 3 refine iN ?_
 refine OO ?_;refine AV (by exact ob rfl rfl gg rfl (eo func126) (Ck pp) 199 (λa _=>YW mdp a)) ?_;refine BJ ?_;refine AV (by exact oQ rfl gg rfl) ?_;refine AV (by exact oP rfl gg rfl) ?_;iterate 6 refine BJ ?_
 refine AV (by exact oh rfl gg rfl (λg=>qU g)) ?_;refine AV (by exact Tq rfl gg rfl rfl rfl sizeOf192 (by simp)) ?_;refine Dn ?_;refine kE (id:=5) results122 rfl rfl underlying192 rfl sizeOf192 rfl rfl (VH _) ?_;intro g a c d h;exact⟨g,c,rfl,d,h⟩
theorem rO(d:Laid w):CGy 87 #[] w (PT TollEc.bx.val TollEc.bY.val):=by
 go_enter func87,ntmps87
 refine Io ?_
 refine I5 ?_
 refine AV (by exact A2 rfl gg rfl y8 rfl zD (d.bx) rfl) ?_;refine AV (by exact AM rfl gg rfl (eo func86) (λa c=>QR TollEc.bx a)) ?_;refine AV (by exact A2 rfl gg rfl y8 rfl zD (d.bY) rfl) ?_;refine AV (by exact AM rfl gg rfl (eo func86) (λa c=>QR TollEc.bY a)) ?_;refine AV (by exact A6 rfl gg rfl (QU _ _)) ?_;refine Lq ?_;refine Dn ?_;refine AD (AH results87 (Ac rfl rfl DQ rfl uA3 rfl rfl)) ?_;intro a e;exact⟨rfl,e⟩
theorem kZ(c:Laid w):CGy 125 #[] w (B32 TollEc.nn):=by
 go_enter func125,ntmps125
 refine Io ?_
 refine AV (by exact BZ rfl rfl gg zeroValue64) ?_;iterate 3 refine iN ?_
 refine AV (by exact A2 rfl gg rfl y8 rfl zD (c.nn) rfl) ?_;refine AV (by exact AM rfl gg rfl (eo func86) (λa e=>LO TollEc.nn a)) ?_;refine AV (by exact BA rfl gg rfl rfl rfl yR rfl (by simp) rfl) ?_;refine Dn ?_;refine AD (AH results125 (Ac rfl rfl yY rfl yR rfl rfl)) ?_;intro a d;exact⟨rfl,d⟩
theorem Tz{P:Program}{e:TypeId}{k q:IntKind}(g:P.underlying e=some (.int q))(d:Nat)(c a:List Int)(w:World):∀(f:List Nat),(∀j∈f,j<c.length/\j<a.length)->
 (Op.eqItems (d+1) e 1 (c.map (Value.int k)).toArray (a.map (Value.int k)).toArray f).run P w=.ok (f.all λj=>c.getD j 0==a.getD j 0) w
 | [],_=>by simp[Op.eqItems]
 |j::f,h=>by
  obtain⟨p,o⟩:=h j (by simp)
  have r:(part e (c.map (Value.int k)).toArray (j*1)).run P w=.ok (.int k c[j]) w:=by
   simp[part,Bp g,Ba,p]
  have s:(part e (a.map (Value.int k)).toArray (j*1)).run P w=.ok (.int k a[j]) w:=by
   simp[part,Bp g,Ba,o]
  have l:=run_equalIn_int w d e k q c[j] a[j] g;have t:=Tz (k:=k) g d c a w f λi l=>h i (by simp[l])
  simp only[Op.eqItems,Sem.run_bind,r,s,Result.andThen_ok,l,List.all_cons,uE4,zK p,zK o,Option.getD_some];by_cases m:c[j]=a[j]
  .simp only[m,beq_self_eq_true,z5,Bool.false_eq_true,if_false,Bool.true_and]
   simpa only[uE4] using t
  .simp[m]
def IV(n:Nat):List Int:=(List.range 32).map λi=>((byt n i:Nat):Int)
theorem qM{a c:Nat}(d:a<W)(e:c<W)(h:∀i,i<8->a/2^(56-8*i) %256=c/2^(56-8*i) %256):a=c:=by
 have f:a/72057594037927936 %256=c/72057594037927936 %256:=h 0 (by decide);have g:a/281474976710656 %256=c/281474976710656 %256:=h 1 (by decide);have j:a/1099511627776 %256=c/1099511627776 %256:=h 2 (by decide);have l:a/4294967296 %256=c/4294967296 %256:=h 3 (by decide);have m:a/16777216 %256=c/16777216 %256:=h 4 (by decide);have o:a/65536 %256=c/65536 %256:=h 5 (by decide);have p:a/256 %256=c/256 %256:=h 6 (by decide);have q:a/1 %256=c/1 %256:=h 7 (by decide);simp only[W]at d e;clear h;omega
theorem bytes_inj(a:x<R)(c:y<R)(h:∀i,i<32->byt x i=byt y i):x=y:=by
 have g:∀g,g<4->lim x (3-g)=lim y (3-g):=λg d=>by
  refine qM (AZ _ _) (AZ _ _) λi e=> ?_
  have:=h (8*g+i) (by omega);unfold byt at this
  rwa [show(8*g+i)/8=g by omega,show(8*g+i) %8=i by omega]at this
 exact JI a c (g 3 (by omega)) (g 2 (by omega)) (g 1 (by omega)) (g 0 (by omega))
theorem o6(c:x<R)(d:y<R):((List.range 32).all λj=>(IV x).getD j 0==(IV y).getD j 0)=decide (x=y):=by
 rw[Bool.eq_iff_iff,y5,decide_eq_true_iff];constructor
 .intro h
  refine bytes_inj c d λi a=> ?_
  have:=h i (by simpa using a);simp[IV,a]at this;omega
 .rintro rfl i _
  exact beq_self_eq_true _
theorem T2(d:Nat)(c:x<R)(e:y<R)(w:World):(Op.equalIn (d+2) 64 (.agg #[.int .u8 (byt x 0:Nat),.int .u8 (byt x 1:Nat),.int .u8 (byt x 2:Nat),.int .u8 (byt x 3:Nat),.int .u8 (byt x 4:Nat),.int .u8 (byt x 5:Nat),.int .u8 (byt x 6:Nat),.int .u8 (byt x 7:Nat),.int .u8 (byt x 8:Nat),.int .u8 (byt x 9:Nat),.int .u8 (byt x 10:Nat),.int .u8 (byt x 11:Nat),.int .u8 (byt x 12:Nat),.int .u8 (byt x 13:Nat),.int .u8 (byt x 14:Nat),.int .u8 (byt x 15:Nat),.int .u8 (byt x 16:Nat),.int .u8 (byt x 17:Nat),.int .u8 (byt x 18:Nat),.int .u8 (byt x 19:Nat),.int .u8 (byt x 20:Nat),.int .u8 (byt x 21:Nat),.int .u8 (byt x 22:Nat),.int .u8 (byt x 23:Nat),.int .u8 (byt x 24:Nat),.int .u8 (byt x 25:Nat),.int .u8 (byt x 26:Nat),.int .u8 (byt x 27:Nat),.int .u8 (byt x 28:Nat),.int .u8 (byt x 29:Nat),.int .u8 (byt x 30:Nat),.int .u8 (byt x 31:Nat)]) (.agg #[.int .u8 (byt y 0:Nat),.int .u8 (byt y 1:Nat),.int .u8 (byt y 2:Nat),.int .u8 (byt y 3:Nat),.int .u8 (byt y 4:Nat),.int .u8 (byt y 5:Nat),.int .u8 (byt y 6:Nat),.int .u8 (byt y 7:Nat),.int .u8 (byt y 8:Nat),.int .u8 (byt y 9:Nat),.int .u8 (byt y 10:Nat),.int .u8 (byt y 11:Nat),.int .u8 (byt y 12:Nat),.int .u8 (byt y 13:Nat),.int .u8 (byt y 14:Nat),.int .u8 (byt y 15:Nat),.int .u8 (byt y 16:Nat),.int .u8 (byt y 17:Nat),.int .u8 (byt y 18:Nat),.int .u8 (byt y 19:Nat),.int .u8 (byt y 20:Nat),.int .u8 (byt y 21:Nat),.int .u8 (byt y 22:Nat),.int .u8 (byt y 23:Nat),.int .u8 (byt y 24:Nat),.int .u8 (byt y 25:Nat),.int .u8 (byt y 26:Nat),.int .u8 (byt y 27:Nat),.int .u8 (byt y 28:Nat),.int .u8 (byt y 29:Nat),.int .u8 (byt y 30:Nat),.int .u8 (byt y 31:Nat)])).run prog w=.ok (decide (x=y)) w:=by
 have h:=Tz (k:=.u8) yL d (IV x) (IV y) w (List.range 32) (by intro j a;simp[IV]at *; exact a);rw[o6 c e]at h;show(Op.equalIn (d+2) 64 (.agg ((IV x).map (Value.int .u8)).toArray) (.agg ((IV y).map (Value.int .u8)).toArray)).run prog w=_;rw[run_equalIn_array w (d+1) _ _ yY (i:=prog.types[5]) rfl,show prog.cellsOf 5=1 by kernel_rfl];exact h
theorem ag(e:x<R)(f:y<R)(a:x'<R)(c:y'<R):BOy .eql 141 (PT x y) (PT x' y') (.bool (decide (x=x'/\y=y'))):=by
 intro p q w
 unfold PT
 go_simp
 rw[T2 _ e a];by_cases h:x=x'
 .simp[h,T2 _ f c,Result.andThen]
  by_cases d:y=y'<;>simp[d]
 .simp[h,Result.andThen]
def onF(x y:F):Bool:=decide (y*y=(x*x-3)*x+cb)
theorem PH{x y:F}:onF x y=true↔TollEc.onE x y:=by
 unfold onF TollEc.onE;rw[decide_eq_true_iff,show(x*x-3)*x+cb=x*x*x-3*x+cb by grind-lia]
def onB(x y:Nat):Bool:=if h:x<pp/\y<pp then onF ⟨x,h.1⟩ ⟨y,h.2⟩else false
theorem MM(g:x<R)(i:y<R)(w:World)(f:At w b pp)(e:Laid w):CGy 123 #[FV b,PT x y] w (.bool (onB x y)):=by
 by_cases a:x<pp
 .by_cases d:y<pp
  .have h:=lB (b:=b) ⟨x,a⟩ ⟨y,d⟩ w f e
   rw[show onB x y=onF ⟨x,a⟩ ⟨y,d⟩ from dif_pos ⟨a,d⟩];exact h
  .rw[show onB x y=false from dif_neg (λc=>d c.2)];exact k5 g i w f e a d
 .rw[show onB x y=false from dif_neg (λc=>a c.1)];exact k6 g i w f e a
def toP(x y:Nat):Pt:=if h:x<pp/\y<pp then(if onF ⟨x,h.1⟩ ⟨y,h.2⟩then .aff ⟨x,h.1⟩ ⟨y,h.2⟩else .inf)else .inf
def Gr(x y:Nat):Jp:=if h:x<pp/\y<pp then(if onF ⟨x,h.1⟩ ⟨y,h.2⟩then⟨⟨x,h.1⟩,⟨y,h.2⟩,1⟩else⟨0,0,0⟩)else⟨0,0,0⟩
theorem S5(j:x<R)(l:y<R)(w:World)(i:At w b pp)(g:Laid w):CGy 134 #[FV b,PT x y] w (TF (Gr x y)):=by
 have a:=fun(f:World) (d:Gw w f)=>MM j l f (i.gw d) (g.gw d)
 by_cases h:x<pp/\y<pp
 .by_cases c:onF ⟨x,h.1⟩ ⟨y,h.2⟩=true
  .have e:onB x y=true:=(dif_pos h).trans c
   rw[e]at a;rw[show Gr x y=⟨⟨x,h.1⟩,⟨y,h.2⟩,1⟩ from(dif_pos h).trans (x9 c)];exact mF ⟨x,h.1⟩ ⟨y,h.2⟩ w a
  .have e:onB x y=false:=(dif_pos h).trans (by simpa using c)
   rw[e]at a;rw[show Gr x y=⟨0,0,0⟩ from(dif_pos h).trans (x8 c)];exact Yt w a
 .have e:onB x y=false:=dif_neg h
  rw[e]at a;rw[show Gr x y=⟨0,0,0⟩ from dif_neg h];exact Yt w a
theorem KY(x y:Nat):(Gr x y).rep=toP x y:=by
 unfold Gr toP;split
 .split
  .exact TollEc.rep_one _ _
  .exact TollEc.rep_inf rfl
 .exact TollEc.rep_inf rfl
theorem N4(x y:Nat):(toP x y).on:=by
 unfold toP;split
 .split
  .rename_i h;exact PH.1 h
  .exact True.intro
 .exact True.intro
def xv:Pt->Nat
 | .inf=>0
 | .aff x _=>x.val
def yv:Pt->Nat
 | .inf=>0
 | .aff _ y=>y.val
def PV(p:Pt):Value:=PT (xv p) (yv p)
theorem Hd(p:Pt):xv p<R:=by cases p with|inf=>decide|aff x y=>exact B7 x
theorem Nz(p:Pt):yv p<R:=by cases p with|inf=>decide|aff x y=>exact B7 y
theorem Q7{p:Pt}(h:p.on):toP (xv p) (yv p)=p:=by
 cases p with
 |inf=>
  have:onF ⟨0,by decide⟩ ⟨0,by decide⟩=false:=by decide+kernel
  exact(dif_pos ⟨by decide,by decide⟩).trans (x8 (λc=>Bool.false_ne_true (this.symm.trans c)))
 |aff x y=>exact(dif_pos ⟨x.isLt,y.isLt⟩).trans (x9 (PH.2 h))
theorem al(j:Jp)(w:World)(a:At w b pp):CGy 132 #[FV b,TF j] w (PV j.rep):=by
 obtain⟨x,y,z⟩:=j;by_cases h:z=0
 .subst h
  rw[TollEc.rep_inf rfl];exact o9 x y w a
 .obtain⟨i,c⟩:=TollEc.inv_ex z h
  rw[TollEc.rep_of (j:=⟨x,y,z⟩) c];exact pA x y z i _ _ _ _ w a c rfl rfl rfl rfl
theorem o1(a:x=0)(c:y=0):BOy .eql 141 (PT x y) (.agg #[.int .u8 0,.int .u8 0,.int .u8 0,.int .u8 0,.int .u8 0,.int .u8 0,.int .u8 0,.int .u8 0,.int .u8 0,.int .u8 0,.int .u8 0,.int .u8 0,.int .u8 0,.int .u8 0,.int .u8 0,.int .u8 0,.int .u8 0,.int .u8 0,.int .u8 0,.int .u8 0,.int .u8 0,.int .u8 0,.int .u8 0,.int .u8 0,.int .u8 0,.int .u8 0,.int .u8 0,.int .u8 0,.int .u8 0,.int .u8 0,.int .u8 0,.int .u8 0,.int .u8 0,.int .u8 0,.int .u8 0,.int .u8 0,.int .u8 0,.int .u8 0,.int .u8 0,.int .u8 0,.int .u8 0,.int .u8 0,.int .u8 0,.int .u8 0,.int .u8 0,.int .u8 0,.int .u8 0,.int .u8 0,.int .u8 0,.int .u8 0,.int .u8 0,.int .u8 0,.int .u8 0,.int .u8 0,.int .u8 0,.int .u8 0,.int .u8 0,.int .u8 0,.int .u8 0,.int .u8 0,.int .u8 0,.int .u8 0,.int .u8 0,.int .u8 0]) (.bool true):=by
 intro p q w
 subst a c;have:=ag (x:=0) (y:=0) (x':=0) (y':=0) (by decide) (by decide) (by decide) (by decide) p q w;exact this
theorem o0(a:x<R)(c:y<R)(h: ¬(x=0/\y=0)):BOy .eql 141 (PT x y) (.agg #[.int .u8 0,.int .u8 0,.int .u8 0,.int .u8 0,.int .u8 0,.int .u8 0,.int .u8 0,.int .u8 0,.int .u8 0,.int .u8 0,.int .u8 0,.int .u8 0,.int .u8 0,.int .u8 0,.int .u8 0,.int .u8 0,.int .u8 0,.int .u8 0,.int .u8 0,.int .u8 0,.int .u8 0,.int .u8 0,.int .u8 0,.int .u8 0,.int .u8 0,.int .u8 0,.int .u8 0,.int .u8 0,.int .u8 0,.int .u8 0,.int .u8 0,.int .u8 0,.int .u8 0,.int .u8 0,.int .u8 0,.int .u8 0,.int .u8 0,.int .u8 0,.int .u8 0,.int .u8 0,.int .u8 0,.int .u8 0,.int .u8 0,.int .u8 0,.int .u8 0,.int .u8 0,.int .u8 0,.int .u8 0,.int .u8 0,.int .u8 0,.int .u8 0,.int .u8 0,.int .u8 0,.int .u8 0,.int .u8 0,.int .u8 0,.int .u8 0,.int .u8 0,.int .u8 0,.int .u8 0,.int .u8 0,.int .u8 0,.int .u8 0,.int .u8 0]) (.bool false):=by
 intro p q w
 have:=ag (x':=0) (y':=0) a c (by decide) (by decide) p q w;rw[yB h]at this;exact this
theorem cB(a:k<256)(w:World):CGy 136 #[N n,.int .i64 (((k+1:Nat):Int)-1)] w (.int .i64 (n/2^k %2:Nat)):=by
 rw[show((k+1:Nat):Int)-1=(k:Int) by omega];exact rA n k a w
theorem mK{t r:Jp}(d:k<256)(a:n/2^k %2=1)(c:r=TollEc.ladder n t (256-(k+1))):D5 (Df r) t=TollEc.ladder n t (256-k):=by
 rw[c,show 256-k=(256-(k+1))+1 by omega];show _=(if n/2^(255-(256-(k+1))) %2=1 then _ else _)
 rw[show 255-(256-(k+1))=k by omega,x9 a]
theorem mL{t r:Jp}(d:k<256)(a: ¬n/2^k %2=1)(c:r=TollEc.ladder n t (256-(k+1))):Df r=TollEc.ladder n t (256-k):=by
 rw[c,show 256-k=(256-(k+1))+1 by omega];show _=(if n/2^(255-(256-(k+1))) %2=1 then _ else _)
 rw[show 255-(256-(k+1))=k by omega,x8 a]
theorem ss(j:x<R)(l:y<R)(g:x'<R)(h:y'<R)(w:World)(d:Laid w):CGy 84 #[PT x y,PT x' y'] w (PV (D5 (Gr x y) (Gr x' y')).rep):=by
 go_enter func84,ntmps84
 refine Cz ?_
 refine I5 ?_
 refine AV (by exact QE rfl rfl gg rfl (eo func122) (Ck pp) 199 (λa e=>Sk a (d.gw e))) ?_;refine AV (by exact BZ rfl rfl gg zeroValue192) ?_;refine AV (by exact Tq rfl gg rfl rfl rfl sizeOf192 (by simp)) ?_;iterate 3 refine iN ?_
 iterate 3 refine Is ?_
 refine Ls ?_;refine AV (by exact Aj [6] rfl gg rfl (eo func134) (λρ a c=>S5 j l a (Ha c (by simp) rfl) (d.gw c.1))) ?_;refine Is ?_;refine Ls ?_;refine AV (by exact Aj [6] rfl gg rfl (eo func134) (λρ a c=>S5 g h a (Ha c (by simp) rfl) (d.gw c.1))) ?_;refine AV (by exact Aj [6] rfl gg rfl (eo func133) (λρ a c=>cZ _ _ a (Ha c (by simp) rfl))) ?_;refine AV (by exact Aj [6] rfl gg rfl (eo func132) (λρ a c=>al _ a (Ha c (by simp) rfl))) ?_;refine Lq ?_;refine Dn ?_;refine AD (AH results84 (Ac rfl rfl DQ rfl uA3 rfl rfl)) ?_;intro a i;exact⟨rfl,i⟩
theorem sF(E:n<R)(F:x<R)(G:y<R)(w:World)(u:Laid w):CGy 85 #[B32 n,PT x y] w (PV (TollEc.ladder n (Gr x y) 256).rep):=by
 go_enter func85,ntmps85
 refine Cz ?_
 refine I5 ?_
 refine AV (by exact QE rfl rfl gg rfl (eo func122) (Ck pp) 199 (λa d=>Sk a (u.gw d))) ?_;refine AV (by exact BZ rfl rfl gg zeroValue192) ?_;refine AV (by exact Tq rfl gg rfl rfl rfl sizeOf192 (by simp)) ?_;iterate 3 refine iN ?_
 refine HE ?_;refine AV (by exact AM rfl gg rfl (eo zZ) (λa d=>ofN n E a)) ?_;refine Is ?_;refine Ls ?_;refine AV (by exact Aj [10] rfl gg rfl (eo func134) (λρ a c=>S5 F G a (Ha c (by simp) rfl) (u.gw c.1))) ?_;refine CV ?_;refine OT ?_;refine Ho ?_;refine Lt ?_;iterate 3 refine iN ?_
 refine OT ?_;iterate 7 refine BJ ?_
 obtain⟨t,B⟩:∃t,t=Gr x y:=⟨_,rfl⟩
 rw[<-B];refine Ii (λi s=> ∃(r:Jp),i<=256/\r=TollEc.ladder n t (256-i)/\s.fr=[.v (B32 n),.v (PT x y),.p 2 0,.p 3 0,.p 4 0,.p 5 0,.p 6 0,.p 7 0,.p 8 0,.v (.int .i64 ((i:Int)-1)),.ap 10 0,s.fr.getD 11 default,s.fr.getD 12 default,s.fr.getD 13 default,s.fr.getD 14 default,s.fr.getD 15 default,s.fr.getD 16 default,s.fr.getD 17 default,s.fr.getD 18 default,s.fr.getD 19 default,s.fr.getD 20 default,s.fr.getD 21 default,s.fr.getD 22 default,s.fr.getD 23 default,s.fr.getD 24 default,s.fr.getD 25 default,s.fr.getD 26 default,s.fr.getD 27 default,s.fr.getD 28 default,s.fr.getD 29 default,s.fr.getD 30 default,s.fr.getD 31 default,s.fr.getD 32 default,s.fr.getD 33 default]/\s.mem=AJ [(8,([.v (.int .u64 (lv r.x 0:Nat)),.v (.int .u64 (lv r.x 1:Nat)),.v (.int .u64 (lv r.x 2:Nat)),.v (.int .u64 (lv r.x 3:Nat)),.v (.int .u64 (lv r.y 0:Nat)),.v (.int .u64 (lv r.y 1:Nat)),.v (.int .u64 (lv r.y 2:Nat)),.v (.int .u64 (lv r.y 3:Nat)),.v (.int .u64 (lv r.z 0:Nat)),.v (.int .u64 (lv r.z 1:Nat)),.v (.int .u64 (lv r.z 2:Nat)),.v (.int .u64 (lv r.z 3:Nat))],205)),(7,([.v (.int .u64 (lv t.x 0:Nat)),.v (.int .u64 (lv t.x 1:Nat)),.v (.int .u64 (lv t.x 2:Nat)),.v (.int .u64 (lv t.x 3:Nat)),.v (.int .u64 (lv t.y 0:Nat)),.v (.int .u64 (lv t.y 1:Nat)),.v (.int .u64 (lv t.y 2:Nat)),.v (.int .u64 (lv t.y 3:Nat)),.v (.int .u64 (lv t.z 0:Nat)),.v (.int .u64 (lv t.z 1:Nat)),.v (.int .u64 (lv t.z 2:Nat)),.v (.int .u64 (lv t.z 3:Nat))],205)),(6,([.v (.int .u64 (lim n 0:Nat)),.v (.int .u64 (lim n 1:Nat)),.v (.int .u64 (lim n 2:Nat)),.v (.int .u64 (lim n 3:Nat))],147)),(5,([.p 10 0],192)),(10,((Ck pp).map SV.v,199)),(4,([.v (.int .u8 0),.v (.int .u8 0),.v (.int .u8 0),.v (.int .u8 0),.v (.int .u8 0),.v (.int .u8 0),.v (.int .u8 0),.v (.int .u8 0),.v (.int .u8 0),.v (.int .u8 0),.v (.int .u8 0),.v (.int .u8 0),.v (.int .u8 0),.v (.int .u8 0),.v (.int .u8 0),.v (.int .u8 0),.v (.int .u8 0),.v (.int .u8 0),.v (.int .u8 0),.v (.int .u8 0),.v (.int .u8 0),.v (.int .u8 0),.v (.int .u8 0),.v (.int .u8 0),.v (.int .u8 0),.v (.int .u8 0),.v (.int .u8 0),.v (.int .u8 0),.v (.int .u8 0),.v (.int .u8 0),.v (.int .u8 0),.v (.int .u8 0),.v (.int .u8 0),.v (.int .u8 0),.v (.int .u8 0),.v (.int .u8 0),.v (.int .u8 0),.v (.int .u8 0),.v (.int .u8 0),.v (.int .u8 0),.v (.int .u8 0),.v (.int .u8 0),.v (.int .u8 0),.v (.int .u8 0),.v (.int .u8 0),.v (.int .u8 0),.v (.int .u8 0),.v (.int .u8 0),.v (.int .u8 0),.v (.int .u8 0),.v (.int .u8 0),.v (.int .u8 0),.v (.int .u8 0),.v (.int .u8 0),.v (.int .u8 0),.v (.int .u8 0),.v (.int .u8 0),.v (.int .u8 0),.v (.int .u8 0),.v (.int .u8 0),.v (.int .u8 0),.v (.int .u8 0),.v (.int .u8 0),.v (.int .u8 0)],141)),(3,([.v (.int .u8 (byt x 0:Nat)),.v (.int .u8 (byt x 1:Nat)),.v (.int .u8 (byt x 2:Nat)),.v (.int .u8 (byt x 3:Nat)),.v (.int .u8 (byt x 4:Nat)),.v (.int .u8 (byt x 5:Nat)),.v (.int .u8 (byt x 6:Nat)),.v (.int .u8 (byt x 7:Nat)),.v (.int .u8 (byt x 8:Nat)),.v (.int .u8 (byt x 9:Nat)),.v (.int .u8 (byt x 10:Nat)),.v (.int .u8 (byt x 11:Nat)),.v (.int .u8 (byt x 12:Nat)),.v (.int .u8 (byt x 13:Nat)),.v (.int .u8 (byt x 14:Nat)),.v (.int .u8 (byt x 15:Nat)),.v (.int .u8 (byt x 16:Nat)),.v (.int .u8 (byt x 17:Nat)),.v (.int .u8 (byt x 18:Nat)),.v (.int .u8 (byt x 19:Nat)),.v (.int .u8 (byt x 20:Nat)),.v (.int .u8 (byt x 21:Nat)),.v (.int .u8 (byt x 22:Nat)),.v (.int .u8 (byt x 23:Nat)),.v (.int .u8 (byt x 24:Nat)),.v (.int .u8 (byt x 25:Nat)),.v (.int .u8 (byt x 26:Nat)),.v (.int .u8 (byt x 27:Nat)),.v (.int .u8 (byt x 28:Nat)),.v (.int .u8 (byt x 29:Nat)),.v (.int .u8 (byt x 30:Nat)),.v (.int .u8 (byt x 31:Nat)),.v (.int .u8 (byt y 0:Nat)),.v (.int .u8 (byt y 1:Nat)),.v (.int .u8 (byt y 2:Nat)),.v (.int .u8 (byt y 3:Nat)),.v (.int .u8 (byt y 4:Nat)),.v (.int .u8 (byt y 5:Nat)),.v (.int .u8 (byt y 6:Nat)),.v (.int .u8 (byt y 7:Nat)),.v (.int .u8 (byt y 8:Nat)),.v (.int .u8 (byt y 9:Nat)),.v (.int .u8 (byt y 10:Nat)),.v (.int .u8 (byt y 11:Nat)),.v (.int .u8 (byt y 12:Nat)),.v (.int .u8 (byt y 13:Nat)),.v (.int .u8 (byt y 14:Nat)),.v (.int .u8 (byt y 15:Nat)),.v (.int .u8 (byt y 16:Nat)),.v (.int .u8 (byt y 17:Nat)),.v (.int .u8 (byt y 18:Nat)),.v (.int .u8 (byt y 19:Nat)),.v (.int .u8 (byt y 20:Nat)),.v (.int .u8 (byt y 21:Nat)),.v (.int .u8 (byt y 22:Nat)),.v (.int .u8 (byt y 23:Nat)),.v (.int .u8 (byt y 24:Nat)),.v (.int .u8 (byt y 25:Nat)),.v (.int .u8 (byt y 26:Nat)),.v (.int .u8 (byt y 27:Nat)),.v (.int .u8 (byt y 28:Nat)),.v (.int .u8 (byt y 29:Nat)),.v (.int .u8 (byt y 30:Nat)),.v (.int .u8 (byt y 31:Nat))],141)),(2,([.v (.int .u8 (byt n 0:Nat)),.v (.int .u8 (byt n 1:Nat)),.v (.int .u8 (byt n 2:Nat)),.v (.int .u8 (byt n 3:Nat)),.v (.int .u8 (byt n 4:Nat)),.v (.int .u8 (byt n 5:Nat)),.v (.int .u8 (byt n 6:Nat)),.v (.int .u8 (byt n 7:Nat)),.v (.int .u8 (byt n 8:Nat)),.v (.int .u8 (byt n 9:Nat)),.v (.int .u8 (byt n 10:Nat)),.v (.int .u8 (byt n 11:Nat)),.v (.int .u8 (byt n 12:Nat)),.v (.int .u8 (byt n 13:Nat)),.v (.int .u8 (byt n 14:Nat)),.v (.int .u8 (byt n 15:Nat)),.v (.int .u8 (byt n 16:Nat)),.v (.int .u8 (byt n 17:Nat)),.v (.int .u8 (byt n 18:Nat)),.v (.int .u8 (byt n 19:Nat)),.v (.int .u8 (byt n 20:Nat)),.v (.int .u8 (byt n 21:Nat)),.v (.int .u8 (byt n 22:Nat)),.v (.int .u8 (byt n 23:Nat)),.v (.int .u8 (byt n 24:Nat)),.v (.int .u8 (byt n 25:Nat)),.v (.int .u8 (byt n 26:Nat)),.v (.int .u8 (byt n 27:Nat)),.v (.int .u8 (byt n 28:Nat)),.v (.int .u8 (byt n 29:Nat)),.v (.int .u8 (byt n 30:Nat)),.v (.int .u8 (byt n 31:Nat))],64))]) ?_ 256 ?_;rotate_left
 .exact⟨⟨0,0,0⟩,yD _,rfl,rfl,rfl⟩
 rintro i ⟨q,I⟩ ⟨r,H,o,g,j⟩;obtain⟨f,C⟩:∃f:Nat->SV,q=[.v (B32 n),.v (PT x y),.p 2 0,.p 3 0,.p 4 0,.p 5 0,.p 6 0,.p 7 0,.p 8 0,.v (.int .i64 ((i:Int)-1)),.ap 10 0,f 11,f 12,f 13,f 14,f 15,f 16,f 17,f 18,f 19,f 20,f 21,f 22,f 23,f 24,f 25,f 26,f 27,f 28,f 29,f 30,f 31,f 32,f 33]:=⟨λi=>q.getD i default,g⟩
 clear g;simp only at j;subst C j;cases i with
 |succ k=>
  have l:k<256:=by omega
  have e:IntKind.i64.wrap (((k+1:Nat):Int)-1-1)=(k:Int)-1:=by rw[Ah (by omega) (by omega)];omega
  have h:decide ((0:Int)<=((k+1:Nat):Int)-1)=true:=yE (by omega);by_cases A:n/2^k %2=1
  .have m:decide (((n/2^k %2:Nat):Int)=1)=true:=yE (by omega)
   iterate 4 refine BJ ?_
   refine AV (by exact B4 (p:=true) rfl gg rfl rfl h) ?_;iterate 7 refine iN ?_
   refine Is ?_;refine It ?_;refine AV (by exact Aj [10] rfl gg rfl (eo func135) (λρ a c=>T6 _ a (Ha c (by simp) rfl))) ?_;refine Lt ?_;iterate 3 refine iN ?_
   refine oR ?_;refine BJ ?_;refine AV (by exact AM rfl gg rfl (eo func136) (λa d=>cB l a)) ?_;refine AV (by exact Ag (p:=true) rfl gg rfl rfl m) ?_;iterate 3 refine iN ?_
   refine Is ?_;iterate 2 refine It ?_
   refine AV (by exact Aj [10] rfl gg rfl (eo func133) (λρ a c=>cZ _ _ a (Ha c (by simp) rfl))) ?_;refine Lt ?_;iterate 3 refine BJ ?_
   refine AV (by exact Bu rfl gg rfl rfl e) ?_;iterate 2 refine BJ ?_
   exact⟨k,by omega,_,by omega,mK l A o,rfl,rfl⟩
  .have m:decide (((n/2^k %2:Nat):Int)=1)=false:=yB (by omega)
   iterate 4 refine BJ ?_
   refine AV (by exact B4 (p:=true) rfl gg rfl rfl h) ?_;iterate 7 refine iN ?_
   refine Is ?_;refine It ?_;refine AV (by exact Aj [10] rfl gg rfl (eo func135) (λρ a c=>T6 _ a (Ha c (by simp) rfl))) ?_;refine Lt ?_;iterate 3 refine iN ?_
   refine oR ?_;refine BJ ?_;refine AV (by exact AM rfl gg rfl (eo func136) (λa d=>cB l a)) ?_;refine AV (by exact Ag (p:=false) rfl gg rfl rfl m) ?_;iterate 5 refine BJ ?_
   refine AV (by exact Bu rfl gg rfl rfl e) ?_;iterate 2 refine BJ ?_
   exact⟨k,by omega,_,by omega,mL l A o,rfl,rfl⟩
 |zero=>
  iterate 4 refine BJ ?_
  refine AV (by exact B4 (p:=false) rfl gg rfl rfl (by decide)) ?_;iterate 2 refine iN ?_
  refine As ?_;change VOk _ _ _ _ _;refine BP ?_
  refine Is ?_;refine It ?_;refine AV (by exact Aj [10] rfl gg rfl (eo func132) (λρ a c=>al _ a (Ha c (by simp) rfl))) ?_;refine Lq ?_;refine Dn ?_;refine AD (AH results85 (Ac rfl rfl DQ rfl uA3 rfl rfl)) ?_;intro a D;exact⟨by rw[o,B];exact rfl,D⟩
end Go.Proofs.YtafbhakmkbehiaaGreatDoor
