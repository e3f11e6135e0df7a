import Derived.Laws.BitsLemmas
import Derived.Shelf.Spec.BitsCarry
import Derived.Laws.Tables
import Derived.Test.YtefpajmkaaielaaGreatDoorW2
import Derived.Test.YtefpajmkaaielaaGreatDoorW3
import Derived.Test.YtefpajmkaaielaaGreatDoorW4
open Go.Proofs.Tryz
set_option maxHeartbeats 4000000
set_option maxRecDepth 100000
namespace Go.Proofs.YtefpajmkaaielaaGreatDoor
open Go.RowKit Go.Toll
variable{b n:Nat}{Q:Nat→Value→Prop}{P:Program}{w:World}
theorem FS(n:Nat):IntKind.u64.wrap (n:Int)=((n %18446744073709551616:Nat):Int):=by rw[IntKind.wrap_u64];omega
theorem N0(x y:Nat):BOy .mul 22 (.int .u64 (x:Nat)) (.int .u64 (y:Nat)) (.int .u64 ((x*y) %18446744073709551616:Nat)):=by
 intro p q w
 go_simp
 exact FS (x*y)
theorem rn(x y:Nat):BOy .sub 22 (.int .u64 (x:Nat)) (.int .u64 (y:Nat)) (.int .u64 (((x:Int)-(y:Int)) %18446744073709551616).toNat):=by
 intro p q w
 go_simp
 rw[IntKind.wrap_u64];omega
theorem rN(x y:Nat):bits .or .u64 (x:Int) (y:Int)=((x %18446744073709551616|||y %18446744073709551616:Nat):Int):=by
 simp only[bits,BitVec.ofInt_natCast,BitVec.toNat_or,BitVec.toNat_ofNat];rw[show IntKind.u64.bits=64 from rfl,show(2:Nat)^64=18446744073709551616 by decide,FS,Nat.mod_eq_of_lt];exact Nat.or_lt_two_pow (n:=64) (Nat.mod_lt _ (by decide)) (Nat.mod_lt _ (by decide))
theorem rT(x:Nat):bits .and .u64 (x:Int) 1=((x %2:Nat):Int):=by
 rw[show(1:Int)=((1:Nat):Int) from rfl];simp only[bits,BitVec.ofInt_natCast,BitVec.toNat_and,BitVec.toNat_ofNat];rw[show IntKind.u64.bits=64 from rfl,show(1:Nat) %2^64=1 by decide,Nat.and_one_is_mod,FS];omega
theorem JV(x:Nat):BOy .and 22 (.int .u64 (x:Nat)) (.int .u64 1) (.int .u64 (x %2:Nat)):=by
 intro p q w
 go_simp
 exact rT x
theorem RU(x y:Nat):BOy .or 22 (.int .u64 (x:Nat)) (.int .u64 (y:Nat)) (.int .u64 (x %18446744073709551616|||y %18446744073709551616:Nat)):=by
 intro p q w
 go_simp
 exact rN x y
theorem rq(x:Nat):BOy .shr 22 (.int .u64 (x:Nat)) (.int .u64 1) (.int .u64 (x/2:Nat)):=by
 intro p q w
 go_simp
theorem ry(x:Nat):BOy .shl 22 (.int .u64 (x:Nat)) (.int .u64 63) (.int .u64 (x*9223372036854775808 %18446744073709551616:Nat)):=by
 intro p q w
 go_simp
 exact FS (x*9223372036854775808)
theorem Qp{d t el:Nat}{k k':IntKind}(ht:P.underlying t=some (.array 4 el))(he:P.underlying el=some (.int k'))(hs: ∀w,(Go.sizeOf el).run P w= .ok 1 w)(a0 a1 a2 a3 b0 b1 b2 b3:Int)(w:World):
 (Op.equalIn (d+2) t (.agg #[.int k a0,.int k a1,.int k a2,.int k a3]) (.agg #[.int k b0,.int k b1,.int k b2,.int k b3])).run P w= .ok (a0==b0 && a1==b1 && a2==b2 && a3==b3) w:=by
 have hi: ∀a b:Int,(Op.equalIn (d+1) el (.int k a) (.int k b)).run P w= .ok (a==b) w:=fun a b=>run_equalIn_int w d el k k' a b he
 have hp: ∀(xs:Array Value) (i:Nat) (v:Value),xs[i]? =some v→(part el xs i).run P w= .ok v w:=fun xs i v h=>by
  simp[part,Bu he,Bc,h]
 rw[Op.equalIn];simp only[Sem.run_bind,run_underlying ht,Result.andThen_ok,hs];simp[List.range',hp,hi];by_cases h0:a0=b0<;>by_cases h1:a1=b1<;>by_cases h2:a2=b2<;>by_cases h3:a3=b3<;>simp[h0,h1,h2,h3]
theorem RP(x y:Nat):((x:Int)==(y:Int))=decide (x=y):=by
 by_cases h:x=y
 ·simp[h]
 ·simp[h];omega
theorem NU(t:TypeId)(ht:t=96∨t=95)(a0 a1 a2 a3 b0 b1 b2 b3:Nat)(p q:Operand)(w:World):
 (do eqGuard .eql t p q (.agg #[.int .u64 a0,.int .u64 a1,.int .u64 a2,.int .u64 a3]) (.agg #[.int .u64 b0,.int .u64 b1,.int .u64 b2,.int .u64 b3]);binOp .eql t (.agg #[.int .u64 a0,.int .u64 a1,.int .u64 a2,.int .u64 a3]) (.agg #[.int .u64 b0,.int .u64 b1,.int .u64 b2,.int .u64 b3]):Sem Value).run prog w=
  .ok (.bool (decide (a0=b0∧a1=b1∧a2=b2∧a3=b3))) w:=by
 rcases ht with rfl|rfl
 ·go_simp
  rw[Qp underlying96 underlying22 sizeOf22];simp only[Result.andThen,RP];simp[Bool.and_assoc]
 ·go_simp
  rw[Qp underlying95 underlying22 sizeOf22];simp only[Result.andThen,RP];simp[Bool.and_assoc]
theorem PY(a0 a1 a2 a3 b0 b1 b2 b3:Nat)(p q:Operand)(w:World):
 (do eqGuard .neq 96 p q (.agg #[.int .u64 a0,.int .u64 a1,.int .u64 a2,.int .u64 a3]) (.agg #[.int .u64 b0,.int .u64 b1,.int .u64 b2,.int .u64 b3]);binOp .neq 96 (.agg #[.int .u64 a0,.int .u64 a1,.int .u64 a2,.int .u64 a3]) (.agg #[.int .u64 b0,.int .u64 b1,.int .u64 b2,.int .u64 b3]):Sem Value).run prog w=
  .ok (.bool (!decide (a0=b0∧a1=b1∧a2=b2∧a3=b3))) w:=by
 go_simp
 rw[Qp underlying96 underlying22 sizeOf22];simp only[Result.andThen,RP];simp[Bool.and_assoc]
open TollMont
def N(n:Nat):Value:= .agg #[.int .u64 (lim n 0:Nat),.int .u64 (lim n 1:Nat),.int .u64 (lim n 2:Nat),.int .u64 (lim n 3:Nat)]
def sb(x y b:Nat):Nat:=(x+W-y-b) %W
def bo(x y b:Nat):Nat:=if x<y+b then 1 else 0
theorem RI(x y b:Nat):bo x y b≤1:=by unfold bo;split<;>omega
theorem L3(x y b:Nat)(hb:b≤1)(w:World):(callFunc 107 #[.int .u64 x,.int .u64 y,.int .u64 b]).run prog w=
 .ok (.value (.tuple #[.int .u64 (sb x y b:Nat),.int .u64 (bo x y b:Nat)])) w:=by
 rw[run_callFunc_extern func107 (by kernel_rfl) (by kernel_rfl) (by kernel_rfl) (e:=sub64Entry) (by kernel_rfl),run_sub64 x y b hb];rfl
theorem IQ(n m:Nat)(hn:n<R)(hm:m<R)(w:World):
 CGy 75 #[N n,N m] w (.tuple #[N (dif n m),.int .u64 (if n<m then 1 else 0:Nat)]):=by
 obtain⟨e0,e1,e2,e3,e4⟩:=bR n m hn hm (sb (lim n 0) (lim m 0) 0) (bo (lim n 0) (lim m 0) 0) (sb (lim n 1) (lim m 1) (bo (lim n 0) (lim m 0) 0)) (bo (lim n 1) (lim m 1) (bo (lim n 0) (lim m 0) 0))
  (sb (lim n 2) (lim m 2) (bo (lim n 1) (lim m 1) (bo (lim n 0) (lim m 0) 0))) (bo (lim n 2) (lim m 2) (bo (lim n 1) (lim m 1) (bo (lim n 0) (lim m 0) 0)))
  (sb (lim n 3) (lim m 3) (bo (lim n 2) (lim m 2) (bo (lim n 1) (lim m 1) (bo (lim n 0) (lim m 0) 0)))) (bo (lim n 3) (lim m 3) (bo (lim n 2) (lim m 2) (bo (lim n 1) (lim m 1) (bo (lim n 0) (lim m 0) 0)))) rfl rfl rfl rfl rfl rfl rfl rfl
 have h:=bS (lim n 0) (lim n 1) (lim n 2) (lim n 3) (lim m 0) (lim m 1) (lim m 2) (lim m 3) _ _ _ _ _ _ _ _ w (fun w=>L3 _ _ 0 (by omega) w) (fun w=>L3 _ _ _ (RI _ _ _) w) (fun w=>L3 _ _ _ (RI _ _ _) w) (fun w=>L3 _ _ _ (RI _ _ _) w);rw[e4,e3,e2,e1,e0]at h;exact h
def ac(x y c:Nat):Nat:=(x+y+c) %W
def co(x y c:Nat):Nat:=(x+y+c)/W
theorem Gt(x y c:Nat)(hc:c≤1)(w:World):(callFunc 106 #[.int .u64 x,.int .u64 y,.int .u64 c]).run prog w=
 .ok (.value (.tuple #[.int .u64 (ac x y c:Nat),.int .u64 (co x y c:Nat)])) w:=by
 rw[run_callFunc_extern func106 (by kernel_rfl) (by kernel_rfl) (by kernel_rfl) (e:=add64Entry) (by kernel_rfl),run_add64 x y c (by omega) (by omega) (by omega) (by omega)];rfl
theorem Q5{x y c:Nat}(hx:x<W)(hy:y<W)(hc:c≤1):co x y c≤1:=by unfold co;simp only[W]at *; omega
theorem N7(n m:Nat)(hn:n<R)(hm:m<R)(w:World):
 CGy 77 #[N n,N m] w (.tuple #[N (n+m),.int .u64 ((n+m)/R:Nat)]):=by
 obtain⟨e0,e1,e2,e3,e4⟩:=tt n m hn hm (ac (lim n 0) (lim m 0) 0) (co (lim n 0) (lim m 0) 0) (ac (lim n 1) (lim m 1) (co (lim n 0) (lim m 0) 0)) (co (lim n 1) (lim m 1) (co (lim n 0) (lim m 0) 0))
  (ac (lim n 2) (lim m 2) (co (lim n 1) (lim m 1) (co (lim n 0) (lim m 0) 0))) (co (lim n 2) (lim m 2) (co (lim n 1) (lim m 1) (co (lim n 0) (lim m 0) 0)))
  (ac (lim n 3) (lim m 3) (co (lim n 2) (lim m 2) (co (lim n 1) (lim m 1) (co (lim n 0) (lim m 0) 0)))) (co (lim n 3) (lim m 3) (co (lim n 2) (lim m 2) (co (lim n 1) (lim m 1) (co (lim n 0) (lim m 0) 0)))) rfl rfl rfl rfl rfl rfl rfl rfl
 have l0:=Q5 (Ae n 0) (Ae m 0) (Nat.zero_le 1);have l1:=Q5 (Ae n 1) (Ae m 1) l0;have l2:=Q5 (Ae n 2) (Ae m 2) l1;have h:=t9 (lim n 0) (lim n 1) (lim n 2) (lim n 3) (lim m 0) (lim m 1) (lim m 2) (lim m 3) _ _ _ _ _ _ _ _ w (fun w=>Gt _ _ 0 (by omega) w) (fun w=>Gt _ _ _ l0 w) (fun w=>Gt _ _ _ l1 w) (fun w=>Gt _ _ _ l2 w);rw[e4,e3,e2,e1,e0]at h;exact h
def Bt(n:Nat):List Value:=[.int .u64 (lim n 0:Nat),.int .u64 (lim n 1:Nat),.int .u64 (lim n 2:Nat),.int .u64 (lim n 3:Nat)]
def Cc(m:Nat):List Value:=Bt m++[.int .u64 (E9 (lim m 0):Nat)]++Bt (R %m)++Bt (R*R %m)
def At(w:World)(b m:Nat):Prop:= ∀(j:Nat) (v:Value),(Cc m)[j]? =some v→w.cell? ⟨b,0+j,none⟩=some v
theorem At.gw{w':World}{m:Nat}(h:At w b m)(g:Gw w w'):At w' b m:=fun j v hj=>g.cell (h j v hj)
theorem Yx{m k:Nat}(h:At w b m)(hk: ∀j v,(Bt n)[j]? =some v→(Cc m)[k+j]? =some v): ∀(j:Nat) (v:Value),(Bt n)[j]? =some v→w.cell? ⟨b,k+j,none⟩=some v:=fun j v hj=>by
 have:=h (k+j) v (hk j v hj)
 rwa [Nat.zero_add]at this
theorem VP{j:Nat}{v:Value}(h0:Q 0 (.int .u64 (lim n 0:Nat)))(h1:Q 1 (.int .u64 (lim n 1:Nat)))(h2:Q 2 (.int .u64 (lim n 2:Nat)))(h3:Q 3 (.int .u64 (lim n 3:Nat)))
 (h:(Bt n)[j]? =some v):Q j v:=by
 match j,h with
 |0,h=>simp only[Bt,List.getElem?_cons_zero,Option.some.injEq]at h;exact h▸h0
 |1,h=>simp only[Bt,List.getElem?_cons_zero,List.getElem?_cons_succ,Option.some.injEq]at h;exact h▸h1
 |2,h=>simp only[Bt,List.getElem?_cons_zero,List.getElem?_cons_succ,Option.some.injEq]at h;exact h▸h2
 |3,h=>simp only[Bt,List.getElem?_cons_zero,List.getElem?_cons_succ,Option.some.injEq]at h;exact h▸h3
 |j+4,h=>simp[Bt]at h
theorem At.m{w:World}{b m:Nat}(h:At w b m): ∀(j:Nat) (v:Value),(Bt m)[j]? =some v→w.cell? ⟨b,0+j,none⟩=some v:=
 Yx h fun _j _v hj=>VP (Q:=fun j v=>(Cc m)[0+j]? =some v) rfl rfl rfl rfl hj
theorem At.two{m:Nat}(h:At w b m): ∀(j:Nat) (v:Value),(Bt (R*R %m))[j]? =some v→w.cell? ⟨b,9+j,none⟩=some v:=
 Yx h fun _j _v hj=>VP (Q:=fun j v=>(Cc m)[9+j]? =some v) rfl rfl rfl rfl hj
theorem At.neg{m:Nat}(h:At w b m):w.cell? ⟨b,4,none⟩=some (.int .u64 (E9 (lim m 0):Nat)):=h 4 _ rfl
def ptr(b:Nat):Value:= .pointer (some ⟨b,0,none⟩)
theorem ME(b m n o:Nat)(hm:m<R)(hn:n<R)(ho:o=0∨o=1)(w:World)(h: ∀(j:Nat) (v:Value),(Bt m)[j]? =some v→w.cell? ⟨b,0+j,none⟩=some v):
 CGy 78 #[ptr b,N n,.int .u64 (o:Nat)] w (N (if o=0∧n<m then n else dif n m)):=by
 have hs:=fun w'=>IQ n m hn hm w'
 rcases ho with rfl|rfl
 ·by_cases hlt:n<m
  ·rw[if_pos ⟨rfl,hlt⟩]
   exact cD b _ _ _ _ _ _ _ _ _ _ _ _ w h (fun w' _=>by have:=hs w';rw[if_pos hlt]at this;exact this)
  ·rw[if_neg (fun c=>hlt c.2)]
   exact cE b _ _ _ _ _ _ _ _ _ _ _ _ w h (fun w' _=>by have:=hs w';rw[if_neg hlt]at this;exact this)
 ·rw[if_neg (fun c=>by cases c.1)]
  by_cases hlt:n<m
  ·exact cB b _ _ _ _ _ _ _ _ _ _ _ _ w h (fun w' _=>by have:=hs w';rw[if_pos hlt]at this;exact this)
  ·exact cC b _ _ _ _ _ _ _ _ _ _ _ _ w h (fun w' _=>by have:=hs w';rw[if_neg hlt]at this;exact this)
theorem P3(n m:Nat)(hn:n<R)(hm:m<R)(w:World):CGy 58 #[N n,N m] w (.bool (decide (n<m))):=by
 by_cases hlt:n<m
 ·rw[decide_eq_true hlt]
  exact kM _ _ _ _ _ _ _ _ _ _ _ _ w (fun w' _=>by have:=IQ n m hn hm w';rw[if_pos hlt]at this;exact this)
 ·rw[decide_eq_false hlt]
  exact kN _ _ _ _ _ _ _ _ _ _ _ _ w (fun w' _=>by have:=IQ n m hn hm w';rw[if_neg hlt]at this;exact this)
end Go.Proofs.YtefpajmkaaielaaGreatDoor
namespace TollEc
open TollNt
structure Jp where
 x:F
 y:F
 z:F
deriving DecidableEq
def Jp.inf:Jp:=⟨0,0,0⟩
noncomputable def Jp.rep(j:Jp):Pt:=
 if j.z=0 then .inf else .aff (j.x*(Cr j.z*Cr j.z)) (j.y*(Cr j.z*(Cr j.z*Cr j.z)))
theorem rep_inf{j:Jp}(h:j.z=0):j.rep= .inf:=if_pos h
theorem rep_of{j:Jp}{i:F}(h:j.z*i=1):j.rep= .aff (j.x*(i*i)) (j.y*(i*(i*i))):=by
 have h0:j.z≠0:=by intro h0;rw[h0,Fin.zero_mul]at h;exact absurd h (by decide+kernel)
 unfold Jp.rep;rw[if_neg h0,nX h]
def CX(p:Jp):Jp:=
 if p.z=0∨p.y=0 then .inf
 else
  let zz:=p.z*p.z
  let yy:=p.y*p.y
  let b:=p.x*yy
  let m:=(p.x-zz)*(p.x+zz)
  let a:=m+m+m
  let b2:=b+b
  let four:=b2+b2
  let x:=a*a-(four+four)
  let y2:=yy*yy+yy*yy
  let y4:=y2+y2
  ⟨x,a*(four-x)-(y4+y4),(p.y+p.y)*p.z⟩
def Cz(p q:Jp):Jp:=
 if p.z=0 then q
 else if q.z=0 then p
 else
  let pp:=p.z*p.z
  let qq:=q.z*q.z
  let u:=p.x*qq
  let v:=q.x*pp
  let s:=p.y*(q.z*qq)
  let t:=q.y*(p.z*pp)
  let h:=v-u
  let r:=t-s
  if h=0 then(if r=0 then CX p else .inf)
  else
   let hh:=h*h
   let hhh:=h*hh
   let w:=u*hh
   let x:=r*r-hhh-(w+w)
   ⟨x,r*(w-x)-s*hhh,(p.z*q.z)*h⟩
theorem Ph{a b:F}(ha:a≠0)(hb:b≠0):a*b≠0:=fun h=>(EJ h).elim ha hb
theorem UH:(1:F)≠0:=by decide+kernel
theorem PZ{a b:F}(h:a*b=1):b≠0:=by rintro rfl;rw[Fin.mul_zero]at h;exact UH h.symm
theorem NC(p:Jp):(CX p).rep=add p.rep p.rep:=by
 obtain⟨x,y,z⟩:=p;by_cases hz:z=0
 ·subst hz
  simp only[CX,true_or,if_true];rw[rep_inf (rfl:(Jp.inf).z=0),rep_inf (rfl:(⟨x,y,0⟩:Jp).z=0)];rfl
 obtain⟨i,hi⟩:=inv_ex z hz;rw[rep_of (j:=⟨x,y,z⟩) hi];simp only;by_cases hy:y=0
 ·subst hy
  have e:(0:F)*(i*(i*i))+0*(i*(i*i))=0:=by grind-lia
  simp only[CX,or_true,if_true,add,e,and_self];rw[rep_inf (rfl:(Jp.inf).z=0)]
 ·have h2y:y+y≠0:=by
   intro h;have:2*y=0:=by grind-lia
   exact(EJ this).elim SO hy
  obtain⟨k,hk⟩:=inv_ex _ h2y;have hi0:=PZ hi
  have hY:y*(i*(i*i))+y*(i*(i*i))≠0:=by
   have e:y*(i*(i*i))+y*(i*(i*i))=(y+y)*(i*(i*i)):=by grind-lia
   rw[e];exact Ph h2y (Ph hi0 (Ph hi0 hi0))
  have hz':((y+y)*z)*(i*k)=1:=by grind-lia
  have hn: ¬(z=0∨y=0):=fun h=>h.elim hz hy
  simp only[CX,if_neg hn];rw[rep_of (i:=i*k) hz',Rb (s:=3*((x-z*z)*(x+z*z))*(i*k)) hY (by grind-lia)];congr 1
  ·grind-lia
  ·grind-lia
theorem jadd_rep(p q:Jp)(hp:p.rep.on)(hq:q.rep.on):(Cz p q).rep=add p.rep q.rep:=by
 by_cases hz:p.z=0
 ·simp only[Cz,if_pos hz,rep_inf hz,EN]
 by_cases hw:q.z=0
 ·simp only[Cz,if_neg hz,if_pos hw,rep_inf hw,F1]
 have hd:=NC p;obtain⟨i,hi⟩:=inv_ex _ hz;obtain⟨j,hj⟩:=inv_ex _ hw;have hi0:=PZ hi;have hj0:=PZ hj;simp only[Cz,if_neg hz,if_neg hw];by_cases hh:q.x*(p.z*p.z)-p.x*(q.z*q.z)=0
 ·rw[if_pos hh]
  by_cases hr:q.y*(p.z*(p.z*p.z))-p.y*(q.z*(q.z*q.z))=0
  ·rw[if_pos hr,hd]
   congr 1
   rw[rep_of hi,rep_of hj];congr 1
   ·clear hr hd hp hq hi0 hj0;grind-lia
   ·clear hh hd hp hq hi0 hj0;grind-lia
  ·rw[if_neg hr,rep_inf (rfl:(Jp.inf).z=0)]
   rw[rep_of hi,rep_of hj]at*;have hX:p.x*(i*i)=q.x*(j*j):=by clear hr hd hp hq hi0 hj0;grind-lia
   simp only[Pt.on,onE]at hp hq;rw[←hX]at hq
   have h1:(q.y*(j*(j*j))-p.y*(i*(i*i)))*(p.y*(i*(i*i))+q.y*(j*(j*j)))=0:=by
    have:=hp.trans hq.symm;clear hh hr hd hp hq hi0 hj0 hi hj hX
    grind-lia
   have hs:p.y*(i*(i*i))+q.y*(j*(j*j))=0:=by
    rcases EJ h1 with h|h
    ·exfalso;apply hr
     clear h1 hh hr hd hp hq hi0 hj0 hX
     grind-lia
    ·exact h
   simp only[add,hX,hs,and_self,if_true]
 ·rw[if_neg hh]
  obtain⟨k,hk⟩:=inv_ex _ hh
  have hz':(p.z*q.z*(q.x*(p.z*p.z)-p.x*(q.z*q.z)))*(i*j*k)=1:=by
   generalize q.x*(p.z*p.z)-p.x*(q.z*q.z)=h at hk;clear hd hp hq hi0 hj0
   grind-lia
  have hne:p.x*(i*i)≠q.x*(j*j):=by
   intro h;apply hh;clear hd hp hq hi0 hj0 hk hz' hh
   grind-lia
  rw[rep_of (i:=i*j*k) hz',rep_of hi,rep_of hj];clear hd hp hq hi0 hj0 hh hz hw;generalize p.x=x1 at*;generalize p.y=y1 at*;generalize p.z=z1 at*;generalize q.x=x2 at*;generalize q.y=y2 at*;generalize q.z=z2 at*;obtain⟨X1,rfl⟩: ∃X,x1=X*(z1*z1):=⟨x1*(i*i),by grind-lia⟩
  obtain⟨Y1,rfl⟩: ∃X,y1=X*(z1*(z1*z1)):=⟨y1*(i*(i*i)),by grind-lia⟩
  obtain⟨X2,rfl⟩: ∃X,x2=X*(z2*z2):=⟨x2*(j*j),by grind-lia⟩
  obtain⟨Y2,rfl⟩: ∃X,y2=X*(z2*(z2*z2)):=⟨y2*(j*(j*j)),by grind-lia⟩
  have c1: ∀X z i:F,z*i=1→X*(z*z)*(i*i)=X:=by intro X z i h;grind-lia
  have c2: ∀X z i:F,z*i=1→X*(z*(z*z))*(i*(i*i))=X:=by intro X z i h;grind-lia
  rw[c1 _ _ _ hi,c1 _ _ _ hj]at hne⊢;rw[c2 _ _ _ hi,c2 _ _ _ hj];have hd:X2*(z2*z2)*(z1*z1)-X1*(z1*z1)*(z2*z2)=(X2-X1)*(z1*z1*(z2*z2)):=by grind-lia
  rw[hd]at hk⊢
  have hs:(Y2*(z2*(z2*z2))*(z1*(z1*z1))-Y1*(z1*(z1*z1))*(z2*(z2*z2)))*(i*j*k)*(X2-X1)=Y2-Y1:=by
   clear hd hz' hne;grind-lia
  rw[Hz hne hs];have hD:(X2-X1)*(z1*z1*(z2*z2))*k=1:=hk;clear hd hz' hne hs hk;congr 1
  ·grind-lia
  ·grind-lia
end TollEc
namespace Go.Proofs.YtefpajmkaaielaaGreatDoor
open Go.RowKit Go.Toll
section
open TollMont
def fA(x y t:Nat):Nat:=ac (x*y %W) t 0
def fK(x y t:Nat):Nat:=co (x*y %W) t 0
def fH(x y t:Nat):Nat:=(x*y/W+fK x y t) %W
def fM(x y t c:Nat):Nat:=ac (fA x y t) c 0
def fK2(x y t c:Nat):Nat:=co (fA x y t) c 0
def fC(x y t c:Nat):Nat:=(fH x y t+fK2 x y t c) %W
theorem GX{x y t c:Nat}(hx:x<W)(hy:y<W)(ht:t<W)(hc:c<W):fM x y t c=Fh x y t c∧fC x y t c=EK x y t c:=by
 obtain⟨h1,h2⟩:=gm hx hy ht hc;exact⟨h1,h2⟩
theorem gp{x y t:Nat}(hx:x<W)(hy:y<W)(ht:t<W):fH x y t=EK x y t 0:=by
 rw[←(GX hx hy ht (by decide)).2];unfold fC fK2 fA ac co;rw[Nat.add_zero,Nat.add_zero,Nat.div_eq_of_lt (Nat.mod_lt _ (by decide)),Nat.add_zero];exact(Nat.mod_eq_of_lt (Nat.mod_lt _ (by decide))).symm
theorem Ui(x y:Nat)(hx:x<W)(hy:y<W)(w:World):CGy 105 #[.int .u64 x,.int .u64 y] w (.tuple #[.int .u64 (x*y/W:Nat),.int .u64 (x*y %W:Nat)]):=
 (bits_Mul64 x y hx hy w).mono fun e w' h=>⟨h.1,by rw[h.2];exact Gw.refl w⟩
theorem MI{m b n c:Nat}(hm:m %2=1)(h1:1<m)(hmR:m<R)(hn:n<R)(hc:c<R)(hnc:n<m∨c<m)(w:World)(h:At w b m):
 CGy 72 #[ptr b,N n,N c] w (N (Ec m n c)):=by
 have hneg:(E9 (lim m 0)*lim m 0+1) %W=0:=gB (by rw[GZ];simp only[W];omega)
 refine dI b _ _ _ _ _ _ _ _ _ _ _ _ _ _ _ _ (E9 (lim m 0)) w h.m h.neg (fun x y=>x*y/W) (fun x y=>x*y %W) (fun t c=>ac t c 0) (fun t c=>co t c 0) (fun x y=>(x+y) %W)
  fA fK fH fM fK2 fC (fun t=>t*E9 (lim m 0) %W) (fun x=>x<W) (fun k t0 t1 t2 t3 t4=>RedAt m n c k t0 t1 t2 t3 t4) (fun x y hx hy w=>Ui x y hx hy w)
  (fun x y t w=>Gt _ _ 0 (by omega) w) (fun x y t c w=>Gt _ _ 0 (by omega) w) (fun x y t w=>Gt _ 0 0 (by omega) w) (fun t c w=>Gt _ _ 0 (by omega) w)
  (fun x y t=>FS _) (fun x y t c=>FS _) (fun a c d e=>FS _) (fun t=>FS _) (fun t=>Nat.mod_lt _ (by decide))
  (Ae _ _) (Ae _ _) (Ae _ _) (Ae _ _) (Ae _ _) (Ae _ _) (Ae _ _) (Ae _ _) (Ae _ _) (Ae _ _) (Ae _ _) (Ae _ _) (RedAt.start (by omega)) ?_ ?_
 ·intro k x t0 t1 t2 t3 t4 hk hx hr
  have hx':x=lim c k:=by
   have:k=0∨k=1∨k=2∨k=3:=by omega
   rcases this with rfl|rfl|rfl|rfl<;>(simp at hx;exact hx.symm)
  have hxW:x<W:=by rw[hx'];exact Ae _ _
  have qW: ∀u,u*E9 (lim m 0) %W<W:=fun u=>Nat.mod_lt _ (by decide)
  obtain⟨a0,b0⟩:=GX hxW (Ae n 0) hr.b0 (show 0<W by decide);have l1:=Du hxW (Ae n 0) hr.b0 (show 0<W by decide);rw[←b0]at l1;obtain⟨a1,b1⟩:=GX hxW (Ae n 1) hr.b1 l1;have l2:=Du hxW (Ae n 1) hr.b1 l1;rw[←b1]at l2;obtain⟨a2,b2⟩:=GX hxW (Ae n 2) hr.b2 l2;have l3:=Du hxW (Ae n 2) hr.b2 l2;rw[←b2]at l3;obtain⟨a3,b3⟩:=GX hxW (Ae n 3) hr.b3 l3;have u0:=Ee x (lim n 0) t0 0;rw[←a0]at u0;have u1:=Ee x (lim n 1) t1 (fC x (lim n 0) t0 0);rw[←a1]at u1;have u2:=Ee x (lim n 2) t2 (fC x (lim n 1) t1 (fC x (lim n 0) t0 0));rw[←a2]at u2;have u3:=Ee x (lim n 3) t3 (fC x (lim n 2) t2 (fC x (lim n 1) t1 (fC x (lim n 0) t0 0)));rw[←a3]at u3;have g0:=gp (qW (fM x (lim n 0) t0 0)) (Ae m 0) u0;have k1:=Du (qW (fM x (lim n 0) t0 0)) (Ae m 0) u0 (show 0<W by decide);rw[←g0]at k1;obtain⟨g1,i1⟩:=GX (qW (fM x (lim n 0) t0 0)) (Ae m 1) u1 k1;have k2:=Du (qW (fM x (lim n 0) t0 0)) (Ae m 1) u1 k1;rw[←i1]at k2;obtain⟨g2,i2⟩:=GX (qW (fM x (lim n 0) t0 0)) (Ae m 2) u2 k2;have k3:=Du (qW (fM x (lim n 0) t0 0)) (Ae m 2) u2 k2;rw[←i2]at k3;obtain⟨g3,i3⟩:=GX (qW (fM x (lim n 0) t0 0)) (Ae m 3) u3 k3;exact RedAt.step hn hmR hneg hr hx' a0 b0 a1 b1 a2 b2 a3 b3 rfl rfl rfl g0 g1 i1 g2 i2 g3 i3 rfl rfl rfl
 ·intro t0 t1 t2 t3 t4 hr w' hw
  obtain⟨Q,hQ,hE⟩:=hr.eq
  have hE':v5 t0 t1 t2 t3 t4*R=n*c+m*Q:=by
   have h4:W^4=R:=by decide
   rw[h4,Nat.mod_eq_of_lt hc]at hE;exact hE
  obtain⟨hlt,I3⟩:=dJ hm h1 hn hc hnc hQ hE';have ht4:=Z7 (show v5 t0 t1 t2 t3 t4<2*R by omega);obtain⟨q0,q1,q2,q3,_⟩:=Io t0 t1 t2 t3 0 hr.b0 hr.b1 hr.b2 hr.b3;have hr0:=hr.b0;have hr1:=hr.b1;have hr2:=hr.b2;have hr3:=hr.b3;have hT:v5 t0 t1 t2 t3 t4=t0+W*(t1+W*(t2+W*(t3+W*0)))+R*t4:=by unfold v5;simp only[W,R];omega
  have hlt':t0+W*(t1+W*(t2+W*(t3+W*0)))<R:=by simp only[W,R]at *; omega
  generalize t0+W*(t1+W*(t2+W*(t3+W*0)))=T at*;have hs:=ME b m T t4 hmR hlt' (by omega) w' (h.gw hw).m
  have hres:(if t4=0∧T<m then T else dif T m)=Ec m n c:=by
   rw[←I3,hT];rw[hT]at hlt;have:t4=0∨t4=1:=by omega
   rcases this with rfl|rfl
   ·simp only[Nat.mul_zero,Nat.add_zero]at*
    by_cases hl:T<m
    ·rw[if_pos ⟨trivial,hl⟩,Nat.mod_eq_of_lt hl]
    ·rw[if_neg (fun c=>hl c.2)]
     unfold dif;rw[if_neg hl,Nat.mod_eq_sub_mod (by omega),Nat.mod_eq_of_lt (by omega)]
   ·rw[if_neg (fun c=>by cases c.1)]
    unfold dif;rw[if_pos (by omega),Nat.mul_one,Nat.mod_eq_sub_mod (by omega),Nat.mod_eq_of_lt (by omega)]
  rw[hres]at hs;unfold N at hs;rw[q0,q1,q2,q3]at hs;exact hs
structure Md(m:Nat):Prop where
 odd:m %2=1
 gt:1<m
 lt:m<R
theorem KX{m:Nat}(h:Md m)(x:Nat):x %m<R:=Nat.lt_trans (Nat.mod_lt _ (by have:=h.gt;omega)) h.lt
theorem Rq:N 1= .agg #[.int .u64 1,.int .u64 0,.int .u64 0,.int .u64 0]:=by
 unfold N;rw[show lim 1 0=1 by decide,show lim 1 1=0 by decide,show lim 1 2=0 by decide,show lim 1 3=0 by decide];rfl
theorem ZY:N 0= .agg #[.int .u64 0,.int .u64 0,.int .u64 0,.int .u64 0]:=by
 unfold N;rw[show lim 0 0=0 by decide,show lim 0 1=0 by decide,show lim 0 2=0 by decide,show lim 0 3=0 by decide];rfl
variable{m b:Nat}
theorem GJ(h:Md m){n:Nat}(hn:n<R)(w:World)(ha:At w b m):CGy 40 #[ptr b,N n] w (N (n %m)):=by
 have h0:0<m:=by have:=h.gt;omega
 have e1:Ec m n (R*R %m)=n*R %m:=Ul h.odd h.gt n;have e2:Ec m (n*R %m) 1=n %m:=gU h.odd h.gt n
 have A: ∀w',Gw w w'→CGy 72 #[ptr b,N n,N (R*R %m)] w' (N (n*R %m)):=fun w' hw=>by
  have:=MI h.odd h.gt h.lt hn (KX h (R*R)) (.inr (Nat.mod_lt _ h0)) w' (ha.gw hw);rw[e1]at this;exact this
 have B: ∀w',Gw w w'→CGy 72 #[ptr b,N (n*R %m),.agg #[.int .u64 1,.int .u64 0,.int .u64 0,.int .u64 0]] w' (N (n %m)):=fun w' hw=>by
  have:=MI h.odd h.gt h.lt (KX h (n*R)) (by decide:1<R) (.inl (Nat.mod_lt _ h0)) w' (ha.gw hw);rw[e2,Rq]at this;exact this
 exact dC b _ _ _ _ _ _ _ _ _ _ _ _ _ _ _ _ w ha.two A B
theorem Uf(h:Md m){x y:Nat}(hx:x<R)(hy:y<R)(w:World)(ha:At w b m):CGy 43 #[ptr b,N x,N y] w (N (x*y %m)):=by
 have h0:0<m:=by have:=h.gt;omega
 have e1:Ec m x (R*R %m)=x*R %m:=Ul h.odd h.gt x;have e2:Ec m (x*R %m) (y %m)=x*y %m:=gV h.odd h.gt x y
 have A: ∀w',Gw w w'→CGy 72 #[ptr b,N x,N (R*R %m)] w' (N (x*R %m)):=fun w' hw=>by
  have:=MI h.odd h.gt h.lt hx (KX h (R*R)) (.inr (Nat.mod_lt _ h0)) w' (ha.gw hw);rw[e1]at this;exact this
 have B: ∀w',Gw w w'→CGy 72 #[ptr b,N (x*R %m),N (y %m)] w' (N (x*y %m)):=fun w' hw=>by
  have:=MI h.odd h.gt h.lt (KX h (x*R)) (KX h y) (.inl (Nat.mod_lt _ h0)) w' (ha.gw hw);rw[e2]at this;exact this
 exact gM b _ _ _ _ _ _ _ _ _ _ _ _ _ _ _ _ _ _ _ _ _ _ _ _ w ha.two A (fun w' hw=>GJ h hy w' (ha.gw hw)) B
theorem Kf(n:Nat):N (n %R)=N n:=by
 have hl:=VQ n;obtain⟨q0,q1,q2,q3,_⟩:=Io (lim n 0) (lim n 1) (lim n 2) (lim n 3) 0 (Ae _ _) (Ae _ _) (Ae _ _) (Ae _ _)
 have e:n %R=lim n 0+W*(lim n 1+W*(lim n 2+W*(lim n 3+W*0))):=by
  have h0:=Ae n 0;have h1:=Ae n 1;have h2:=Ae n 2;have h3:=Ae n 3;have hd:=Nat.mod_add_div n R;generalize n/R=d at*;generalize lim n 0=a0 at *; generalize lim n 1=a1 at *; generalize lim n 2=a2 at *; generalize lim n 3=a3 at*;simp only[W,R]at*;omega
 unfold N;rw[e,q0,q1,q2,q3]
theorem S6{m T o:Nat}(hm:m<R)(_hT:T<R)(ho:o=0∨o=1)(hlt:T+R*o<2*m):(if o=0∧T<m then T else dif T m)=(T+R*o) %m:=by
 rcases ho with rfl|rfl
 ·simp only[Nat.mul_zero,Nat.add_zero]at*
  by_cases hl:T<m
  ·rw[if_pos ⟨trivial,hl⟩,Nat.mod_eq_of_lt hl]
  ·rw[if_neg (fun c=>hl c.2)]
   unfold dif;rw[if_neg hl,Nat.mod_eq_sub_mod (by omega),Nat.mod_eq_of_lt (by omega)]
 ·rw[if_neg (fun c=>by cases c.1)]
  unfold dif;rw[if_pos (by omega),Nat.mul_one,Nat.mod_eq_sub_mod (by omega),Nat.mod_eq_of_lt (by omega)]
theorem Uz(h:Md m){x y:Nat}(hx:x<R)(hy:y<R)(w:World)(ha:At w b m):CGy 44 #[ptr b,N x,N y] w (N ((x+y) %m)):=by
 have h0:0<m:=by have:=h.gt;omega
 have lx:x %m<m:=Nat.mod_lt _ h0;have ly:y %m<m:=Nat.mod_lt _ h0;have hm:=h.lt;have e:(x+y) %m=((x %m+y %m) %R+R*((x %m+y %m)/R)) %m:=by rw[Nat.mod_add_div,←Nat.add_mod]
 have A: ∀w',Gw w w'→CGy 40 #[ptr b,N x] w' (N (x %m)):=fun w' hw=>GJ h hx w' (ha.gw hw)
 have B: ∀w',Gw w w'→CGy 40 #[ptr b,N y] w' (N (y %m)):=fun w' hw=>GJ h hy w' (ha.gw hw)
 have C: ∀w',Gw w w'→CGy 77 #[N (x %m),N (y %m)] w' (.tuple #[N (x %m+y %m),.int .u64 ((x %m+y %m)/R:Nat)]):=fun w' _=>N7 _ _ (by omega) (by omega) w'
 have ho:(x %m+y %m)/R=0∨(x %m+y %m)/R=1:=by simp only[R]at *; omega
 have hr:=Nat.mod_lt (x %m+y %m) (show 0<R by decide);have hlt:(x %m+y %m) %R+R*((x %m+y %m)/R)<2*m:=by rw[Nat.mod_add_div];omega
 have D: ∀w',Gw w w'→CGy 78 #[ptr b,N (x %m+y %m),.int .u64 ((x %m+y %m)/R:Nat)] w' (N ((x+y) %m)):=fun w' hw=>by
  have:=ME b m ((x %m+y %m) %R) ((x %m+y %m)/R) hm hr ho w' (ha.gw hw).m;rw[S6 hm hr ho hlt,←e,Kf]at this;exact this
 rcases ho with o|o
 ·rw[o]at C D
  exact gl b _ _ _ _ _ _ _ _ _ _ _ _ _ _ _ _ _ _ _ _ _ _ _ _ w A B C D
 ·rw[o]at C D
  exact gk b _ _ _ _ _ _ _ _ _ _ _ _ _ _ _ _ _ _ _ _ _ _ _ _ w A B C D
theorem Pk(h:Md m){x y:Nat}(hx:x<R)(hy:y<R)(w:World)(ha:At w b m):CGy 76 #[ptr b,N x,N y] w (N (DJ m x y)):=by
 have h0:0<m:=by have:=h.gt;omega
 have lx:x %m<m:=Nat.mod_lt _ h0;have ly:y %m<m:=Nat.mod_lt _ h0;have hm:=h.lt;have A: ∀w',Gw w w'→CGy 40 #[ptr b,N x] w' (N (x %m)):=fun w' hw=>GJ h hx w' (ha.gw hw)
 have B: ∀w',Gw w w'→CGy 40 #[ptr b,N y] w' (N (y %m)):=fun w' hw=>GJ h hy w' (ha.gw hw)
 have C: ∀w',Gw w w'→CGy 75 #[N (x %m),N (y %m)] w' (.tuple #[N (dif (x %m) (y %m)),.int .u64 (if x %m<y %m then 1 else 0:Nat)]):=fun w' _=>IQ _ _ (by omega) (by omega) w'
 have D: ∀w',Gw w w'→CGy 77 #[N (dif (x %m) (y %m)),N m] w' (.tuple #[N (dif (x %m) (y %m)+m),.int .u64 ((dif (x %m) (y %m)+m)/R:Nat)]):=fun w' _=>N7 _ _ (pE (by omega) (by omega)) hm w'
 by_cases hlt:x %m<y %m
 ·have e:N (dif (x %m) (y %m)+m)=N (DJ m x y):=by
   rw[←Kf,←Kf (DJ m x y)];congr 1
   unfold dif DJ;rw[if_pos hlt,Nat.mod_eq_of_lt (a:=x %m+m-y %m) (by omega)];generalize x %m=p at *; generalize y %m=q at*;simp only[R]at *; omega
  rw[e]at D;simp only[if_pos hlt]at C;exact gR b _ _ _ _ _ _ _ _ _ _ _ _ _ _ _ _ _ _ _ _ _ _ _ _ _ _ _ _ _ w ha.m A B C D
 ·have e:dif (x %m) (y %m)=DJ m x y:=by
   unfold dif DJ;rw[if_neg hlt,show x %m+m-y %m=x %m-y %m+m by omega,Nat.add_mod_right];exact(Nat.mod_eq_of_lt (by omega)).symm
  simp only[if_neg hlt]at C;rw[e]at C D;exact gS b _ _ _ _ _ _ _ _ _ _ _ _ _ _ _ _ _ _ _ _ _ _ _ _ _ _ _ _ _ w ha.m A B C D
def B2(x y:Nat):Nat:=x %18446744073709551616|||y %18446744073709551616
def F6(x:Nat):Nat:=x*9223372036854775808 %18446744073709551616
theorem MR{a d:Nat}(ha:a<W)(hd:d=0∨d=1):B2 (a/2) (F6 d)=a/2+9223372036854775808*d:=by
 have h1:a/2<9223372036854775808:=by simp only[W]at ha;omega
 have h2:a/2 %18446744073709551616=a/2:=Nat.mod_eq_of_lt (by omega);rcases hd with rfl|rfl
 ·simp[B2,F6,h2]
 ·have:=Nat.two_pow_add_eq_or_of_lt (i:=63) (b:=a/2) (by simpa using h1) 1
  simp only[B2,F6,h2];rw[show 1*9223372036854775808 %18446744073709551616 %18446744073709551616=2^63*1 by decide,Nat.or_comm,←this];omega
theorem nF{n c:Nat}(hn:n<R)(hc:c=0∨c=1):
 B2 (lim n 0/2) (F6 (lim n 1 %2))=lim ((n+R*c)/2) 0∧B2 (lim n 1/2) (F6 (lim n 2 %2))=lim ((n+R*c)/2) 1∧
  B2 (lim n 2/2) (F6 (lim n 3 %2))=lim ((n+R*c)/2) 2∧B2 (lim n 3/2) (F6 c)=lim ((n+R*c)/2) 3:=by
 have h0:=Ae n 0;have h1:=Ae n 1;have h2:=Ae n 2;have h3:=Ae n 3;have b01: ∀x:Nat,x %2=0∨x %2=1:=fun x=>by omega
 rw[MR h0 (b01 _),MR h1 (b01 _),MR h2 (b01 _),MR h3 hc];have hs:=FC hn
 have e:(n+R*c)/2=(lim n 0/2+9223372036854775808*(lim n 1 %2))+W*((lim n 1/2+9223372036854775808*(lim n 2 %2))+W*((lim n 2/2+9223372036854775808*(lim n 3 %2))+W*((lim n 3/2+9223372036854775808*c)+W*0))):=by
  generalize lim n 0=a0 at *; generalize lim n 1=a1 at *; generalize lim n 2=a2 at *; generalize lim n 3=a3 at*;subst hs;clear hn;simp only[W,R]at*;rcases hc with rfl|rfl<;>omega
 obtain⟨q0,q1,q2,q3,_⟩:=Io (lim n 0/2+9223372036854775808*(lim n 1 %2)) (lim n 1/2+9223372036854775808*(lim n 2 %2)) (lim n 2/2+9223372036854775808*(lim n 3 %2)) (lim n 3/2+9223372036854775808*c) 0
  (by simp only[W]at *; omega) (by simp only[W]at *; omega) (by simp only[W]at *; omega) (by simp only[W]at *; omega)
 rw[e];exact⟨q0.symm,q1.symm,q2.symm,q3.symm⟩
theorem Qd{n c:Nat}(hn:n<R)(hc:c=0∨c=1)(w:World):CGy 73 #[N n,.int .u64 (c:Nat)] w (N ((n+R*c)/2)):=by
 obtain⟨e0,e1,e2,e3⟩:=nF hn hc;have h:=nG (fun x=>x %2) (fun x=>x/2) F6 B2 (lim n 0) (lim n 1) (lim n 2) (lim n 3) c w (fun x p q w=>JV x p q w) (fun x p q w=>rq x p q w) (fun x p q w=>ry x p q w) (fun x y p q w=>RU x y p q w);rw[e0,e1,e2,e3]at h;exact h
theorem Ke(x:Nat):lim x 0 %2=x %2:=by rw[GZ];simp only[W];omega
theorem nA{m b x:Nat}(hm:m<R)(hx:x<R)(w:World)(ha:At w b m):CGy 74 #[ptr b,N x] w (N (TollMont.halve m x)):=by
 unfold TollMont.halve;by_cases hp:x %2=0
 ·rw[if_pos hp]
  have A: ∀w',Gw w w'→CGy 73 #[N x,.int .u64 0] w' (N (x/2)):=fun w' _=>by
   have:=Qd hx (.inl rfl:(0:Nat)=0∨(0:Nat)=1) w';rw[Nat.mul_zero,Nat.add_zero]at this;exact this
  exact nD b _ _ _ _ _ _ _ _ w (fun _ p q w=>by have:=JV (lim x 0) p q w;rw[Ke,hp]at this;exact this) A
 ·rw[if_neg hp]
  have hp1:x %2=1:=by omega
  have ho:(x+m)/R=0∨(x+m)/R=1:=by simp only[R]at *; omega
  have A: ∀w',Gw w w'→CGy 77 #[N x,N m] w' (.tuple #[N (x+m),.int .u64 ((x+m)/R:Nat)]):=fun w' _=>N7 _ _ hx hm w'
  have B: ∀w',Gw w w'→CGy 73 #[N (x+m),.int .u64 ((x+m)/R:Nat)] w' (N ((x+m)/2)):=fun w' _=>by
   have:=Qd (Nat.mod_lt (x+m) (show 0<R by decide)) ho w';rw[Nat.mod_add_div,Kf]at this;exact this
  exact nC b _ _ _ _ _ _ _ _ _ _ _ _ _ _ _ _ _ w ha.m (fun _ p q w=>by have:=JV (lim x 0) p q w;rw[Ke,hp1]at this;exact this) A B
end
theorem r9(x:Nat)(hx:x<9223372036854775808):BOy .quo 3 (.int .i64 (x:Nat)) (.int .i64 64) (.int .i64 (x/64:Nat)):=by
 intro p q w
 go_simp
 exact Af (by omega) (by omega)
theorem rz(x:Nat):BOy .rem 3 (.int .i64 (x:Nat)) (.int .i64 64) (.int .i64 (x %64:Nat)):=by
 intro p q w
 go_simp
 exact Int.tmod_eq_emod_of_nonneg (by omega)
theorem ru(x r:Nat)(hr:r<64):BOy .shr 22 (.int .u64 (x:Nat)) (.int .i64 (r:Nat)) (.int .u64 (x/2^r:Nat)):=by
 intro p q w
 go_simp
theorem sB(x:Nat)(h:x<9223372036854775808)(w:World):(convert 22 3 (.int .u64 (x:Nat))).run prog w= .ok (.int .i64 (x:Nat)) w:=by
 go_simp
 exact Af (by omega) (by omega)
theorem rx(x:Nat)(s:Int)(h0:0≤s)(h1:s<64):BOy .shl 22 (.int .u64 (x:Nat)) (.int .i64 s) (.int .u64 (x*2^s.toNat %18446744073709551616:Nat)):=by
 intro p q w
 obtain⟨n,rfl⟩:=Int.eq_ofNat_of_zero_le h0
 go_simp
 rw[IntKind.wrap_u64]
theorem rp(x:Nat)(s:Int)(h0:0≤s)(h1:s<64):BOy .shr 22 (.int .u64 (x:Nat)) (.int .i64 s) (.int .u64 (x/2^s.toNat:Nat)):=by
 intro p q w
 obtain⟨n,rfl⟩:=Int.eq_ofNat_of_zero_le h0
 go_simp
theorem sD(x:Nat)(w:World):(convert 5 22 (.int .u8 (x:Nat))).run prog w= .ok (.int .u64 (x %18446744073709551616:Nat)) w:=by
 go_simp
 exact FS x
theorem sC(x:Nat)(w:World):(convert 22 5 (.int .u64 (x:Nat))).run prog w= .ok (.int .u8 (x %256:Nat)) w:=by
 go_simp
 rw[IntKind.wrap_u8]
theorem sA(x:Nat)(w:World):(Op.unary .neg (.int .u64 (x:Nat))).run prog w= .ok (.int .u64 ((18446744073709551616-x %18446744073709551616) %18446744073709551616:Nat)) w:=by
 go_simp
 rw[IntKind.wrap_u64];omega
theorem qj(lw:Nat→Nat)(shr:Nat→Int→Nat)(a0 a1 a2 a3:Nat)(w:World)
 (hcv: ∀(x:Nat) (w:World),(convert 22 5 (.int .u64 (x:Nat))).run prog w= .ok (.int .u8 (lw x:Nat)) w)
 (hshr: ∀(x:Nat) (s:Int) (_:0≤s) (_:s<64) (p q:Operand) (w:World),(do eqGuard .shr 22 p q (.int .u64 (x:Nat)) (.int .i64 s);binOp .shr 22 (.int .u64 (x:Nat)) (.int .i64 s):Sem Value).run prog w= .ok (.int .u64 (shr x s:Nat)) w):
 CGy 45 #[A4y a0 a1 a2 a3] w (.agg #[.int .u8 (lw (shr a3 56):Nat),.int .u8 (lw (shr a3 48):Nat),.int .u8 (lw (shr a3 40):Nat),.int .u8 (lw (shr a3 32):Nat),.int .u8 (lw (shr a3 24):Nat),.int .u8 (lw (shr a3 16):Nat),.int .u8 (lw (shr a3 8):Nat),.int .u8 (lw (shr a3 0):Nat),.int .u8 (lw (shr a2 56):Nat),.int .u8 (lw (shr a2 48):Nat),.int .u8 (lw (shr a2 40):Nat),.int .u8 (lw (shr a2 32):Nat),.int .u8 (lw (shr a2 24):Nat),.int .u8 (lw (shr a2 16):Nat),.int .u8 (lw (shr a2 8):Nat),.int .u8 (lw (shr a2 0):Nat),.int .u8 (lw (shr a1 56):Nat),.int .u8 (lw (shr a1 48):Nat),.int .u8 (lw (shr a1 40):Nat),.int .u8 (lw (shr a1 32):Nat),.int .u8 (lw (shr a1 24):Nat),.int .u8 (lw (shr a1 16):Nat),.int .u8 (lw (shr a1 8):Nat),.int .u8 (lw (shr a1 0):Nat),.int .u8 (lw (shr a0 56):Nat),.int .u8 (lw (shr a0 48):Nat),.int .u8 (lw (shr a0 40):Nat),.int .u8 (lw (shr a0 32):Nat),.int .u8 (lw (shr a0 24):Nat),.int .u8 (lw (shr a0 16):Nat),.int .u8 (lw (shr a0 8):Nat),.int .u8 (lw (shr a0 0):Nat)]):=by
 go_enter func45,ntmps45
 refine EZ ?_
 refine t_s (by exact Bq rfl rfl gg zeroValue46) ?_;iterate 3 refine t_k ?_
 refine t_s (by exact Bq rfl rfl gg zeroValue46) ?_;iterate 7 refine t_k ?_
 refine Ce 33 ?_
 iterate 32
  refine Ci ?_
  refine t_1 ?_;iterate 14 refine t_k ?_
  iterate 2 refine t_1 ?_
  refine t_8 ?_;refine t_4 ?_;refine t_k ?_;iterate 3 refine t_1 ?_
  refine t_s (by exact AN rfl gg rfl rfl (fun w=>hshr _ _ (by decide) (by decide) _ _ w)) ?_;refine t_s (by exact A5 rfl gg rfl (fun w=>hcv _ w)) ?_;refine a9 ?_;refine t_s (by exact Be rfl gg rfl rfl rfl sizeOf5 rfl (by simp) rfl) ?_;iterate 2 refine t_k ?_
  refine E1 ?_
 refine Ci ?_
 refine FW ?_
 refine Aq ?_;refine Ci ?_
 refine Se ?_;refine t_s (by exact Be rfl gg rfl rfl rfl sizeOf46 rfl (by simp) rfl) ?_;refine EF ?_;refine AD (AM results45 (Ad rfl rfl underlying46 rfl sizeOf46 rfl rfl)) ?_;intro w' hg;exact⟨rfl,hg⟩
theorem rY(a0 a1 a2 a3:Nat)(s t:Nat)(i r:Int)(w:World)(h0:decide (i<0)=false)(h1:decide ((256:Int)≤i)=false)
 (hq: ∀(p q:Operand) (w:World),(do eqGuard .quo 3 p q (.int .i64 i) (.int .i64 64);binOp .quo 3 (.int .i64 i) (.int .i64 64):Sem Value).run prog w= .ok (.int .i64 0) w)
 (hr: ∀(p q:Operand) (w:World),(do eqGuard .rem 3 p q (.int .i64 i) (.int .i64 64);binOp .rem 3 (.int .i64 i) (.int .i64 64):Sem Value).run prog w= .ok (.int .i64 r) w)
 (hs: ∀(p q:Operand) (w:World),(do eqGuard .shr 22 p q (.int .u64 (a0:Nat)) (.int .i64 r);binOp .shr 22 (.int .u64 (a0:Nat)) (.int .i64 r):Sem Value).run prog w= .ok (.int .u64 (s:Nat)) w)
 (ha: ∀(p q:Operand) (w:World),(do eqGuard .and 22 p q (.int .u64 (s:Nat)) (.int .u64 1);binOp .and 22 (.int .u64 (s:Nat)) (.int .u64 1):Sem Value).run prog w= .ok (.int .u64 (t:Nat)) w)
 (hc: ∀(w:World),(convert 22 3 (.int .u64 (t:Nat))).run prog w= .ok (.int .i64 (t:Nat)) w):
 CGy 63 #[A4y a0 a1 a2 a3,.int .i64 i] w (.int .i64 (t:Nat)):=by
 go_enter func63,ntmps63
 refine Jm ?_
 refine Lu ?_;refine F9 ?_;refine Ly ?_;refine Dz ?_
 refine Lt ?_;refine t_8 ?_;refine t_4 ?_;refine t_k ?_;refine Ls ?_;refine Lr ?_;refine Lq ?_;refine t_s (by exact A5 rfl gg rfl (fun w=>hc w)) ?_;iterate 2 refine t_k ?_
 refine AG ?_;refine AD (AM results63 (AE rfl)) ?_;intro w' hg;exact⟨rfl,hg⟩
theorem rX(a0 a1 a2 a3:Nat)(s t:Nat)(i r:Int)(w:World)(h0:decide (i<0)=false)(h1:decide ((256:Int)≤i)=false)
 (hq: ∀(p q:Operand) (w:World),(do eqGuard .quo 3 p q (.int .i64 i) (.int .i64 64);binOp .quo 3 (.int .i64 i) (.int .i64 64):Sem Value).run prog w= .ok (.int .i64 1) w)
 (hr: ∀(p q:Operand) (w:World),(do eqGuard .rem 3 p q (.int .i64 i) (.int .i64 64);binOp .rem 3 (.int .i64 i) (.int .i64 64):Sem Value).run prog w= .ok (.int .i64 r) w)
 (hs: ∀(p q:Operand) (w:World),(do eqGuard .shr 22 p q (.int .u64 (a1:Nat)) (.int .i64 r);binOp .shr 22 (.int .u64 (a1:Nat)) (.int .i64 r):Sem Value).run prog w= .ok (.int .u64 (s:Nat)) w)
 (ha: ∀(p q:Operand) (w:World),(do eqGuard .and 22 p q (.int .u64 (s:Nat)) (.int .u64 1);binOp .and 22 (.int .u64 (s:Nat)) (.int .u64 1):Sem Value).run prog w= .ok (.int .u64 (t:Nat)) w)
 (hc: ∀(w:World),(convert 22 3 (.int .u64 (t:Nat))).run prog w= .ok (.int .i64 (t:Nat)) w):
 CGy 63 #[A4y a0 a1 a2 a3,.int .i64 i] w (.int .i64 (t:Nat)):=by
 go_enter func63,ntmps63
 refine Jm ?_
 refine Lu ?_;refine F9 ?_;refine Ly ?_;refine Dz ?_
 refine Lt ?_;refine t_8 ?_;refine t_4 ?_;refine t_k ?_;refine Ls ?_;refine Lr ?_;refine Lq ?_;refine t_s (by exact A5 rfl gg rfl (fun w=>hc w)) ?_;iterate 2 refine t_k ?_
 refine AG ?_;refine AD (AM results63 (AE rfl)) ?_;intro w' hg;exact⟨rfl,hg⟩
theorem rW(a0 a1 a2 a3:Nat)(s t:Nat)(i r:Int)(w:World)(h0:decide (i<0)=false)(h1:decide ((256:Int)≤i)=false)
 (hq: ∀(p q:Operand) (w:World),(do eqGuard .quo 3 p q (.int .i64 i) (.int .i64 64);binOp .quo 3 (.int .i64 i) (.int .i64 64):Sem Value).run prog w= .ok (.int .i64 2) w)
 (hr: ∀(p q:Operand) (w:World),(do eqGuard .rem 3 p q (.int .i64 i) (.int .i64 64);binOp .rem 3 (.int .i64 i) (.int .i64 64):Sem Value).run prog w= .ok (.int .i64 r) w)
 (hs: ∀(p q:Operand) (w:World),(do eqGuard .shr 22 p q (.int .u64 (a2:Nat)) (.int .i64 r);binOp .shr 22 (.int .u64 (a2:Nat)) (.int .i64 r):Sem Value).run prog w= .ok (.int .u64 (s:Nat)) w)
 (ha: ∀(p q:Operand) (w:World),(do eqGuard .and 22 p q (.int .u64 (s:Nat)) (.int .u64 1);binOp .and 22 (.int .u64 (s:Nat)) (.int .u64 1):Sem Value).run prog w= .ok (.int .u64 (t:Nat)) w)
 (hc: ∀(w:World),(convert 22 3 (.int .u64 (t:Nat))).run prog w= .ok (.int .i64 (t:Nat)) w):
 CGy 63 #[A4y a0 a1 a2 a3,.int .i64 i] w (.int .i64 (t:Nat)):=by
 go_enter func63,ntmps63
 refine Jm ?_
 refine Lu ?_;refine F9 ?_;refine Ly ?_;refine Dz ?_
 refine Lt ?_;refine t_8 ?_;refine t_4 ?_;refine t_k ?_;refine Ls ?_;refine Lr ?_;refine Lq ?_;refine t_s (by exact A5 rfl gg rfl (fun w=>hc w)) ?_;iterate 2 refine t_k ?_
 refine AG ?_;refine AD (AM results63 (AE rfl)) ?_;intro w' hg;exact⟨rfl,hg⟩
theorem rV(a0 a1 a2 a3:Nat)(s t:Nat)(i r:Int)(w:World)(h0:decide (i<0)=false)(h1:decide ((256:Int)≤i)=false)
 (hq: ∀(p q:Operand) (w:World),(do eqGuard .quo 3 p q (.int .i64 i) (.int .i64 64);binOp .quo 3 (.int .i64 i) (.int .i64 64):Sem Value).run prog w= .ok (.int .i64 3) w)
 (hr: ∀(p q:Operand) (w:World),(do eqGuard .rem 3 p q (.int .i64 i) (.int .i64 64);binOp .rem 3 (.int .i64 i) (.int .i64 64):Sem Value).run prog w= .ok (.int .i64 r) w)
 (hs: ∀(p q:Operand) (w:World),(do eqGuard .shr 22 p q (.int .u64 (a3:Nat)) (.int .i64 r);binOp .shr 22 (.int .u64 (a3:Nat)) (.int .i64 r):Sem Value).run prog w= .ok (.int .u64 (s:Nat)) w)
 (ha: ∀(p q:Operand) (w:World),(do eqGuard .and 22 p q (.int .u64 (s:Nat)) (.int .u64 1);binOp .and 22 (.int .u64 (s:Nat)) (.int .u64 1):Sem Value).run prog w= .ok (.int .u64 (t:Nat)) w)
 (hc: ∀(w:World),(convert 22 3 (.int .u64 (t:Nat))).run prog w= .ok (.int .i64 (t:Nat)) w):
 CGy 63 #[A4y a0 a1 a2 a3,.int .i64 i] w (.int .i64 (t:Nat)):=by
 go_enter func63,ntmps63
 refine Jm ?_
 refine Lu ?_;refine F9 ?_;refine Ly ?_;refine Dz ?_
 refine Lt ?_;refine t_8 ?_;refine t_4 ?_;refine t_k ?_;refine Ls ?_;refine Lr ?_;refine Lq ?_;refine t_s (by exact A5 rfl gg rfl (fun w=>hc w)) ?_;iterate 2 refine t_k ?_
 refine AG ?_;refine AD (AM results63 (AE rfl)) ?_;intro w' hg;exact⟨rfl,hg⟩
section
open TollMont
theorem kE(n k:Nat):lim n (k/64)/2^(k %64) %2=n/2^k %2:=by
 unfold lim;have h1:W=2^(k %64)*2^(64-k %64):=by rw[←Nat.pow_add,show k %64+(64-k %64)=64 by omega]
 have h2:2∣2^(64-k %64):=⟨2^(64-k %64-1),by rw[←Nat.pow_succ'];congr 1;omega⟩
 have h3:W^(k/64)*2^(k %64)=2^k:=by
  rw[show W=2^64 by decide,←Nat.pow_mul,←Nat.pow_add,Nat.div_add_mod]
 rw[←h3,←Nat.div_div_eq_div_mul];generalize n/W^(k/64)=x;rw[h1,Nat.mod_mul_right_div_self,Nat.mod_mod_of_dvd _ h2]
theorem rU(n k:Nat)(hk:k<256)(w:World):CGy 63 #[N n,.int .i64 (k:Nat)] w (.int .i64 (n/2^k %2:Nat)):=by
 have hq:=r9 k (by omega);have hr:=rz k;have hm:k %64<64:=Nat.mod_lt _ (by decide);have h0:decide ((k:Int)<0)=false:=decide_eq_false (by omega);have h1:decide ((256:Int)≤(k:Int))=false:=decide_eq_false (by omega);rw[←kE n k];have hc:=sB (lim n (k/64)/2^(k %64) %2) (by omega);have hs:=ru (lim n (k/64)) (k %64) hm;have ha:=JV (lim n (k/64)/2^(k %64));have hj:k/64=0∨k/64=1∨k/64=2∨k/64=3:=by omega
 rcases hj with hj|hj|hj|hj<;>rw[hj]at hq hs ha hc⊢
 ·exact rY _ _ _ _ _ _ _ _ w h0 h1 hq hr hs ha hc
 ·exact rX _ _ _ _ _ _ _ _ w h0 h1 hq hr hs ha hc
 ·exact rW _ _ _ _ _ _ _ _ w h0 h1 hq hr hs ha hc
 ·exact rV _ _ _ _ _ _ _ _ w h0 h1 hq hr hs ha hc
variable{m b:Nat}
theorem HU:lim 0 0=0∧lim 0 1=0∧lim 0 2=0∧lim 0 3=0:=by decide
theorem Im:lim 1 0=1∧lim 1 1=0∧lim 1 2=0∧lim 1 3=0:=by decide
theorem Wi{u:Nat}(hu:u<R):(lim u 0=0∧lim u 1=0∧lim u 2=0∧lim u 3=0)↔u=0:=by
 constructor
 ·rintro⟨a,b,c,d⟩
  exact Ip hu (by decide) (a.trans HU.1.symm) (b.trans HU.2.1.symm) (c.trans HU.2.2.1.symm) (d.trans HU.2.2.2.symm)
 ·rintro rfl;exact HU
theorem Wj{u:Nat}(hu:u<R):(lim u 0=1∧lim u 1=0∧lim u 2=0∧lim u 3=0)↔u=1:=by
 constructor
 ·rintro⟨a,b,c,d⟩
  exact Ip hu (by decide) (a.trans Im.1.symm) (b.trans Im.2.1.symm) (c.trans Im.2.2.1.symm) (d.trans Im.2.2.2.symm)
 ·rintro rfl;exact Im
open Classical in
theorem QZ(h:Md m){x:Nat}(hx:x<R)(w:World)(ha:At w b m):Calls prog 42 #[ptr b,N x] w fun e w'=>
 e= .returned (if Nat.gcd x m=1 then .tuple #[N (Me m x),.int .i64 0]else .tuple #[N 0,.int .i64 1])∧Gw w w':=by
 have h0:0<m:=by have:=h.gt;omega
 have hm:=h.lt;have h1:=h.gt
 have key:=mb b lim x (x %m) m 1 0 w ha.m (fun u=> !decide (lim u 0=0∧lim u 1=0∧lim u 2=0∧lim u 3=0)) (fun u=> !decide (lim u 0=1∧lim u 1=0∧lim u 2=0∧lim u 3=0))
  (fun u=>lim u 0 %2) (fun u=>u/2) (halve m) (fun u v=>decide (u<v)) dif (fun u v=>if u<v then 1 else 0) (DJ m) (InvAt m x) Im HU
  (fun w' hw=>GJ h hx w' (ha.gw hw)) (InvAt.start h.odd h1) (fun u p q w=>PY _ _ _ _ _ _ _ _ p q w) (fun u p q w=>PY _ _ _ _ _ _ _ _ p q w) (fun u p q w=>JV _ p q w) ?_ ?_ ?_ ?_ ?_ ?_ ?_ ?_ ?_ ?_
 ·refine key.mono fun e w' ⟨⟨u,v,a,d,hI,hz,hr⟩,hg⟩=>⟨?_,hg⟩
  have hu:u=0:=by
   have:=(Bool.not_eq_false' .. ▸hz:decide (lim u 0=0∧lim u 1=0∧lim u 2=0∧lim u 3=0)=true)
   exact(Wi (by have:=hI.ule;omega)).1 (of_decide_eq_true this)
  subst hu;have hd:=hI.done h1;have hv1:=Wj (u:=v) (by have:=hI.vle;omega);rcases hr with⟨hn,he⟩|⟨hn,he⟩
  ·have hn': ¬v=1:=fun hc=>by
    have:=hv1.2 hc;rw[decide_eq_true this]at hn;cases hn
   rw[if_neg (fun hc=>hn' (hd.1.2 hc)),ZY];exact he
  ·have hv:v=1:=by
    have:=(Bool.not_eq_false' .. ▸hn:decide (lim v 0=1∧lim v 1=0∧lim v 2=0∧lim v 3=0)=true)
    exact hv1.1 (of_decide_eq_true this)
   rw[if_pos (hd.1.1 hv),←(hd.2 hv).1];exact he
 ·intro u v a d hI _ hp w' hw
  have:=Qd (n:=u) (by have:=hI.ule;omega) (.inl rfl:(0:Nat)=0∨(0:Nat)=1) w';rw[Nat.mul_zero,Nat.add_zero]at this;exact this
 ·intro u v a d hI _ hp w' hw
  exact nA hm (by have:=hI.xlt;omega) w' (ha.gw hw)
 ·intro u v a d hI _ hp w' hw
  exact P3 u v (by have:=hI.ule;omega) (by have:=hI.vle;omega) w'
 ·intro u v a d hI _ hp _ w' hw
  exact IQ u v (by have:=hI.ule;omega) (by have:=hI.vle;omega) w'
 ·intro u v a d hI _ hp _ w' hw
  exact IQ v u (by have:=hI.vle;omega) (by have:=hI.ule;omega) w'
 ·intro u v a d hI _ hp _ w' hw
  exact Pk h (by have:=hI.xlt;omega) (by have:=hI.ylt;omega) w' (ha.gw hw)
 ·intro u v a d hI _ hp _ w' hw
  exact Pk h (by have:=hI.ylt;omega) (by have:=hI.xlt;omega) w' (ha.gw hw)
 ·intro u v a d hI hz hp
  have hp':u %2=0:=by have:lim u 0 %2=0:=hp;rwa [Ke]at this
  have hu:u≠0:=by rintro rfl;exact absurd hz (by decide)
  refine⟨hI.halved h.odd hp',?_⟩;show u/2+v<u+v;omega
 ·intro u v a d hI hz hp hl
  have hl': ¬u<v:=of_decide_eq_false hl;have hu:u≠0:=by rintro rfl;exact absurd hz (by decide)
  have hv:=hI.vodd;have e:dif u v=u-v:=by unfold dif;rw[if_neg hl']
  rw[e];exact⟨hI.less h1 (by omega),by omega⟩
 ·intro u v a d hI hz hp hl
  have hl':u<v:=of_decide_eq_true hl;have hp':u %2≠0:=by have:lim u 0 %2≠0:=hp;rwa [Ke]at this
  have e:dif v u=v-u:=by unfold dif;rw[if_neg (by omega)]
  rw[e];exact⟨hI.swap h1 (by omega) hl',by omega⟩
def KV(a x:Nat):Nat:=a*x %18446744073709551616
def Jz(x:Nat):Nat:=(((2:Nat):Int)-(x:Int)) %18446744073709551616 |>.toNat
def Pm(x y:Nat):Nat:=x*y %18446744073709551616
theorem Ie(a i:Nat):Pm (CL a i) (Jz (KV a (CL a i)))=CL a (i+1):=by
 have hl:a*CL a i %18446744073709551616<18446744073709551616:=Nat.mod_lt _ (by decide)
 have e:Jz (KV a (CL a i))=(2+W-a*CL a i %W) %W:=by
  unfold Jz KV;simp only[W];generalize a*CL a i %18446744073709551616=y at*;omega
 rw[e];rfl
theorem ck{m:Nat}(hm:m<R)(h:m≠1):decide (lim m 0=1∧lim m 1=0∧lim m 2=0∧lim m 3=0)=false:=decide_eq_false fun c=>h ((Wj hm).1 c)
def p2(a k:Nat):Nat:=a^k
theorem fG(a k:Nat):p2 a (k+1)=p2 a k*a:=Nat.pow_succ a k
theorem fI(a j k:Nat):p2 a (j+k)=p2 a j*p2 a k:=Nat.pow_add a j k
variable{m:Nat}
theorem UX(h:Md m)(w:World):Calls prog 69 #[N m] w fun e w'=> ∃g,w.heap.size≤g∧e= .returned (.tuple #[ptr g,.int .i64 0])∧w'.heap[g]? =some (.cells (Cc m).toArray 150 (0,0))∧Gw w w':=by
 have h0:0<m:=by have:=h.gt;omega
 have hm:=h.lt;have hodd:lim m 0 %2=1:=(Ke m).trans h.odd;have pw: ∀i,(p2 2 i %m+p2 2 i %m) %m=p2 2 (i+1) %m:=fun i=>by rw[←Nat.add_mod,fG,Nat.mul_two]
 have pR:p2 2 256=R:=by unfold p2;decide
 have ho: ∀x,x<m→(x+x)/R=0∨(x+x)/R=1:=fun x hx=>by simp only[R]at *; omega
 have key:=fy lim m 1 0 (E9 (lim m 0)) w (KV (lim m 0)) Jz Pm (fun x=>x+x) (fun x=>(x+x)/R) (fun x=>(x+x) %m)
  (fun i x o=>x=p2 2 i %m∧(i≤256→o=0)∧(256<i→o=R %m)) HU (fun p q w=>by have:=JV (lim m 0) p q w;rw[hodd]at this;exact this)
  (fun p q w=>by have:=NU 96 (.inl rfl) (lim m 0) (lim m 1) (lim m 2) (lim m 3) 1 0 0 0 p q w;rw[ck hm (by have:=h.gt;omega)]at this;exact this)
  (fun x p q w=>N0 _ x p q w) (fun p q w=>N0 _ 1 p q w) (fun x p q w=>rn 2 x p q w) (fun x y p q w=>N0 x y p q w) (fun y p q w=>N0 1 y p q w) ?_ ?_ ?_ ?_ ?_ ?_ ?_
 ·refine key.mono fun e w' ⟨x,o,g,hR,h1,h2,he,hg⟩=>⟨g,h1,he,?_,hg⟩
  obtain⟨hx,_,hoo⟩:=hR;rw[show p2 2 512=p2 2 (256+256) from rfl,fI,pR]at hx;rw[hx,hoo (by omega)]at h2;exact h2
 ·intro w
  have e1:Pm 1 (Jz (KV (lim m 0) 1))=CL (lim m 0) 1:=Ie (lim m 0) 0;have e2:=Ie (lim m 0) 1;have e3:=Ie (lim m 0) 2;have e4:=Ie (lim m 0) 3;have e5:=Ie (lim m 0) 4;have e6:=Ie (lim m 0) 5;simp only[e1,e2,e3,e4,e5,e6];have hb:=sA (CL (lim m 0) 6) w;have hl:=Wl (lim m 0) 6;have hp:=mf hodd
  have:(18446744073709551616-CL (lim m 0) 6 %18446744073709551616) %18446744073709551616=E9 (lim m 0):=by
   unfold E9;simp only[W]at *; omega
  rw[this]at hb;exact hb
 ·intro w' g hc
  have:=ME g m 1 0 hm (by decide) (.inl rfl) w' hc;rw[if_pos ⟨rfl,h.gt⟩,Rq]at this;exact this
 ·intro i x o _ hR w' _
  have hx:x<m:=hR.1▸Nat.mod_lt _ h0;exact N7 x x (by omega) (by omega) w'
 ·intro i x o _ hR w' g hc
  have hx:x<m:=hR.1▸Nat.mod_lt _ h0;have hr:=Nat.mod_lt (x+x) (show 0<R by decide);have hlt:(x+x) %R+R*((x+x)/R)<2*m:=by rw[Nat.mod_add_div];omega
  have:=ME g m ((x+x) %R) ((x+x)/R) hm hr (ho x hx) w' hc;rw[S6 hm hr (ho x hx) hlt,Nat.mod_add_div,Kf]at this;exact this
 ·exact⟨(Nat.mod_eq_of_lt h.gt).symm,fun _=>rfl,fun c=>by omega⟩
 ·rintro i x o _ hi ⟨hx,h1,h2⟩
  exact⟨by show(x+x) %m=_;rw[hx,pw],fun c=>h1 (by omega),fun c=>h2 (by omega)⟩
 ·rintro x o ⟨hx,_,_⟩
  exact⟨by show(x+x) %m=_;rw[hx,pw],fun c=>by omega,fun _=>by rw[hx,pR]⟩
end
end Go.Proofs.YtefpajmkaaielaaGreatDoor
namespace Go.Toll
open Go.RowKit
variable{parts:Array (Nat×Operand)}{xs:Array Operand}{ats:Array TypeId}{cells:Array Value}{b:Blk}{f:FuncId}{vs:List Value}{id id2 off off2:Nat}{a x:Operand}{d:TypeDesc}{v:Value}
section
variable{P:Program}{w0:World}{ops:Array Oper}{o:Oper}{s:VS}
def CJ:List (Nat×SV)→Option (List (Nat×Value))
 | []=>some []
 |(i,.v x)::l=>match CJ l with|some r=>some ((i,x)::r)|none=>none
 |_::_=>none
theorem G3: ∀{l:List (Nat×SV)} {r:List (Nat×Value)},CJ l=some r→ ∀ρ,l.map (fun x=>(x.1,x.2.c ρ))=r
 | [],r,h,_=>by simp[CJ]at h;subst h;rfl
 |(i,.v x)::l,r,h,ρ=>by
  simp only[CJ]at h;cases hl:CJ l with
  |none=>rw[hl]at h;cases h
  |some q=>rw[hl]at h;simp only[Option.some.injEq]at h;subst h;exact congrArg _ (G3 hl ρ)
 |(_,.p _ _)::_,_,h,_=>by simp[CJ]at h
 |(_,.s _ _ _ _)::_,_,h,_=>by simp[CJ]at h
 |(_,.tp _ _ _)::_,_,h,_=>by simp[CJ]at h
 |(_,.ap _ _)::_,_,h,_=>by simp[CJ]at h
theorem Ar{ty:TypeId}{pl:List (Nat×Value)}(ho:o.op= .build ty parts)(hgd: ∀ρ,Region.wanted o (yielded ops (s.act ρ).tmps)=true)
 (hx:CJ (parts.toList.map fun x=>(x.1,AC s x.2))=some pl)(hb:P.built ty pl=some cells):Ev P ops w0 o s ⟨.v (.agg cells),.none,[]⟩:=
 .run _ _ hgd fun ρ w _=>by
  have h1:(parts.map fun(i,x)=>(i,(s.act ρ).eval x)).toList=pl:=by
   rw[←G3 hx ρ];simp only[Array.toList_map,List.map_map];exact List.map_congr_left fun x _=>by simp only[Function.comp_apply,AH]
  have h2:=run_build w ty (parts.map fun(i,x)=>(i,(s.act ρ).eval x)) cells (by rw[h1];exact hb);simp only[execOp,ho,SV.c];rw[Sem.run_bind,h2];rfl
theorem I8{c b:Operand}(ho:o.op= .pick c a b)(hgd: ∀ρ,Region.wanted o (yielded ops (s.act ρ).tmps)=true)(hc:AC s c= .v (.bool true))(ha:AC s a= .v v):Ev P ops w0 o s ⟨.v v,.none,[]⟩:=
 .run _ _ hgd fun ρ w _=>by
  have e1:=AH s ρ c;rw[hc]at e1;have e2:=AH s ρ a;rw[ha]at e2;simp[execOp,ho,e1,e2,SV.c,asBool]
theorem I9{c b:Operand}(ho:o.op= .pick c a b)(hgd: ∀ρ,Region.wanted o (yielded ops (s.act ρ).tmps)=true)(hc:AC s c= .v (.bool false))(hb:AC s b= .v v):Ev P ops w0 o s ⟨.v v,.none,[]⟩:=
 .run _ _ hgd fun ρ w _=>by
  have e1:=AH s ρ c;rw[hc]at e1;have e2:=AH s ρ b;rw[hb]at e2;simp[execOp,ho,e1,e2,SV.c,asBool]
theorem Fq{ty:TypeId}{p:Bool}(ho:o.op= .unOp .not ty x)(hgd: ∀ρ,Region.wanted o (yielded ops (s.act ρ).tmps)=true)(hx:AC s x= .v (.bool p)):Ev P ops w0 o s ⟨.v (.bool (!p)),.none,[]⟩:=
 K4 ho hgd hx fun w=>by simp[Op.unary]
theorem oY{ty:TypeId}{i:Nat}(ho:o.op= .build ty #[(i,x)])(hgd: ∀ρ,Region.wanted o (yielded ops (s.act ρ).tmps)=true)(hx:AC s x= .p id off)
 (hb: ∀g,P.built ty [(i,.pointer (some ⟨g,off,none⟩))]=some #[.pointer (some ⟨g,off,none⟩)]):Ev P ops w0 o s ⟨.ap id off,.none,[]⟩:=
 .run _ _ hgd fun ρ w _=>by
  have e1:=AH s ρ x;rw[hx]at e1;have h2:=run_build w ty #[(i,(s.act ρ).eval x)] _ (by rw[e1];exact hb (ρ id));simp only[execOp,ho,SV.c];rw[Sem.run_bind];have h3:(#[(i,x)]:Array (Nat×Operand)).map (fun(i,x)=>(i,(s.act ρ).eval x))= #[(i,(s.act ρ).eval x)]:=by simp
  rw[h3,h2];rfl
theorem Qj{ty:TypeId}{y:Operand}(ho:o.op= .store ty x y)(hgd: ∀ρ,Region.wanted o (yielded ops (s.act ρ).tmps)=true)(hx:AC s x= .p id off)(hm:s.mem id=some b)(hy:AC s y= .ap id2 off2)
 (hs: ∀w,(Go.sizeOf ty).run P w= .ok 1 w)(hfit:off+1≤b.1.length):
 Ev P ops w0 o s ⟨.v undef,.wr id (b.1.take off++[.p id2 off2]++b.1.drop (off+1),b.2),[id]⟩:=
 .wr id _ hgd (by rw[hm];rfl) fun ρ w hw=>by
  have e1:=AH s ρ x;rw[hx]at e1;have e2:=AH s ρ y;rw[hy]at e2;obtain⟨_,hb⟩:=hw.2 id b (by simp) hm;have hst:=run_storeCells_at P (ρ id) off b.2 [.pointer (some ⟨ρ id2,off2,none⟩)] 0 (b.1.map (SV.c ρ)).toArray w hb (by simp;omega) (fun u hu=>by simp at hu;subst hu;rfl);refine⟨w.setRow (ρ id) ((b.1.map (SV.c ρ)).toArray.toList.take (off+0)++[Value.pointer (some ⟨ρ id2,off2,none⟩)]++(b.1.map (SV.c ρ)).toArray.toList.drop (off+0+1)).toArray,?_,?_,?_⟩
  ·simp only[execOp,ho,e1,e2,SV.c,Instr.storeAt,Instr.sureAddr,storeVar]
   rw[Sem.run_bind,Sem.run_bind,Sem.run_pure,Result.andThen_ok,Sem.run_bind,hs,Result.andThen_ok,if_neg (by simp[Value.cells])];have hst':=hst;simp only[Value.cells]at hst'⊢;rw[hst'];rfl
  ·exact⟨rfl,rfl,rfl,by simp,fun k hk=>setRow_other w _ k _ hk,fun a=>by
    by_cases ha:a.block=ρ id
    ·simp[World.frozen?,ha,hb,cellsOf,setRow_heap w (ρ id) _ _ _ _ hb]
    ·simp[World.frozen?,setRow_other w (ρ id) a.block _ ha]⟩
  ·rw[setRow_heap w (ρ id) _ _ _ _ hb]
   simp[cellsOf,SV.c,List.map_take,List.map_drop]
theorem nt{ty:TypeId}(ho:o.op= .load ty x)(hgd: ∀ρ,Region.wanted o (yielded ops (s.act ρ).tmps)=true)(hx:AC s x= .p id off)(hm:s.mem id=some b)
 (hu:P.underlying ty=some d)(hd:Bc d=true)(hs: ∀w,(Go.sizeOf ty).run P w= .ok 1 w)(hv:b.1[off]? =some (.p id2 off2)):Ev P ops w0 o s ⟨.ap id2 off2,.none,[id]⟩:=
 .run _ _ hgd fun ρ w hw=>by
  have h1:=AH s ρ x;rw[hx]at h1;obtain⟨_,hb⟩:=hw.2 id b (by simp) hm
  have hl':(loadCells ⟨ρ id,off,none⟩ 1).run P w= .ok #[.pointer (some ⟨ρ id2,off2,none⟩)] w:=run_loadCells_list w _ [.pointer (some ⟨ρ id2,off2,none⟩)] fun j v hj=>by
   rw[BX]
   match j,hj with
   |0,hj=>
    simp at hj;subst hj;simp only[World.cell?,hb,cellsOf];simp[hv,SV.c]
  simp[execOp,ho,h1,SV.c,Instr.loadAt,Instr.sureAddr,loadVar,Bu hu,hd,hs,hl']
theorem NT(_hd:o.dst=some id)(ho:o.op= .call {callee:= .value (.func f),args:=xs,argTypes:=ats})(hgd: ∀ρ,Region.wanted o (yielded ops (s.act ρ).tmps)=true)
 (hx:unV (xs.toList.map (AC s))=some vs)(he: ∀args w,(callFunc f args).run P w= .ok (.enter f args) w)(cs:List Value)(ty:TypeId)
 (hc: ∀w,Gw w0 w→Calls P f vs.toArray w fun e w'=> ∃g,w.heap.size≤g∧e= .returned (.agg #[.pointer (some ⟨g,0,none⟩)])∧w'.heap[g]? =some (.cells cs.toArray ty (0,0))∧Gw w w'):
 Ev P ops w0 o s ⟨.ap id 0,.new id (cs.map .v,ty),[]⟩:=
 .callnew f (fun _=>vs.toArray) (.ap id 0) [] id (cs.map .v,ty) hgd (by simp[SV.has]) (fun ρ w _=>by
  obtain⟨dst,op,type,pos,after,guard⟩:=o;simp only at ho;subst ho;rw[execOp_call_go,F0 hx];simpa using he vs.toArray w) fun ρ w hs=>(hc w hs.1).mono fun e w' ⟨g,h1,h2,h3,h4⟩=>⟨g,h1,by simp[h2,SV.c],by rw[h3];simp[cellsOf,Function.comp_def,SV.c],h4⟩
theorem eO{fn:Func}{R:Ending→World→Prop}{a ty bid:Nat}{bb:Blk}{cs:List Value}(hf:fn.results= #[.cell a ty])(ha:AC s (.tmp a)= .p bid off)(hbm:s.mem bid=some bb)(hu:P.underlying ty=some d)(hd:Bc d=true)(hs: ∀w,(Go.sizeOf ty).run P w= .ok 1 w)
 (hv:bb.1[off]? =some (.p id 0))(hm:s.mem id=some b)(hb:unV b.1=some cs)
 (hR: ∀g w,w0.heap.size≤g→w.heap[g]? =some (.cells cs.toArray b.2 (0,0))→Gw w0 w→R (.returned (.agg #[.pointer (some ⟨g,0,none⟩)])) w): ∀ρ w,Rel w0 ρ s w→bodyPost P fn R .ret (s.act ρ) w:=fun ρ w hr=>by
 obtain⟨h1,h2⟩:=hr.own id b hm;obtain⟨_,h3⟩:=hr.own bid bb hbm;refine⟨rfl,_,?_,hR (ρ id) w h1 (by rw[h2];simp[cellsOf,Dy hb,Function.comp_def,SV.c]) hr.gw⟩;rw[GI,hf]
 have hl':(loadCells ⟨ρ bid,off,none⟩ 1).run P w= .ok #[.pointer (some ⟨ρ id,0,none⟩)] w:=run_loadCells_list w _ [.pointer (some ⟨ρ id,0,none⟩)] fun j v hj=>by
  rw[BX]
  match j,hj with
  |0,hj=>
   simp at hj;subst hj;simp only[World.cell?,h3,cellsOf];simp[hv,SV.c]
 have e1:(C6 (s.act ρ).tmps (.cell a ty)).run P w= .ok (.agg #[.pointer (some ⟨ρ id,0,none⟩)]) w:=by
  simp only[C6,FJ,ha,SV.c];simp[asAddr,loadVar,Bu hu,hd,hs,hl']
 simp[e1]
end
end Go.Toll
