import Derived.Laws.BitsLemmas
import Derived.Shelf.Spec.BitsCarry
import Derived.Test.YtafbhakmkbehiaaGreatDoorZ4
import Derived.Test.YtafbhakmkbehiaaGreatDoorZ5
open Go.Proofs.Tryz
set_option maxRecDepth 100000
namespace Go.Proofs.YtafbhakmkbehiaaGreatDoor
open Go.RowKit Go.Toll
variable{b n:Nat}{Q:Nat→Value→Prop}{P:Program}{w:World}
theorem Fj(n:Nat):IntKind.u64.wrap (n:Int)=((n %18446744073709551616:Nat):Int):=by rw[IntKind.wrap_u64];omega
theorem Qa(x y:Nat)(p q:Operand)(w:World):(do eqGuard .mul 49 p q (.int .u64 (x:Nat)) (.int .u64 (y:Nat));binOp .mul 49 (.int .u64 (x:Nat)) (.int .u64 (y:Nat)):Sem Value).run prog w= .ok (.int .u64 ((x*y) %18446744073709551616:Nat)) w:=by
 go_simp
 exact Fj (x*y)
theorem UY(x y:Nat)(p q:Operand)(w:World):(do eqGuard .sub 49 p q (.int .u64 (x:Nat)) (.int .u64 (y:Nat));binOp .sub 49 (.int .u64 (x:Nat)) (.int .u64 (y:Nat)):Sem Value).run prog w= .ok (.int .u64 (((x:Int)-(y:Int)) %18446744073709551616).toNat) w:=by
 go_simp
 rw[IntKind.wrap_u64];omega
theorem qy(x y:Nat):bits .or .u64 (x:Int) (y:Int)=((x %18446744073709551616|||y %18446744073709551616:Nat):Int):=by
 simp only[bits,BitVec.ofInt_natCast,BitVec.toNat_or,BitVec.toNat_ofNat];rw[show IntKind.u64.bits=64 from rfl,show(2:Nat)^64=18446744073709551616 by decide,Fj,Nat.mod_eq_of_lt];exact Nat.or_lt_two_pow (n:=64) (Nat.mod_lt _ (by decide)) (Nat.mod_lt _ (by decide))
theorem q9(x:Nat):bits .and .u64 (x:Int) 1=((x %2:Nat):Int):=by
 rw[show(1:Int)=((1:Nat):Int) from rfl];simp only[bits,BitVec.ofInt_natCast,BitVec.toNat_and,BitVec.toNat_ofNat];rw[show IntKind.u64.bits=64 from rfl,show(1:Nat) %2^64=1 by decide,Nat.and_one_is_mod,Fj];omega
theorem LR(x:Nat)(p q:Operand)(w:World):(do eqGuard .and 49 p q (.int .u64 (x:Nat)) (.int .u64 1);binOp .and 49 (.int .u64 (x:Nat)) (.int .u64 1):Sem Value).run prog w= .ok (.int .u64 (x %2:Nat)) w:=by
 go_simp
 exact q9 x
theorem QZ(x y:Nat)(p q:Operand)(w:World):(do eqGuard .or 49 p q (.int .u64 (x:Nat)) (.int .u64 (y:Nat));binOp .or 49 (.int .u64 (x:Nat)) (.int .u64 (y:Nat)):Sem Value).run prog w= .ok (.int .u64 (x %18446744073709551616|||y %18446744073709551616:Nat)) w:=by
 go_simp
 exact qy x y
theorem rS(x:Nat)(p q:Operand)(w:World):(do eqGuard .shr 49 p q (.int .u64 (x:Nat)) (.int .u64 1);binOp .shr 49 (.int .u64 (x:Nat)) (.int .u64 1):Sem Value).run prog w= .ok (.int .u64 (x/2:Nat)) w:=by
 go_simp
theorem rU(x:Nat)(p q:Operand)(w:World):(do eqGuard .shl 49 p q (.int .u64 (x:Nat)) (.int .u64 63);binOp .shl 49 (.int .u64 (x:Nat)) (.int .u64 63):Sem Value).run prog w= .ok (.int .u64 (x*9223372036854775808 %18446744073709551616:Nat)) w:=by
 go_simp
 exact Fj (x*9223372036854775808)
theorem T0{d t el:Nat}{k k':IntKind}(ht:P.underlying t=some (.array 4 el))(he:P.underlying el=some (.int k'))(hs: ∀w,(Go.sizeOf el).run P w= .ok 1 w)(a0 a1 a2 a3 b0 b1 b2 b3:Int)(w:World):
 (Op.equalIn (d+2) t (.agg #[.int k a0,.int k a1,.int k a2,.int k a3]) (.agg #[.int k b0,.int k b1,.int k b2,.int k b3])).run P w= .ok (a0==b0 && a1==b1 && a2==b2 && a3==b3) w:=by
 have hi: ∀a b:Int,(Op.equalIn (d+1) el (.int k a) (.int k b)).run P w= .ok (a==b) w:=fun a b=>run_equalIn_int w d el k k' a b he
 have hp: ∀(xs:Array Value) (i:Nat) (v:Value),xs[i]? =some v→(part el xs i).run P w= .ok v w:=fun xs i v h=>by
  simp[part,Bp he,Ba,h]
 rw[Op.equalIn];simp only[Sem.run_bind,run_underlying ht,Result.andThen_ok,hs];simp[List.range',hp,hi];by_cases h0:a0=b0<;>by_cases h1:a1=b1<;>by_cases h2:a2=b2<;>by_cases h3:a3=b3<;>simp[h0,h1,h2,h3]
theorem Nr(x y:Nat):((x:Int)==(y:Int))=decide (x=y):=by
 by_cases h:x=y
 ·simp[h]
 ·simp[h];omega
theorem NX(t:TypeId)(ht:t=147∨t=146)(a0 a1 a2 a3 b0 b1 b2 b3:Nat)(p q:Operand)(w:World):
 (do eqGuard .eql t p q (.agg #[.int .u64 a0,.int .u64 a1,.int .u64 a2,.int .u64 a3]) (.agg #[.int .u64 b0,.int .u64 b1,.int .u64 b2,.int .u64 b3]);binOp .eql t (.agg #[.int .u64 a0,.int .u64 a1,.int .u64 a2,.int .u64 a3]) (.agg #[.int .u64 b0,.int .u64 b1,.int .u64 b2,.int .u64 b3]):Sem Value).run prog w=
  .ok (.bool (decide (a0=b0∧a1=b1∧a2=b2∧a3=b3))) w:=by
 rcases ht with rfl|rfl
 ·go_simp
  rw[T0 underlying147 underlying49 sizeOf49];simp only[Result.andThen,Nr];simp[Bool.and_assoc]
 ·go_simp
  rw[T0 underlying146 underlying49 sizeOf49];simp only[Result.andThen,Nr];simp[Bool.and_assoc]
theorem Sl(a0 a1 a2 a3 b0 b1 b2 b3:Nat)(p q:Operand)(w:World):
 (do eqGuard .neq 147 p q (.agg #[.int .u64 a0,.int .u64 a1,.int .u64 a2,.int .u64 a3]) (.agg #[.int .u64 b0,.int .u64 b1,.int .u64 b2,.int .u64 b3]);binOp .neq 147 (.agg #[.int .u64 a0,.int .u64 a1,.int .u64 a2,.int .u64 a3]) (.agg #[.int .u64 b0,.int .u64 b1,.int .u64 b2,.int .u64 b3]):Sem Value).run prog w=
  .ok (.bool (!decide (a0=b0∧a1=b1∧a2=b2∧a3=b3))) w:=by
 go_simp
 rw[T0 underlying147 underlying49 sizeOf49];simp only[Result.andThen,Nr];simp[Bool.and_assoc]
open TollMont
def N(n:Nat):Value:= .agg #[.int .u64 (lim n 0:Nat),.int .u64 (lim n 1:Nat),.int .u64 (lim n 2:Nat),.int .u64 (lim n 3:Nat)]
def sb(x y b:Nat):Nat:=(x+W-y-b) %W
def bo(x y b:Nat):Nat:=if x<y+b then 1 else 0
theorem UT(x y b:Nat):bo x y b≤1:=by unfold bo;split<;>omega
theorem OU(x y b:Nat)(hb:b≤1)(w:World):(callFunc 171 #[.int .u64 x,.int .u64 y,.int .u64 b]).run prog w=
 .ok (.value (.tuple #[.int .u64 (sb x y b:Nat),.int .u64 (bo x y b:Nat)])) w:=by
 rw[run_callFunc_extern func171 (by kernel_rfl) (by kernel_rfl) (by kernel_rfl) (e:=sub64Entry) (by kernel_rfl),run_sub64 x y b hb];rfl
theorem J9(n m:Nat)(hn:n<R)(hm:m<R)(w:World):
 Calls prog 129 #[N n,N m] w fun e w'=>e= .returned (.tuple #[N (dif n m),.int .u64 (if n<m then 1 else 0:Nat)])∧Gw w w':=by
 obtain⟨e0,e1,e2,e3,e4⟩:=Vj n m hn hm (sb (lim n 0) (lim m 0) 0) (bo (lim n 0) (lim m 0) 0) (sb (lim n 1) (lim m 1) (bo (lim n 0) (lim m 0) 0)) (bo (lim n 1) (lim m 1) (bo (lim n 0) (lim m 0) 0))
  (sb (lim n 2) (lim m 2) (bo (lim n 1) (lim m 1) (bo (lim n 0) (lim m 0) 0))) (bo (lim n 2) (lim m 2) (bo (lim n 1) (lim m 1) (bo (lim n 0) (lim m 0) 0)))
  (sb (lim n 3) (lim m 3) (bo (lim n 2) (lim m 2) (bo (lim n 1) (lim m 1) (bo (lim n 0) (lim m 0) 0)))) (bo (lim n 3) (lim m 3) (bo (lim n 2) (lim m 2) (bo (lim n 1) (lim m 1) (bo (lim n 0) (lim m 0) 0)))) rfl rfl rfl rfl rfl rfl rfl rfl
 have h:=eZ (lim n 0) (lim n 1) (lim n 2) (lim n 3) (lim m 0) (lim m 1) (lim m 2) (lim m 3) _ _ _ _ _ _ _ _ w (fun w=>OU _ _ 0 (by omega) w) (fun w=>OU _ _ _ (UT _ _ _) w) (fun w=>OU _ _ _ (UT _ _ _) w) (fun w=>OU _ _ _ (UT _ _ _) w);rw[e4,e3,e2,e1,e0]at h;exact h
def ac(x y c:Nat):Nat:=(x+y+c) %W
def co(x y c:Nat):Nat:=(x+y+c)/W
theorem IZ(x y c:Nat)(hc:c≤1)(w:World):(callFunc 173 #[.int .u64 x,.int .u64 y,.int .u64 c]).run prog w=
 .ok (.value (.tuple #[.int .u64 (ac x y c:Nat),.int .u64 (co x y c:Nat)])) w:=by
 rw[run_callFunc_extern func173 (by kernel_rfl) (by kernel_rfl) (by kernel_rfl) (e:=add64Entry) (by kernel_rfl),run_add64 x y c (by omega) (by omega) (by omega) (by omega)];rfl
theorem UA{x y c:Nat}(hx:x<W)(hy:y<W)(hc:c≤1):co x y c≤1:=by unfold co;simp only[W]at *; omega
theorem Qg(n m:Nat)(hn:n<R)(hm:m<R)(w:World):
 Calls prog 159 #[N n,N m] w fun e w'=>e= .returned (.tuple #[N (n+m),.int .u64 ((n+m)/R:Nat)])∧Gw w w':=by
 obtain⟨e0,e1,e2,e3,e4⟩:=cY n m hn hm (ac (lim n 0) (lim m 0) 0) (co (lim n 0) (lim m 0) 0) (ac (lim n 1) (lim m 1) (co (lim n 0) (lim m 0) 0)) (co (lim n 1) (lim m 1) (co (lim n 0) (lim m 0) 0))
  (ac (lim n 2) (lim m 2) (co (lim n 1) (lim m 1) (co (lim n 0) (lim m 0) 0))) (co (lim n 2) (lim m 2) (co (lim n 1) (lim m 1) (co (lim n 0) (lim m 0) 0)))
  (ac (lim n 3) (lim m 3) (co (lim n 2) (lim m 2) (co (lim n 1) (lim m 1) (co (lim n 0) (lim m 0) 0)))) (co (lim n 3) (lim m 3) (co (lim n 2) (lim m 2) (co (lim n 1) (lim m 1) (co (lim n 0) (lim m 0) 0)))) rfl rfl rfl rfl rfl rfl rfl rfl
 have l0:=UA (AZ n 0) (AZ m 0) (Nat.zero_le 1);have l1:=UA (AZ n 1) (AZ m 1) l0;have l2:=UA (AZ n 2) (AZ m 2) l1;have h:=rv (lim n 0) (lim n 1) (lim n 2) (lim n 3) (lim m 0) (lim m 1) (lim m 2) (lim m 3) _ _ _ _ _ _ _ _ w (fun w=>IZ _ _ 0 (by omega) w) (fun w=>IZ _ _ _ l0 w) (fun w=>IZ _ _ _ l1 w) (fun w=>IZ _ _ _ l2 w);rw[e4,e3,e2,e1,e0]at h;exact h
def Bq(n:Nat):List Value:=[.int .u64 (lim n 0:Nat),.int .u64 (lim n 1:Nat),.int .u64 (lim n 2:Nat),.int .u64 (lim n 3:Nat)]
def Ck(m:Nat):List Value:=Bq m++[.int .u64 (Gn (lim m 0):Nat)]++Bq (R %m)++Bq (R*R %m)
def At(w:World)(b m:Nat):Prop:= ∀(j:Nat) (v:Value),(Ck m)[j]? =some v→w.cell? ⟨b,0+j,none⟩=some v
theorem At.gw{w':World}{m:Nat}(h:At w b m)(g:Gw w w'):At w' b m:=fun j v hj=>g.cell (h j v hj)
theorem cO{m k:Nat}(h:At w b m)(hk: ∀j v,(Bq n)[j]? =some v→(Ck m)[k+j]? =some v): ∀(j:Nat) (v:Value),(Bq n)[j]? =some v→w.cell? ⟨b,k+j,none⟩=some v:=fun j v hj=>by
 have:=h (k+j) v (hk j v hj)
 rwa [Nat.zero_add]at this
theorem Yo{j:Nat}{v:Value}(h0:Q 0 (.int .u64 (lim n 0:Nat)))(h1:Q 1 (.int .u64 (lim n 1:Nat)))(h2:Q 2 (.int .u64 (lim n 2:Nat)))(h3:Q 3 (.int .u64 (lim n 3:Nat)))
 (h:(Bq n)[j]? =some v):Q j v:=by
 match j,h with
 |0,h=>simp only[Bq,List.getElem?_cons_zero,Option.some.injEq]at h;exact h▸h0
 |1,h=>simp only[Bq,List.getElem?_cons_zero,List.getElem?_cons_succ,Option.some.injEq]at h;exact h▸h1
 |2,h=>simp only[Bq,List.getElem?_cons_zero,List.getElem?_cons_succ,Option.some.injEq]at h;exact h▸h2
 |3,h=>simp only[Bq,List.getElem?_cons_zero,List.getElem?_cons_succ,Option.some.injEq]at h;exact h▸h3
 |j+4,h=>simp[Bq]at h
theorem At.m{w:World}{b m:Nat}(h:At w b m): ∀(j:Nat) (v:Value),(Bq m)[j]? =some v→w.cell? ⟨b,0+j,none⟩=some v:=
 cO h fun _j _v hj=>Yo (Q:=fun j v=>(Ck m)[0+j]? =some v) rfl rfl rfl rfl hj
theorem At.two{m:Nat}(h:At w b m): ∀(j:Nat) (v:Value),(Bq (R*R %m))[j]? =some v→w.cell? ⟨b,9+j,none⟩=some v:=
 cO h fun _j _v hj=>Yo (Q:=fun j v=>(Ck m)[9+j]? =some v) rfl rfl rfl rfl hj
theorem At.neg{m:Nat}(h:At w b m):w.cell? ⟨b,4,none⟩=some (.int .u64 (Gn (lim m 0):Nat)):=h 4 _ rfl
def ptr(b:Nat):Value:= .pointer (some ⟨b,0,none⟩)
theorem OY(b m n o:Nat)(hm:m<R)(hn:n<R)(ho:o=0∨o=1)(w:World)(h: ∀(j:Nat) (v:Value),(Bq m)[j]? =some v→w.cell? ⟨b,0+j,none⟩=some v):
 Calls prog 160 #[ptr b,N n,.int .u64 (o:Nat)] w fun e w'=>e= .returned (N (if o=0∧n<m then n else dif n m))∧Gw w w':=by
 have hs:=fun w'=>J9 n m hn hm w'
 rcases ho with rfl|rfl
 ·by_cases hlt:n<m
  ·rw[if_pos ⟨rfl,hlt⟩]
   exact fN b _ _ _ _ _ _ _ _ _ _ _ _ w h (fun w' _=>by have:=hs w';rw[if_pos hlt]at this;exact this)
  ·rw[if_neg (fun c=>hlt c.2)]
   exact fO b _ _ _ _ _ _ _ _ _ _ _ _ w h (fun w' _=>by have:=hs w';rw[if_neg hlt]at this;exact this)
 ·rw[if_neg (fun c=>by cases c.1)]
  by_cases hlt:n<m
  ·exact fJ b _ _ _ _ _ _ _ _ _ _ _ _ w h (fun w' _=>by have:=hs w';rw[if_pos hlt]at this;exact this)
  ·exact fL b _ _ _ _ _ _ _ _ _ _ _ _ w h (fun w' _=>by have:=hs w';rw[if_neg hlt]at this;exact this)
theorem S7(n m:Nat)(hn:n<R)(hm:m<R)(w:World):Calls prog 124 #[N n,N m] w fun e w'=>e= .returned (.bool (decide (n<m)))∧Gw w w':=by
 by_cases hlt:n<m
 ·rw[decide_eq_true hlt]
  exact mG _ _ _ _ _ _ _ _ _ _ _ _ w (fun w' _=>by have:=J9 n m hn hm w';rw[if_pos hlt]at this;exact this)
 ·rw[decide_eq_false hlt]
  exact mH _ _ _ _ _ _ _ _ _ _ _ _ w (fun w' _=>by have:=J9 n m hn hm w';rw[if_neg hlt]at this;exact this)
end Go.Proofs.YtafbhakmkbehiaaGreatDoor
namespace TollEc
open TollNt
structure Jp where
 x:F
 y:F
 z:F
deriving DecidableEq
def Jp.inf:Jp:=⟨0,0,0⟩
noncomputable def Jp.rep(j:Jp):Pt:=
 if j.z=0 then .inf else .aff (j.x*(EW j.z*EW j.z)) (j.y*(EW j.z*(EW j.z*EW j.z)))
theorem rep_inf{j:Jp}(h:j.z=0):j.rep= .inf:=if_pos h
theorem rep_of{j:Jp}{i:F}(h:j.z*i=1):j.rep= .aff (j.x*(i*i)) (j.y*(i*(i*i))):=by
 have h0:j.z≠0:=by intro h0;rw[h0,Fin.zero_mul]at h;exact absurd h (by decide+kernel)
 unfold Jp.rep;rw[if_neg h0,nt h]
def Df(p:Jp):Jp:=
 if p.z=0∨p.y=0 then .inf
 else
  let zz:=p.z*p.z
  let yy:=p.y*p.y
  let b:=p.x*yy
  let m:=(p.x-zz)*(p.x+zz)
  let a:=m+m+m
  let b2:=b+b
  let four:=b2+b2
  let x:=a*a-(four+four)
  let y2:=yy*yy+yy*yy
  let y4:=y2+y2
  ⟨x,a*(four-x)-(y4+y4),(p.y+p.y)*p.z⟩
def D5(p q:Jp):Jp:=
 if p.z=0 then q
 else if q.z=0 then p
 else
  let pp:=p.z*p.z
  let qq:=q.z*q.z
  let u:=p.x*qq
  let v:=q.x*pp
  let s:=p.y*(q.z*qq)
  let t:=q.y*(p.z*pp)
  let h:=v-u
  let r:=t-s
  if h=0 then(if r=0 then Df p else .inf)
  else
   let hh:=h*h
   let hhh:=h*hh
   let w:=u*hh
   let x:=r*r-hhh-(w+w)
   ⟨x,r*(w-x)-s*hhh,(p.z*q.z)*h⟩
theorem Sq{a b:F}(ha:a≠0)(hb:b≠0):a*b≠0:=fun h=>(FL h).elim ha hb
theorem kp:(1:F)≠0:=by decide+kernel
theorem Sm{a b:F}(h:a*b=1):b≠0:=by rintro rfl;rw[Fin.mul_zero]at h;exact kp h.symm
theorem Zs(p:Jp):(Df p).rep=add p.rep p.rep:=by
 obtain⟨x,y,z⟩:=p;by_cases hz:z=0
 ·subst hz
  simp only[Df,true_or,if_true];rw[rep_inf (rfl:(Jp.inf).z=0),rep_inf (rfl:(⟨x,y,0⟩:Jp).z=0)];rfl
 obtain⟨i,hi⟩:=inv_ex z hz;rw[rep_of (j:=⟨x,y,z⟩) hi];simp only;by_cases hy:y=0
 ·subst hy
  have e:(0:F)*(i*(i*i))+0*(i*(i*i))=0:=by grind-lia
  simp only[Df,or_true,if_true,add,e,and_self];rw[rep_inf (rfl:(Jp.inf).z=0)]
 ·have h2y:y+y≠0:=by
   intro h;have:2*y=0:=by grind-lia
   exact(FL this).elim VJ hy
  obtain⟨k,hk⟩:=inv_ex _ h2y;have hi0:=Sm hi
  have hY:y*(i*(i*i))+y*(i*(i*i))≠0:=by
   have e:y*(i*(i*i))+y*(i*(i*i))=(y+y)*(i*(i*i)):=by grind-lia
   rw[e];exact Sq h2y (Sq hi0 (Sq hi0 hi0))
  have hz':((y+y)*z)*(i*k)=1:=by grind-lia
  have hn: ¬(z=0∨y=0):=fun h=>h.elim hz hy
  simp only[Df,if_neg hn];rw[rep_of (i:=i*k) hz',Ue (s:=3*((x-z*z)*(x+z*z))*(i*k)) hY (by grind-lia)];congr 1
  ·grind-lia
  ·grind-lia
theorem jadd_rep(p q:Jp)(hp:p.rep.on)(hq:q.rep.on):(D5 p q).rep=add p.rep q.rep:=by
 by_cases hz:p.z=0
 ·simp only[D5,if_pos hz,rep_inf hz,GB]
 by_cases hw:q.z=0
 ·simp only[D5,if_neg hz,if_pos hw,rep_inf hw,Hb]
 have hd:=Zs p;obtain⟨i,hi⟩:=inv_ex _ hz;obtain⟨j,hj⟩:=inv_ex _ hw;have hi0:=Sm hi;have hj0:=Sm hj;simp only[D5,if_neg hz,if_neg hw];by_cases hh:q.x*(p.z*p.z)-p.x*(q.z*q.z)=0
 ·rw[if_pos hh]
  by_cases hr:q.y*(p.z*(p.z*p.z))-p.y*(q.z*(q.z*q.z))=0
  ·rw[if_pos hr,hd]
   congr 1
   rw[rep_of hi,rep_of hj];congr 1
   ·clear hr hd hp hq hi0 hj0;grind-lia
   ·clear hh hd hp hq hi0 hj0;grind-lia
  ·rw[if_neg hr,rep_inf (rfl:(Jp.inf).z=0)]
   rw[rep_of hi,rep_of hj]at*;have hX:p.x*(i*i)=q.x*(j*j):=by clear hr hd hp hq hi0 hj0;grind-lia
   simp only[Pt.on,onE]at hp hq;rw[←hX]at hq
   have h1:(q.y*(j*(j*j))-p.y*(i*(i*i)))*(p.y*(i*(i*i))+q.y*(j*(j*j)))=0:=by
    have:=hp.trans hq.symm;clear hh hr hd hp hq hi0 hj0 hi hj hX
    grind-lia
   have hs:p.y*(i*(i*i))+q.y*(j*(j*j))=0:=by
    rcases FL h1 with h|h
    ·exfalso;apply hr
     clear h1 hh hr hd hp hq hi0 hj0 hX
     grind-lia
    ·exact h
   simp only[add,hX,hs,and_self,if_true]
 ·rw[if_neg hh]
  obtain⟨k,hk⟩:=inv_ex _ hh
  have hz':(p.z*q.z*(q.x*(p.z*p.z)-p.x*(q.z*q.z)))*(i*j*k)=1:=by
   generalize q.x*(p.z*p.z)-p.x*(q.z*q.z)=h at hk;clear hd hp hq hi0 hj0
   grind-lia
  have hne:p.x*(i*i)≠q.x*(j*j):=by
   intro h;apply hh;clear hd hp hq hi0 hj0 hk hz' hh
   grind-lia
  rw[rep_of (i:=i*j*k) hz',rep_of hi,rep_of hj];clear hd hp hq hi0 hj0 hh hz hw;generalize p.x=x1 at*;generalize p.y=y1 at*;generalize p.z=z1 at*;generalize q.x=x2 at*;generalize q.y=y2 at*;generalize q.z=z2 at*;obtain⟨X1,rfl⟩: ∃X,x1=X*(z1*z1):=⟨x1*(i*i),by grind-lia⟩
  obtain⟨Y1,rfl⟩: ∃X,y1=X*(z1*(z1*z1)):=⟨y1*(i*(i*i)),by grind-lia⟩
  obtain⟨X2,rfl⟩: ∃X,x2=X*(z2*z2):=⟨x2*(j*j),by grind-lia⟩
  obtain⟨Y2,rfl⟩: ∃X,y2=X*(z2*(z2*z2)):=⟨y2*(j*(j*j)),by grind-lia⟩
  have c1: ∀X z i:F,z*i=1→X*(z*z)*(i*i)=X:=by intro X z i h;grind-lia
  have c2: ∀X z i:F,z*i=1→X*(z*(z*z))*(i*(i*i))=X:=by intro X z i h;grind-lia
  rw[c1 _ _ _ hi,c1 _ _ _ hj]at hne⊢;rw[c2 _ _ _ hi,c2 _ _ _ hj];have hd:X2*(z2*z2)*(z1*z1)-X1*(z1*z1)*(z2*z2)=(X2-X1)*(z1*z1*(z2*z2)):=by grind-lia
  rw[hd]at hk⊢
  have hs:(Y2*(z2*(z2*z2))*(z1*(z1*z1))-Y1*(z1*(z1*z1))*(z2*(z2*z2)))*(i*j*k)*(X2-X1)=Y2-Y1:=by
   clear hd hz' hne;grind-lia
  rw[Jr hne hs];have hD:(X2-X1)*(z1*z1*(z2*z2))*k=1:=hk;clear hd hz' hne hs hk;congr 1
  ·grind-lia
  ·grind-lia
end TollEc
