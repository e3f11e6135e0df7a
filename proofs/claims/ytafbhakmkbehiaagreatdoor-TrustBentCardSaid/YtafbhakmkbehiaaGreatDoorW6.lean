import Derived.Laws.BitsLemmas
import Derived.Shelf.Spec.BitsCarry
import Derived.Laws.Tables
import Derived.Test.YtafbhakmkbehiaaGreatDoorW2
import Derived.Test.YtafbhakmkbehiaaGreatDoorW3
import Derived.Test.YtafbhakmkbehiaaGreatDoorW4
open Go.Proofs.Tryz
set_option maxHeartbeats 4000000
set_option maxRecDepth 100000
namespace Go.Proofs.YtafbhakmkbehiaaGreatDoor
open Go.RowKit Go.Toll
variable{b n:Nat}{Q:Nat->Value->Prop}{P:Program}{w:World}
theorem Fj(n:Nat):IntKind.u64.wrap (n:Int)=((n %18446744073709551616:Nat):Int):=by rw[uB6];omega
theorem cN(x y:Nat):BOy .add 49 (.int .u64 (x:Nat)) (.int .u64 (y:Nat)) (.int .u64 ((x+y) %18446744073709551616:Nat)):=by
 intro p q w
 go_simp
 exact Fj (x+y)
theorem Qa(x y:Nat):BOy .mul 49 (.int .u64 (x:Nat)) (.int .u64 (y:Nat)) (.int .u64 ((x*y) %18446744073709551616:Nat)):=by
 intro p q w
 go_simp
 exact Fj (x*y)
theorem UY(x y:Nat):BOy .sub 49 (.int .u64 (x:Nat)) (.int .u64 (y:Nat)) (.int .u64 (((x:Int)-(y:Int)) %18446744073709551616).toNat):=by
 intro p q w
 go_simp
 rw[uB6];omega
theorem qy(x y:Nat):bits .or .u64 (x:Int) (y:Int)=((x %18446744073709551616|||y %18446744073709551616:Nat):Int):=by
 simp only[bits,BitVec.ofInt_natCast,BitVec.toNat_or,BitVec.toNat_ofNat];rw[show IntKind.u64.bits=64 from rfl,show(2:Nat)^64=18446744073709551616 by decide,Fj,yP];exact Nat.or_lt_two_pow (n:=64) (yJ _ (by decide)) (yJ _ (by decide))
theorem q9(x:Nat):bits .and .u64 (x:Int) 1=((x %2:Nat):Int):=by
 rw[show(1:Int)=((1:Nat):Int) from rfl];simp only[bits,BitVec.ofInt_natCast,BitVec.toNat_and,BitVec.toNat_ofNat];rw[show IntKind.u64.bits=64 from rfl,show(1:Nat) %2^64=1 by decide,Nat.and_one_is_mod,Fj];omega
theorem LR(x:Nat):BOy .and 49 (.int .u64 (x:Nat)) (.int .u64 1) (.int .u64 (x %2:Nat)):=by
 intro p q w
 go_simp
 exact q9 x
theorem QZ(x y:Nat):BOy .or 49 (.int .u64 (x:Nat)) (.int .u64 (y:Nat)) (.int .u64 (x %18446744073709551616|||y %18446744073709551616:Nat)):=by
 intro p q w
 go_simp
 exact qy x y
theorem rS(x:Nat):BOy .shr 49 (.int .u64 (x:Nat)) (.int .u64 1) (.int .u64 (x/2:Nat)):=by
 intro p q w
 go_simp
theorem rU(x:Nat):BOy .shl 49 (.int .u64 (x:Nat)) (.int .u64 63) (.int .u64 (x*9223372036854775808 %18446744073709551616:Nat)):=by
 intro p q w
 go_simp
 exact Fj (x*9223372036854775808)
theorem T0{d t c:Nat}{k z:IntKind}(H:P.underlying t=some (.array 4 c))(y:P.underlying c=some (.int z))(G:∀w,(Go.sizeOf c).run P w=.ok 1 w)(e g j l p q r u:Int)(w:World):
 (Op.equalIn (d+2) t (.agg #[.int k e,.int k g,.int k j,.int k l]) (.agg #[.int k p,.int k q,.int k r,.int k u])).run P w=.ok (e==p && g==q && j==r && l==u) w:=by
 have E:∀a b:Int,(Op.equalIn (d+1) c (.int k a) (.int k b)).run P w=.ok (a==b) w:=λa b=>run_equalIn_int w d c k z a b y
 have F:∀(xs:Array Value) (i:Nat) (v:Value),xs[i]? =some v->(part c xs i).run P w=.ok v w:=λxs i v h=>by
  simp[part,Bp y,Ba,h]
 rw[Op.equalIn];simp only[Sem.run_bind,yU H,Result.andThen_ok,G];simp[List.range',F,E];by_cases A:e=p<;>by_cases B:g=q<;>by_cases C:j=r<;>by_cases D:l=u<;>simp[A,B,C,D]
theorem Nr(x y:Nat):((x:Int)==(y:Int))=decide (x=y):=by
 by_cases h:x=y
 .simp[h]
 .simp[h];omega
theorem NX(t:TypeId)(r:t=147\/t=146)(c e g h i j k l:Nat)(p q:Operand)(w:World):
 (do eqGuard .eql t p q (.agg #[.int .u64 c,.int .u64 e,.int .u64 g,.int .u64 h]) (.agg #[.int .u64 i,.int .u64 j,.int .u64 k,.int .u64 l]);binOp .eql t (.agg #[.int .u64 c,.int .u64 e,.int .u64 g,.int .u64 h]) (.agg #[.int .u64 i,.int .u64 j,.int .u64 k,.int .u64 l]):Sem Value).run prog w=
  .ok (.bool (decide (c=i/\e=j/\g=k/\h=l))) w:=by
 rcases r with rfl|rfl
 .go_simp
  rw[T0 y8 zN zF];simp only[Result.andThen,Nr];simp[Bool.and_assoc]
 .go_simp
  rw[T0 underlying146 zN zF];simp only[Result.andThen,Nr];simp[Bool.and_assoc]
theorem Sl(c e g h i j k l:Nat)(p q:Operand)(w:World):
 (do eqGuard .neq 147 p q (.agg #[.int .u64 c,.int .u64 e,.int .u64 g,.int .u64 h]) (.agg #[.int .u64 i,.int .u64 j,.int .u64 k,.int .u64 l]);binOp .neq 147 (.agg #[.int .u64 c,.int .u64 e,.int .u64 g,.int .u64 h]) (.agg #[.int .u64 i,.int .u64 j,.int .u64 k,.int .u64 l]):Sem Value).run prog w=
  .ok (.bool (!decide (c=i/\e=j/\g=k/\h=l))) w:=by
 go_simp
 rw[T0 y8 zN zF];simp only[Result.andThen,Nr];simp[Bool.and_assoc]
open TollMont
def N(n:Nat):Value:=.agg #[.int .u64 (lim n 0:Nat),.int .u64 (lim n 1:Nat),.int .u64 (lim n 2:Nat),.int .u64 (lim n 3:Nat)]
def sb(x y b:Nat):Nat:=(x+W-y-b) %W
def bo(x y b:Nat):Nat:=if x<y+b then 1 else 0
theorem UT(x y b:Nat):bo x y b<=1:=by unfold bo;split<;>omega
theorem OU(x y b:Nat)(c:b<=1)(w:World):(callFunc 171 #[.int .u64 x,.int .u64 y,.int .u64 b]).run prog w=
 .ok (.value (.tuple #[.int .u64 (sb x y b:Nat),.int .u64 (bo x y b:Nat)])) w:=by
 rw[run_callFunc_extern func171 (by kernel_rfl) (by kernel_rfl) (by kernel_rfl) (e:=sub64Entry) (by kernel_rfl),run_sub64 x y b c];rfl
theorem J9(n m:Nat)(l:n<R)(k:m<R)(w:World):
 CGy 129 #[N n,N m] w (.tuple #[N (dif n m),.int .u64 (if n<m then 1 else 0:Nat)]):=by
 obtain⟨c,e,g,i,j⟩:=Vj n m l k (sb (lim n 0) (lim m 0) 0) (bo (lim n 0) (lim m 0) 0) (sb (lim n 1) (lim m 1) (bo (lim n 0) (lim m 0) 0)) (bo (lim n 1) (lim m 1) (bo (lim n 0) (lim m 0) 0))
  (sb (lim n 2) (lim m 2) (bo (lim n 1) (lim m 1) (bo (lim n 0) (lim m 0) 0))) (bo (lim n 2) (lim m 2) (bo (lim n 1) (lim m 1) (bo (lim n 0) (lim m 0) 0)))
  (sb (lim n 3) (lim m 3) (bo (lim n 2) (lim m 2) (bo (lim n 1) (lim m 1) (bo (lim n 0) (lim m 0) 0)))) (bo (lim n 3) (lim m 3) (bo (lim n 2) (lim m 2) (bo (lim n 1) (lim m 1) (bo (lim n 0) (lim m 0) 0)))) rfl rfl rfl rfl rfl rfl rfl rfl
 have h:=eZ (lim n 0) (lim n 1) (lim n 2) (lim n 3) (lim m 0) (lim m 1) (lim m 2) (lim m 3) _ _ _ _ _ _ _ _ w (λw=>OU _ _ 0 (by omega) w) (λw=>OU _ _ _ (UT _ _ _) w) (λw=>OU _ _ _ (UT _ _ _) w) (λw=>OU _ _ _ (UT _ _ _) w);rw[j,i,g,e,c]at h;exact h
def ac(x y c:Nat):Nat:=(x+y+c) %W
def co(x y c:Nat):Nat:=(x+y+c)/W
theorem IZ(x y c:Nat)(g:c<=1)(w:World):(callFunc 173 #[.int .u64 x,.int .u64 y,.int .u64 c]).run prog w=
 .ok (.value (.tuple #[.int .u64 (ac x y c:Nat),.int .u64 (co x y c:Nat)])) w:=by
 rw[run_callFunc_extern func173 (by kernel_rfl) (by kernel_rfl) (by kernel_rfl) (e:=add64Entry) (by kernel_rfl),run_add64 x y c (by omega) (by omega) (by omega) (by omega)];rfl
theorem UA{x y c:Nat}(g:x<W)(h:y<W)(e:c<=1):co x y c<=1:=by unfold co;simp only[W]at *; omega
theorem Qg(n m:Nat)(q:n<R)(p:m<R)(w:World):
 CGy 159 #[N n,N m] w (.tuple #[N (n+m),.int .u64 ((n+m)/R:Nat)]):=by
 obtain⟨g,i,j,k,l⟩:=cY n m q p (ac (lim n 0) (lim m 0) 0) (co (lim n 0) (lim m 0) 0) (ac (lim n 1) (lim m 1) (co (lim n 0) (lim m 0) 0)) (co (lim n 1) (lim m 1) (co (lim n 0) (lim m 0) 0))
  (ac (lim n 2) (lim m 2) (co (lim n 1) (lim m 1) (co (lim n 0) (lim m 0) 0))) (co (lim n 2) (lim m 2) (co (lim n 1) (lim m 1) (co (lim n 0) (lim m 0) 0)))
  (ac (lim n 3) (lim m 3) (co (lim n 2) (lim m 2) (co (lim n 1) (lim m 1) (co (lim n 0) (lim m 0) 0)))) (co (lim n 3) (lim m 3) (co (lim n 2) (lim m 2) (co (lim n 1) (lim m 1) (co (lim n 0) (lim m 0) 0)))) rfl rfl rfl rfl rfl rfl rfl rfl
 have c:=UA (AZ n 0) (AZ m 0) (y6 1);have e:=UA (AZ n 1) (AZ m 1) c;have r:=UA (AZ n 2) (AZ m 2) e;have h:=rv (lim n 0) (lim n 1) (lim n 2) (lim n 3) (lim m 0) (lim m 1) (lim m 2) (lim m 3) _ _ _ _ _ _ _ _ w (λw=>IZ _ _ 0 (by omega) w) (λw=>IZ _ _ _ c w) (λw=>IZ _ _ _ e w) (λw=>IZ _ _ _ r w);rw[l,k,j,i,g]at h;exact h
def Bq(n:Nat):List Value:=[.int .u64 (lim n 0:Nat),.int .u64 (lim n 1:Nat),.int .u64 (lim n 2:Nat),.int .u64 (lim n 3:Nat)]
def Ck(m:Nat):List Value:=Bq m++[.int .u64 (Gn (lim m 0):Nat)]++Bq (R %m)++Bq (R*R %m)
def At(w:World)(b m:Nat):Prop:= ∀(j:Nat) (v:Value),(Ck m)[j]? =some v->w.cell? ⟨b,0+j,none⟩=some v
theorem At.gw{c:World}{m:Nat}(h:At w b m)(g:Gw w c):At c b m:=λj v e=>g.cell (h j v e)
theorem cO{m k:Nat}(h:At w b m)(e:∀j v,(Bq n)[j]? =some v->(Ck m)[k+j]? =some v):∀(j:Nat) (v:Value),(Bq n)[j]? =some v->w.cell? ⟨b,k+j,none⟩=some v:=λj v c=>by
 have:=h (k+j) v (e j v c)
 rwa [zW]at this
theorem Yo{j:Nat}{v:Value}(c:Q 0 (.int .u64 (lim n 0:Nat)))(e:Q 1 (.int .u64 (lim n 1:Nat)))(g:Q 2 (.int .u64 (lim n 2:Nat)))(i:Q 3 (.int .u64 (lim n 3:Nat)))
 (h:(Bq n)[j]? =some v):Q j v:=by
 match j,h with
 |0,h=>simp only[Bq,List.getElem?_cons_zero,yT]at h;exact h▸c
 |1,h=>simp only[Bq,List.getElem?_cons_zero,List.getElem?_cons_succ,yT]at h;exact h▸e
 |2,h=>simp only[Bq,List.getElem?_cons_zero,List.getElem?_cons_succ,yT]at h;exact h▸g
 |3,h=>simp only[Bq,List.getElem?_cons_zero,List.getElem?_cons_succ,yT]at h;exact h▸i
 |j+4,h=>simp[Bq]at h
theorem At.m{w:World}{b m:Nat}(h:At w b m):∀(j:Nat) (v:Value),(Bq m)[j]? =some v->w.cell? ⟨b,0+j,none⟩=some v:=
 cO h λ_j _v c=>Yo (Q:=λj v=>(Ck m)[0+j]? =some v) rfl rfl rfl rfl c
theorem At.two{m:Nat}(h:At w b m):∀(j:Nat) (v:Value),(Bq (R*R %m))[j]? =some v->w.cell? ⟨b,9+j,none⟩=some v:=
 cO h λ_j _v c=>Yo (Q:=λj v=>(Ck m)[9+j]? =some v) rfl rfl rfl rfl c
theorem At.neg{m:Nat}(h:At w b m):w.cell? ⟨b,4,none⟩=some (.int .u64 (Gn (lim m 0):Nat)):=h 4 _ rfl
def ptr(b:Nat):Value:=.pointer (some ⟨b,0,none⟩)
theorem OY(b m n o:Nat)(k:m<R)(l:n<R)(p:o=0\/o=1)(w:World)(h:∀(j:Nat) (v:Value),(Bq m)[j]? =some v->w.cell? ⟨b,0+j,none⟩=some v):
 CGy 160 #[ptr b,N n,.int .u64 (o:Nat)] w (N (if o=0/\n<m then n else dif n m)):=by
 have i:=λg=>J9 n m l k g
 rcases p with rfl|rfl
 .by_cases e:n<m
  .rw[x9 ⟨rfl,e⟩]
   exact fN b _ _ _ _ _ _ _ _ _ _ _ _ w h (λg _=>by have:=i g;rw[x9 e]at this;exact this)
  .rw[x8 (λc=>e c.2)]
   exact fO b _ _ _ _ _ _ _ _ _ _ _ _ w h (λg _=>by have:=i g;rw[x8 e]at this;exact this)
 .rw[x8 (λc=>by cases c.1)]
  by_cases e:n<m
  .exact fJ b _ _ _ _ _ _ _ _ _ _ _ _ w h (λg _=>by have:=i g;rw[x9 e]at this;exact this)
  .exact fL b _ _ _ _ _ _ _ _ _ _ _ _ w h (λg _=>by have:=i g;rw[x8 e]at this;exact this)
theorem S7(n m:Nat)(h:n<R)(g:m<R)(w:World):CGy 124 #[N n,N m] w (.bool (decide (n<m))):=by
 by_cases c:n<m
 .rw[yE c]
  exact mG _ _ _ _ _ _ _ _ _ _ _ _ w (λe _=>by have:=J9 n m h g e;rw[x9 c]at this;exact this)
 .rw[yB c]
  exact mH _ _ _ _ _ _ _ _ _ _ _ _ w (λe _=>by have:=J9 n m h g e;rw[x8 c]at this;exact this)
end Go.Proofs.YtafbhakmkbehiaaGreatDoor
namespace TollEc
open TollNt
structure Jp where
 x:F
 y:F
 z:F
deriving DecidableEq
def Jp.inf:Jp:=⟨0,0,0⟩
noncomputable def Jp.rep(j:Jp):Pt:=
 if j.z=0 then .inf else .aff (j.x*(EW j.z*EW j.z)) (j.y*(EW j.z*(EW j.z*EW j.z)))
theorem rep_inf{j:Jp}(h:j.z=0):j.rep=.inf:=x9 h
theorem rep_of{j:Jp}{i:F}(h:j.z*i=1):j.rep=.aff (j.x*(i*i)) (j.y*(i*(i*i))):=by
 have c:j.z≠0:=by intro c;rw[c,Fin.zero_mul]at h;exact absurd h (by decide+kernel)
 unfold Jp.rep;rw[x8 c,nt h]
def Df(p:Jp):Jp:=
 if p.z=0\/p.y=0 then .inf
 else
  let j:=p.z*p.z
  let e:=p.y*p.y
  let b:=p.x*e
  let m:=(p.x-j)*(p.x+j)
  let a:=m+m+m
  let g:=b+b
  let c:=g+g
  let x:=a*a-(c+c)
  let h:=e*e+e*e
  let i:=h+h
  ⟨x,a*(c-x)-(i+i),(p.y+p.y)*p.z⟩
def D5(p q:Jp):Jp:=
 if p.z=0 then q
 else if q.z=0 then p
 else
  let pp:=p.z*p.z
  let g:=q.z*q.z
  let u:=p.x*g
  let v:=q.x*pp
  let s:=p.y*(q.z*g)
  let t:=q.y*(p.z*pp)
  let h:=v-u
  let r:=t-s
  if h=0 then(if r=0 then Df p else .inf)
  else
   let e:=h*h
   let c:=h*e
   let w:=u*e
   let x:=r*r-c-(w+w)
   ⟨x,r*(w-x)-s*c,(p.z*q.z)*h⟩
theorem Sq{a b:F}(c:a≠0)(e:b≠0):a*b≠0:=λh=>(FL h).elim c e
theorem kp:(1:F)≠0:=by decide+kernel
theorem Sm{a b:F}(h:a*b=1):b≠0:=by rintro rfl;rw[Fin.mul_zero]at h;exact kp h.symm
theorem Zs(p:Jp):(Df p).rep=add p.rep p.rep:=by
 obtain⟨x,y,z⟩:=p;by_cases q:z=0
 .subst q
  simp only[Df,true_or,zG];rw[rep_inf (rfl:(Jp.inf).z=0),rep_inf (rfl:(⟨x,y,0⟩:Jp).z=0)];rfl
 obtain⟨i,t⟩:=inv_ex z q;rw[rep_of (j:=⟨x,y,z⟩) t];simp only;by_cases l:y=0
 .subst l
  have e:(0:F)*(i*(i*i))+0*(i*(i*i))=0:=by grind-lia
  simp only[Df,or_true,zG,add,e,and_self];rw[rep_inf (rfl:(Jp.inf).z=0)]
 .have g:y+y≠0:=by
   intro h;have:2*y=0:=by grind-lia
   exact(FL this).elim VJ l
  obtain⟨k,B⟩:=inv_ex _ g;have c:=Sm t
  have u:y*(i*(i*i))+y*(i*(i*i))≠0:=by
   have e:y*(i*(i*i))+y*(i*(i*i))=(y+y)*(i*(i*i)):=by grind-lia
   rw[e];exact Sq g (Sq c (Sq c c))
  have r:((y+y)*z)*(i*k)=1:=by grind-lia
  have A: ¬(z=0\/y=0):=λh=>h.elim q l
  simp only[Df,x8 A];rw[rep_of (i:=i*k) r,Ue (s:=3*((x-z*z)*(x+z*z))*(i*k)) u (by grind-lia)];congr 1
  .grind-lia
  .grind-lia
theorem jadd_rep(p q:Jp)(r:p.rep.on)(l:q.rep.on):(D5 p q).rep=add p.rep q.rep:=by
 by_cases E:p.z=0
 .simp only[D5,x9 E,rep_inf E,GB]
 by_cases H:q.z=0
 .simp only[D5,x8 E,x9 H,rep_inf H,Hb]
 have g:=Zs p;obtain⟨i,B⟩:=inv_ex _ E;obtain⟨j,C⟩:=inv_ex _ H;have c:=Sm B;have e:=Sm C;simp only[D5,x8 E,x8 H];by_cases t:q.x*(p.z*p.z)-p.x*(q.z*q.z)=0
 .rw[x9 t]
  by_cases D:q.y*(p.z*(p.z*p.z))-p.y*(q.z*(q.z*q.z))=0
  .rw[x9 D,g]
   congr 1
   rw[rep_of B,rep_of C];congr 1
   .clear D g r l c e;grind-lia
   .clear t g r l c e;grind-lia
  .rw[x8 D,rep_inf (rfl:(Jp.inf).z=0)]
   rw[rep_of B,rep_of C]at*;have K:p.x*(i*i)=q.x*(j*j):=by clear D g r l c e;grind-lia
   simp only[Pt.on,onE]at r l;rw[<-K]at l
   have S:(q.y*(j*(j*j))-p.y*(i*(i*i)))*(p.y*(i*(i*i))+q.y*(j*(j*j)))=0:=by
    have:=r.trans l.symm;clear t D g r l c e B C K
    grind-lia
   have L:p.y*(i*(i*i))+q.y*(j*(j*j))=0:=by
    rcases FL S with h|h
    .exfalso;apply D
     clear S t D g r l c e K
     grind-lia
    .exact h
   simp only[add,K,L,and_self,zG]
 .rw[x8 t]
  obtain⟨k,G⟩:=inv_ex _ t
  have A:(p.z*q.z*(q.x*(p.z*p.z)-p.x*(q.z*q.z)))*(i*j*k)=1:=by
   generalize q.x*(p.z*p.z)-p.x*(q.z*q.z)=h at G;clear g r l c e
   grind-lia
  have u:p.x*(i*i)≠q.x*(j*j):=by
   intro h;apply t;clear g r l c e G A t
   grind-lia
  rw[rep_of (i:=i*j*k) A,rep_of B,rep_of C];clear g r l c e t E H;generalize p.x=x1 at*;generalize p.y=y1 at*;generalize p.z=z1 at*;generalize q.x=x2 at*;generalize q.y=y2 at*;generalize q.z=z2 at*;obtain⟨I,rfl⟩:∃X,x1=X*(z1*z1):=⟨x1*(i*i),by grind-lia⟩
  obtain⟨M,rfl⟩:∃X,y1=X*(z1*(z1*z1)):=⟨y1*(i*(i*i)),by grind-lia⟩
  obtain⟨J,rfl⟩:∃X,x2=X*(z2*z2):=⟨x2*(j*j),by grind-lia⟩
  obtain⟨N,rfl⟩:∃X,y2=X*(z2*(z2*z2)):=⟨y2*(j*(j*j)),by grind-lia⟩
  have O:∀X z i:F,z*i=1->X*(z*z)*(i*i)=X:=by intro X z i h;grind-lia
  have R:∀X z i:F,z*i=1->X*(z*(z*z))*(i*(i*i))=X:=by intro X z i h;grind-lia
  rw[O _ _ _ B,O _ _ _ C]at u⊢;rw[R _ _ _ B,R _ _ _ C];have g:J*(z2*z2)*(z1*z1)-I*(z1*z1)*(z2*z2)=(J-I)*(z1*z1*(z2*z2)):=by grind-lia
  rw[g]at G⊢
  have L:(N*(z2*(z2*z2))*(z1*(z1*z1))-M*(z1*(z1*z1))*(z2*(z2*z2)))*(i*j*k)*(J-I)=N-M:=by
   clear g A u;grind-lia
  rw[Jr u L];have T:(J-I)*(z1*z1*(z2*z2))*k=1:=G;clear g A u L G;congr 1
  .grind-lia
  .grind-lia
end TollEc
namespace Go.Proofs.YtafbhakmkbehiaaGreatDoor
open Go.RowKit Go.Toll
section
open TollMont
def fA(x y t:Nat):Nat:=ac (x*y %W) t 0
def fK(x y t:Nat):Nat:=co (x*y %W) t 0
def fH(x y t:Nat):Nat:=(x*y/W+fK x y t) %W
def fM(x y t c:Nat):Nat:=ac (fA x y t) c 0
def fK2(x y t c:Nat):Nat:=co (fA x y t) c 0
def fC(x y t c:Nat):Nat:=(fH x y t+fK2 x y t c) %W
theorem IC{x y t c:Nat}(j:x<W)(k:y<W)(i:t<W)(h:c<W):fM x y t c=HL x y t c/\fC x y t c=FM x y t c:=by
 obtain⟨e,g⟩:=lu j k i h;exact⟨e,g⟩
theorem lz{x y t:Nat}(e:x<W)(g:y<W)(c:t<W):fH x y t=FM x y t 0:=by
 rw[<-(IC e g c (by decide)).2];unfold fC fK2 fA ac co;rw[Nat.add_zero,Nat.add_zero,uC9 (yJ _ (by decide)),Nat.add_zero];exact(yP (yJ _ (by decide))).symm
theorem Yg(x y:Nat)(c:x<W)(g:y<W)(w:World):CGy 172 #[.int .u64 x,.int .u64 y] w (.tuple #[.int .u64 (x*y/W:Nat),.int .u64 (x*y %W:Nat)]):=
 (bits_Mul64 x y c g w).mono λe i h=>⟨h.1,by rw[h.2];exact Gw.refl w⟩
theorem Oj{m b n c:Nat}(hm:m %2=1)(h1:1<m)(p:m<R)(hn:n<R)(hc:c<R)(F:n<m\/c<m)(w:World)(h:At w b m):
 CGy 131 #[ptr b,N n,N c] w (N (F2 m n c)):=by
 have q:(Gn (lim m 0)*lim m 0+1) %W=0:=lS (by rw[IE];simp only[W];omega)
 refine ge b _ _ _ _ _ _ _ _ _ _ _ _ _ _ _ _ (Gn (lim m 0)) w h.m h.neg (λx y=>x*y/W) (λx y=>x*y %W) (λt c=>ac t c 0) (λt c=>co t c 0) (λx y=>(x+y) %W)
  fA fK fH fM fK2 fC (λt=>t*Gn (lim m 0) %W) (λx=>x<W) (λk t0 t1 t2 t3 t4=>RedAt m n c k t0 t1 t2 t3 t4) (λx y C hy w=>Yg x y C hy w)
  (λx y t w=>IZ _ _ 0 (by omega) w) (λx y t c w=>IZ _ _ 0 (by omega) w) (λx y t w=>IZ _ 0 0 (by omega) w) (λt c w=>IZ _ _ 0 (by omega) w)
  (λx y t=>Fj _) (λx y t c=>Fj _) (λa c d e=>Fj _) (λt=>Fj _) (λt=>yJ _ (by decide))
  (AZ _ _) (AZ _ _) (AZ _ _) (AZ _ _) (AZ _ _) (AZ _ _) (AZ _ _) (AZ _ _) (AZ _ _) (AZ _ _) (AZ _ _) (AZ _ _) (RedAt.start (by omega)) ?_ ?_
 .intro k x t0 t1 t2 t3 t4 hk C g
  have z:x=lim c k:=by
   have:k=0\/k=1\/k=2\/k=3:=by omega
   rcases this with rfl|rfl|rfl|rfl<;>(simp at C;exact C.symm)
  have i:x<W:=by rw[z];exact AZ _ _
  have j:∀u,u*Gn (lim m 0) %W<W:=λu=>yJ _ (by decide)
  obtain⟨O,X⟩:=IC i (AZ n 0) g.b0 (show 0<W by decide);have I:=EN i (AZ n 0) g.b0 (show 0<W by decide);rw[<-X]at I;obtain⟨S,Y⟩:=IC i (AZ n 1) g.b1 I;have J:=EN i (AZ n 1) g.b1 I;rw[<-Y]at J;obtain⟨U,Z⟩:=IC i (AZ n 2) g.b2 J;have l3:=EN i (AZ n 2) g.b2 J;rw[<-Z]at l3;obtain⟨V,b3⟩:=IC i (AZ n 3) g.b3 l3;have K:=F3 x (lim n 0) t0 0;rw[<-O]at K;have L:=F3 x (lim n 1) t1 (fC x (lim n 0) t0 0);rw[<-S]at L;have M:=F3 x (lim n 2) t2 (fC x (lim n 1) t1 (fC x (lim n 0) t0 0));rw[<-U]at M;have u3:=F3 x (lim n 3) t3 (fC x (lim n 2) t2 (fC x (lim n 1) t1 (fC x (lim n 0) t0 0)));rw[<-V]at u3;have g0:=lz (j (fM x (lim n 0) t0 0)) (AZ m 0) K;have G:=EN (j (fM x (lim n 0) t0 0)) (AZ m 0) K (show 0<W by decide);rw[<-g0]at G;obtain⟨g1,i1⟩:=IC (j (fM x (lim n 0) t0 0)) (AZ m 1) L G;have H:=EN (j (fM x (lim n 0) t0 0)) (AZ m 1) L G;rw[<-i1]at H;obtain⟨g2,i2⟩:=IC (j (fM x (lim n 0) t0 0)) (AZ m 2) M H;have k3:=EN (j (fM x (lim n 0) t0 0)) (AZ m 2) M H;rw[<-i2]at k3;obtain⟨g3,i3⟩:=IC (j (fM x (lim n 0) t0 0)) (AZ m 3) u3 k3;exact RedAt.step hn p q g z O X S Y U Z V b3 rfl rfl rfl g0 g1 i1 g2 i2 g3 i3 rfl rfl rfl
 .intro t0 t1 t2 t3 t4 g w' hw
  obtain⟨Q,hQ,hE⟩:=g.eq
  have D:v5 t0 t1 t2 t3 t4*R=n*c+m*Q:=by
   have h4:W^4=R:=by decide
   rw[h4,yP hc]at hE;exact hE
  obtain⟨E,LA⟩:=gf hm h1 hn hc F hQ D;have a8:=de (show v5 t0 t1 t2 t3 t4<2*R by omega);obtain⟨q0,q1,q2,q3,_⟩:=KX t0 t1 t2 t3 0 g.b0 g.b1 g.b2 g.b3;have a4:=g.b0;have a5:=g.b1;have a6:=g.b2;have a7:=g.b3;have hT:v5 t0 t1 t2 t3 t4=t0+W*(t1+W*(t2+W*(t3+W*0)))+R*t4:=by unfold v5;simp only[W,R];omega
  have l:t0+W*(t1+W*(t2+W*(t3+W*0)))<R:=by simp only[W,R]at *; omega
  generalize t0+W*(t1+W*(t2+W*(t3+W*0)))=T at*;have B:=OY b m T t4 p l (by omega) w' (h.gw hw).m
  have r:(if t4=0/\T<m then T else dif T m)=F2 m n c:=by
   rw[<-LA,hT];rw[hT]at E;have:t4=0\/t4=1:=by omega
   rcases this with rfl|rfl
   .simp only[Nat.mul_zero,Nat.add_zero]at*
    by_cases A:T<m
    .rw[x9 ⟨trivial,A⟩,yP A]
    .rw[x8 (λc=>A c.2)]
     unfold dif;rw[x8 A,Nat.mod_eq_sub_mod (by omega),yP (by omega)]
   .rw[x8 (λc=>by cases c.1)]
    unfold dif;rw[x9 (by omega),yQ,Nat.mod_eq_sub_mod (by omega),yP (by omega)]
  rw[r]at B;unfold N at B;rw[q0,q1,q2,q3]at B;exact B
structure Md(m:Nat):Prop where
 odd:m %2=1
 gt:1<m
 lt:m<R
theorem Mc{m:Nat}(h:Md m)(x:Nat):x %m<R:=Nat.lt_trans (yJ _ (by have:=h.gt;omega)) h.lt
theorem Qo:N 1=.agg #[.int .u64 1,.int .u64 0,.int .u64 0,.int .u64 0]:=by
 unfold N;rw[show lim 1 0=1 by decide,show lim 1 1=0 by decide,show lim 1 2=0 by decide,show lim 1 3=0 by decide];rfl
theorem dA:N 0=.agg #[.int .u64 0,.int .u64 0,.int .u64 0,.int .u64 0]:=by
 unfold N;rw[show lim 0 0=0 by decide,show lim 0 1=0 by decide,show lim 0 2=0 by decide,show lim 0 3=0 by decide];rfl
variable{m b:Nat}
theorem Hu(h:Md m){n:Nat}(l:n<R)(w:World)(e:At w b m):CGy 88 #[ptr b,N n] w (N (n %m)):=by
 have i:0<m:=by have:=h.gt;omega
 have j:F2 m n (R*R %m)=n*R %m:=Yh h.odd h.gt n;have k:F2 m (n*R %m) 1=n %m:=lh h.odd h.gt n
 have A:∀c,Gw w c->CGy 131 #[ptr b,N n,N (R*R %m)] c (N (n*R %m)):=λc g=>by
  have:=Oj h.odd h.gt h.lt l (Mc h (R*R)) (.inr (yJ _ i)) c (e.gw g);rw[j]at this;exact this
 have B:∀c,Gw w c->CGy 131 #[ptr b,N (n*R %m),.agg #[.int .u64 1,.int .u64 0,.int .u64 0,.int .u64 0]] c (N (n %m)):=λc g=>by
  have:=Oj h.odd h.gt h.lt (Mc h (n*R)) (by decide:1<R) (.inl (yJ _ i)) c (e.gw g);rw[k,Qo]at this;exact this
 exact gU b _ _ _ _ _ _ _ _ _ _ _ _ _ _ _ _ w e.two A B
theorem Yd(h:Md m){x y:Nat}(l:x<R)(p:y<R)(w:World)(g:At w b m):CGy 83 #[ptr b,N x,N y] w (N (x*y %m)):=by
 have i:0<m:=by have:=h.gt;omega
 have j:F2 m x (R*R %m)=x*R %m:=Yh h.odd h.gt x;have k:F2 m (x*R %m) (y %m)=x*y %m:=li h.odd h.gt x y
 have A:∀c,Gw w c->CGy 131 #[ptr b,N x,N (R*R %m)] c (N (x*R %m)):=λc e=>by
  have:=Oj h.odd h.gt h.lt l (Mc h (R*R)) (.inr (yJ _ i)) c (g.gw e);rw[j]at this;exact this
 have B:∀c,Gw w c->CGy 131 #[ptr b,N (x*R %m),N (y %m)] c (N (x*y %m)):=λc e=>by
  have:=Oj h.odd h.gt h.lt (Mc h (x*R)) (Mc h y) (.inl (yJ _ i)) c (g.gw e);rw[k]at this;exact this
 exact lX b _ _ _ _ _ _ _ _ _ _ _ _ _ _ _ _ _ _ _ _ _ _ _ _ w g.two A (λc e=>Hu h p c (g.gw e)) B
theorem JJ(n:Nat):N (n %R)=N n:=by
 have r:=Yr n;obtain⟨c,g,h,i,_⟩:=KX (lim n 0) (lim n 1) (lim n 2) (lim n 3) 0 (AZ _ _) (AZ _ _) (AZ _ _) (AZ _ _)
 have e:n %R=lim n 0+W*(lim n 1+W*(lim n 2+W*(lim n 3+W*0))):=by
  have j:=AZ n 0;have k:=AZ n 1;have l:=AZ n 2;have p:=AZ n 3;have q:=zL n R;generalize n/R=d at*;generalize lim n 0=a0 at *; generalize lim n 1=a1 at *; generalize lim n 2=a2 at *; generalize lim n 3=a3 at*;simp only[W,R]at*;omega
 unfold N;rw[e,c,g,h,i]
theorem Rn{m T o:Nat}(i:m<R)(_hT:T<R)(h:o=0\/o=1)(g:T+R*o<2*m):(if o=0/\T<m then T else dif T m)=(T+R*o) %m:=by
 rcases h with rfl|rfl
 .simp only[Nat.mul_zero,Nat.add_zero]at*
  by_cases e:T<m
  .rw[x9 ⟨trivial,e⟩,yP e]
  .rw[x8 (λc=>e c.2)]
   unfold dif;rw[x8 e,Nat.mod_eq_sub_mod (by omega),yP (by omega)]
 .rw[x8 (λc=>by cases c.1)]
  unfold dif;rw[x9 (by omega),yQ,Nat.mod_eq_sub_mod (by omega),yP (by omega)]
theorem Yn(h:Md m){x y:Nat}(r:x<R)(t:y<R)(w:World)(i:At w b m):CGy 106 #[ptr b,N x,N y] w (N ((x+y) %m)):=by
 have l:0<m:=by have:=h.gt;omega
 have u:x %m<m:=yJ _ l;have z:y %m<m:=yJ _ l;have p:=h.lt;have e:(x+y) %m=((x %m+y %m) %R+R*((x %m+y %m)/R)) %m:=by rw[zL,<-GS]
 have A:∀c,Gw w c->CGy 88 #[ptr b,N x] c (N (x %m)):=λc g=>Hu h r c (i.gw g)
 have B:∀c,Gw w c->CGy 88 #[ptr b,N y] c (N (y %m)):=λc g=>Hu h t c (i.gw g)
 have C:∀c,Gw w c->CGy 159 #[N (x %m),N (y %m)] c (.tuple #[N (x %m+y %m),.int .u64 ((x %m+y %m)/R:Nat)]):=λc _=>Qg _ _ (by omega) (by omega) c
 have k:(x %m+y %m)/R=0\/(x %m+y %m)/R=1:=by simp only[R]at *; omega
 have q:=yJ (x %m+y %m) (show 0<R by decide);have j:(x %m+y %m) %R+R*((x %m+y %m)/R)<2*m:=by rw[zL];omega
 have D:∀c,Gw w c->CGy 160 #[ptr b,N (x %m+y %m),.int .u64 ((x %m+y %m)/R:Nat)] c (N ((x+y) %m)):=λc g=>by
  have:=OY b m ((x %m+y %m) %R) ((x %m+y %m)/R) p q k c (i.gw g).m;rw[Rn p q k j,<-e,JJ]at this;exact this
 rcases k with o|o
 .rw[o]at C D
  exact lq b _ _ _ _ _ _ _ _ _ _ _ _ _ _ _ _ _ _ _ _ _ _ _ _ w A B C D
 .rw[o]at C D
  exact lp b _ _ _ _ _ _ _ _ _ _ _ _ _ _ _ _ _ _ _ _ _ _ _ _ w A B C D
theorem Ss(h:Md m){x y:Nat}(r:x<R)(t:y<R)(w:World)(i:At w b m):CGy 130 #[ptr b,N x,N y] w (N (Ce m x y)):=by
 have k:0<m:=by have:=h.gt;omega
 have u:x %m<m:=yJ _ k;have z:y %m<m:=yJ _ k;have l:=h.lt;have A:∀c,Gw w c->CGy 88 #[ptr b,N x] c (N (x %m)):=λc j=>Hu h r c (i.gw j)
 have B:∀c,Gw w c->CGy 88 #[ptr b,N y] c (N (y %m)):=λc j=>Hu h t c (i.gw j)
 have C:∀c,Gw w c->CGy 129 #[N (x %m),N (y %m)] c (.tuple #[N (dif (x %m) (y %m)),.int .u64 (if x %m<y %m then 1 else 0:Nat)]):=λc _=>J9 _ _ (by omega) (by omega) c
 have D:∀c,Gw w c->CGy 159 #[N (dif (x %m) (y %m)),N m] c (.tuple #[N (dif (x %m) (y %m)+m),.int .u64 ((dif (x %m) (y %m)+m)/R:Nat)]):=λc _=>Qg _ _ (pE (by omega) (by omega)) l c
 by_cases g:x %m<y %m
 .have e:N (dif (x %m) (y %m)+m)=N (Ce m x y):=by
   rw[<-JJ,<-JJ (Ce m x y)];congr 1
   unfold dif Ce;rw[x9 g,yP (a:=x %m+m-y %m) (by omega)];generalize x %m=p at *; generalize y %m=q at*;simp only[R]at *; omega
  rw[e]at D;simp only[x9 g]at C;exact lf b _ _ _ _ _ _ _ _ _ _ _ _ _ _ _ _ _ _ _ _ _ _ _ _ _ _ _ _ _ w i.m A B C D
 .have e:dif (x %m) (y %m)=Ce m x y:=by
   unfold dif Ce;rw[x8 g,show x %m+m-y %m=x %m-y %m+m by omega,Nat.add_mod_right];exact(yP (by omega)).symm
  simp only[x8 g]at C;rw[e]at C D;exact lg b _ _ _ _ _ _ _ _ _ _ _ _ _ _ _ _ _ _ _ _ _ _ _ _ _ _ _ _ _ w i.m A B C D
def BS(x y:Nat):Nat:=x %18446744073709551616|||y %18446744073709551616
def Hg(x:Nat):Nat:=x*9223372036854775808 %18446744073709551616
theorem PG{a d:Nat}(g:a<W)(h:d=0\/d=1):BS (a/2) (Hg d)=a/2+9223372036854775808*d:=by
 have e:a/2<9223372036854775808:=by simp only[W]at g;omega
 have c:a/2 %18446744073709551616=a/2:=yP (by omega);rcases h with rfl|rfl
 .simp[BS,Hg,c]
 .have:=Nat.two_pow_add_eq_or_of_lt (i:=63) (b:=a/2) (by simpa using e) 1
  simp only[BS,Hg,c];rw[show 1*9223372036854775808 %18446744073709551616 %18446744073709551616=2^63*1 by decide,Nat.or_comm,<-this];omega
theorem nc{n c:Nat}(i:n<R)(h:c=0\/c=1):
 BS (lim n 0/2) (Hg (lim n 1 %2))=lim ((n+R*c)/2) 0/\BS (lim n 1/2) (Hg (lim n 2 %2))=lim ((n+R*c)/2) 1/\
  BS (lim n 2/2) (Hg (lim n 3 %2))=lim ((n+R*c)/2) 2/\BS (lim n 3/2) (Hg c)=lim ((n+R*c)/2) 3:=by
 have j:=AZ n 0;have k:=AZ n 1;have l:=AZ n 2;have p:=AZ n 3;have g:∀x:Nat,x %2=0\/x %2=1:=λx=>by omega
 rw[PG j (g _),PG k (g _),PG l (g _),PG p h];have q:=Ek i
 have e:(n+R*c)/2=(lim n 0/2+9223372036854775808*(lim n 1 %2))+W*((lim n 1/2+9223372036854775808*(lim n 2 %2))+W*((lim n 2/2+9223372036854775808*(lim n 3 %2))+W*((lim n 3/2+9223372036854775808*c)+W*0))):=by
  generalize lim n 0=a0 at *; generalize lim n 1=a1 at *; generalize lim n 2=a2 at *; generalize lim n 3=a3 at*;subst q;clear i;simp only[W,R]at*;rcases h with rfl|rfl<;>omega
 obtain⟨r,t,u,y,_⟩:=KX (lim n 0/2+9223372036854775808*(lim n 1 %2)) (lim n 1/2+9223372036854775808*(lim n 2 %2)) (lim n 2/2+9223372036854775808*(lim n 3 %2)) (lim n 3/2+9223372036854775808*c) 0
  (by simp only[W]at *; omega) (by simp only[W]at *; omega) (by simp only[W]at *; omega) (by simp only[W]at *; omega)
 rw[e];exact⟨r.symm,t.symm,u.symm,y.symm⟩
theorem Tm{n c:Nat}(l:n<R)(k:c=0\/c=1)(w:World):CGy 127 #[N n,.int .u64 (c:Nat)] w (N ((n+R*c)/2)):=by
 obtain⟨e,g,i,j⟩:=nc l k;have h:=nd (λx=>x %2) (λx=>x/2) Hg BS (lim n 0) (lim n 1) (lim n 2) (lim n 3) c w (λx p q w=>LR x p q w) (λx p q w=>rS x p q w) (λx p q w=>rU x p q w) (λx y p q w=>QZ x y p q w);rw[e,g,i,j]at h;exact h
theorem Mf(x:Nat):lim x 0 %2=x %2:=by rw[IE];simp only[W];omega
theorem nW{m b x:Nat}(j:m<R)(h:x<R)(w:World)(i:At w b m):CGy 128 #[ptr b,N x] w (N (TollMont.halve m x)):=by
 unfold TollMont.halve;by_cases e:x %2=0
 .rw[x9 e]
  have A:∀c,Gw w c->CGy 127 #[N x,.int .u64 0] c (N (x/2)):=λc _=>by
   have:=Tm h (.inl rfl:(0:Nat)=0\/(0:Nat)=1) c;rw[Nat.mul_zero,Nat.add_zero]at this;exact this
  exact nZ b _ _ _ _ _ _ _ _ w (λ_ p q w=>by have:=LR (lim x 0) p q w;rw[Mf,e]at this;exact this) A
 .rw[x8 e]
  have g:x %2=1:=by omega
  have k:(x+m)/R=0\/(x+m)/R=1:=by simp only[R]at *; omega
  have A:∀c,Gw w c->CGy 159 #[N x,N m] c (.tuple #[N (x+m),.int .u64 ((x+m)/R:Nat)]):=λc _=>Qg _ _ h j c
  have B:∀c,Gw w c->CGy 127 #[N (x+m),.int .u64 ((x+m)/R:Nat)] c (N ((x+m)/2)):=λc _=>by
   have:=Tm (yJ (x+m) (show 0<R by decide)) k c;rw[zL,JJ]at this;exact this
  exact nY b _ _ _ _ _ _ _ _ _ _ _ _ _ _ _ _ _ w i.m (λ_ p q w=>by have:=LR (lim x 0) p q w;rw[Mf,g]at this;exact this) A B
end
theorem cK(x:Nat)(c:x<9223372036854775808):BOy .quo 3 (.int .i64 (x:Nat)) (.int .i64 64) (.int .i64 (x/64:Nat)):=by
 intro p q w
 go_simp
 exact Ah (by omega) (by omega)
theorem cJ(x:Nat):BOy .rem 3 (.int .i64 (x:Nat)) (.int .i64 64) (.int .i64 (x %64:Nat)):=by
 intro p q w
 go_simp
 exact uD5 (by omega)
theorem UZ(x r:Nat)(c:r<64):BOy .shr 49 (.int .u64 (x:Nat)) (.int .i64 (r:Nat)) (.int .u64 (x/2^r:Nat)):=by
 intro p q w
 go_simp
theorem cI(x:Nat):BOy .rem 49 (.int .u64 (x:Nat)) (.int .u64 2) (.int .u64 (x %2:Nat)):=by
 intro p q w
 go_simp
 exact uD5 (by omega)
theorem rX(x:Nat)(h:x<9223372036854775808)(w:World):(convert 49 3 (.int .u64 (x:Nat))).run prog w=.ok (.int .i64 (x:Nat)) w:=by
 go_simp
 exact Ah (by omega) (by omega)
theorem cH(x:Nat):BOy .shl 49 (.int .u64 (x:Nat)) (.int .u64 8) (.int .u64 (x*256 %18446744073709551616:Nat)):=by
 intro p q w
 go_simp
 exact Fj (x*256)
theorem rT(x:Nat)(s:Int)(c:0<=s)(e:s<64):BOy .shl 49 (.int .u64 (x:Nat)) (.int .i64 s) (.int .u64 (x*2^s.toNat %18446744073709551616:Nat)):=by
 intro p q w
 obtain⟨n,rfl⟩:=Int.eq_ofNat_of_zero_le c
 go_simp
 rw[uB6]
theorem rR(x:Nat)(s:Int)(c:0<=s)(e:s<64):BOy .shr 49 (.int .u64 (x:Nat)) (.int .i64 s) (.int .u64 (x/2^s.toNat:Nat)):=by
 intro p q w
 obtain⟨n,rfl⟩:=Int.eq_ofNat_of_zero_le c
 go_simp
theorem cM(x:Nat)(w:World):(convert 5 49 (.int .u8 (x:Nat))).run prog w=.ok (.int .u64 (x %18446744073709551616:Nat)) w:=by
 go_simp
 exact Fj x
theorem rY(x:Nat)(w:World):(convert 49 5 (.int .u64 (x:Nat))).run prog w=.ok (.int .u8 (x %256:Nat)) w:=by
 go_simp
 rw[IntKind.wrap_u8]
theorem IY(x y:Nat):BOy .lss 49 (.int .u64 (x:Nat)) (.int .u64 (y:Nat)) (.bool (decide (x<y))):=by
 intro p q w
 go_simp
theorem cL(x y:Nat):BOy .neq 49 (.int .u64 (x:Nat)) (.int .u64 (y:Nat)) (.bool (!decide (x=y))):=by
 intro p q w
 go_simp
 rw[bne,Nr]
theorem rW(x:Nat):BOy .eql 49 (.int .u64 (x:Nat)) (.int .u64 1) (.bool (decide (x=1))):=by
 intro p q w
 go_simp
 exact Nr x 1
theorem rV(x:Nat)(w:World):(Op.unary .neg (.int .u64 (x:Nat))).run prog w=.ok (.int .u64 ((18446744073709551616-x %18446744073709551616) %18446744073709551616:Nat)) w:=by
 go_simp
 rw[uB6];omega
theorem qL(e:Nat->Nat)(c:Nat->Int->Nat)(g h i j:Nat)(w:World)
 (l:∀(x:Nat) (w:World),(convert 49 5 (.int .u64 (x:Nat))).run prog w=.ok (.int .u8 (e x:Nat)) w)
 (k:∀(x:Nat) (s:Int) (_:0<=s) (_:s<64) (p q:Operand) (w:World),(do eqGuard .shr 49 p q (.int .u64 (x:Nat)) (.int .i64 s);binOp .shr 49 (.int .u64 (x:Nat)) (.int .i64 s):Sem Value).run prog w=.ok (.int .u64 (c x s:Nat)) w):
 CGy 86 #[A4y g h i j] w (.agg #[.int .u8 (e (c j 56):Nat),.int .u8 (e (c j 48):Nat),.int .u8 (e (c j 40):Nat),.int .u8 (e (c j 32):Nat),.int .u8 (e (c j 24):Nat),.int .u8 (e (c j 16):Nat),.int .u8 (e (c j 8):Nat),.int .u8 (e (c j 0):Nat),.int .u8 (e (c i 56):Nat),.int .u8 (e (c i 48):Nat),.int .u8 (e (c i 40):Nat),.int .u8 (e (c i 32):Nat),.int .u8 (e (c i 24):Nat),.int .u8 (e (c i 16):Nat),.int .u8 (e (c i 8):Nat),.int .u8 (e (c i 0):Nat),.int .u8 (e (c h 56):Nat),.int .u8 (e (c h 48):Nat),.int .u8 (e (c h 40):Nat),.int .u8 (e (c h 32):Nat),.int .u8 (e (c h 24):Nat),.int .u8 (e (c h 16):Nat),.int .u8 (e (c h 8):Nat),.int .u8 (e (c h 0):Nat),.int .u8 (e (c g 56):Nat),.int .u8 (e (c g 48):Nat),.int .u8 (e (c g 40):Nat),.int .u8 (e (c g 32):Nat),.int .u8 (e (c g 24):Nat),.int .u8 (e (c g 16):Nat),.int .u8 (e (c g 8):Nat),.int .u8 (e (c g 0):Nat)]):=by
 go_enter func86,ntmps86
 refine C0 ?_
 refine n9 (by exact BZ rfl rfl gg zeroValue64) ?_;iterate 3 refine iN ?_
 refine n9 (by exact BZ rfl rfl gg zeroValue64) ?_;iterate 7 refine iN ?_
 refine Br 33 ?_
 iterate 32
  refine BP ?_
  refine t_1 ?_;iterate 14 refine iN ?_
  iterate 2 refine t_1 ?_
  refine t_8 ?_;refine t_4 ?_;refine iN ?_;iterate 3 refine t_1 ?_
  refine n9 (by exact AK rfl gg rfl rfl (λw=>k _ _ (by decide) (by decide) _ _ w)) ?_;refine n9 (by exact B1 rfl gg rfl (λw=>l _ w)) ?_;refine VZ ?_;refine n9 (by exact BA rfl gg rfl rfl rfl yG rfl (by simp) rfl) ?_;iterate 2 refine iN ?_
  refine Dx ?_
 refine BP ?_
 refine FB ?_
 refine As ?_;refine BP ?_
 refine VY ?_;refine n9 (by exact BA rfl gg rfl rfl rfl yR rfl (by simp) rfl) ?_;refine Dn ?_;refine AD (AH results86 (Ac rfl rfl yY rfl yR rfl rfl)) ?_;intro t r;exact⟨rfl,r⟩
theorem rE(c e g h:Nat)(s t:Nat)(i r:Int)(w:World)(h0:decide (i<0)=false)(h1:decide ((256:Int)<=i)=false)
 (hq:∀(p q:Operand) (w:World),(do eqGuard .quo 3 p q (.int .i64 i) (.int .i64 64);binOp .quo 3 (.int .i64 i) (.int .i64 64):Sem Value).run prog w=.ok (.int .i64 0) w)
 (hr:∀(p q:Operand) (w:World),(do eqGuard .rem 3 p q (.int .i64 i) (.int .i64 64);binOp .rem 3 (.int .i64 i) (.int .i64 64):Sem Value).run prog w=.ok (.int .i64 r) w)
 (hs:∀(p q:Operand) (w:World),(do eqGuard .shr 49 p q (.int .u64 (c:Nat)) (.int .i64 r);binOp .shr 49 (.int .u64 (c:Nat)) (.int .i64 r):Sem Value).run prog w=.ok (.int .u64 (s:Nat)) w)
 (ha:∀(p q:Operand) (w:World),(do eqGuard .and 49 p q (.int .u64 (s:Nat)) (.int .u64 1);binOp .and 49 (.int .u64 (s:Nat)) (.int .u64 1):Sem Value).run prog w=.ok (.int .u64 (t:Nat)) w)
 (j:∀(w:World),(convert 49 3 (.int .u64 (t:Nat))).run prog w=.ok (.int .i64 (t:Nat)) w):
 CGy 136 #[A4y c e g h,.int .i64 i] w (.int .i64 (t:Nat)):=by
 go_enter func136,ntmps136
 refine JN ?_
 refine OI ?_;refine Dy ?_;refine OQ ?_;refine Bv ?_
 refine OD ?_;refine t_8 ?_;refine t_4 ?_;refine iN ?_;refine OC ?_;refine OB ?_;refine OA ?_;refine n9 (by exact B1 rfl gg rfl (λw=>j w)) ?_;iterate 2 refine iN ?_
 refine AG ?_;refine AD (AH results136 (AF rfl)) ?_;intro l k;exact⟨rfl,k⟩
theorem rD(e c g h:Nat)(s t:Nat)(i r:Int)(w:World)(h0:decide (i<0)=false)(h1:decide ((256:Int)<=i)=false)
 (hq:∀(p q:Operand) (w:World),(do eqGuard .quo 3 p q (.int .i64 i) (.int .i64 64);binOp .quo 3 (.int .i64 i) (.int .i64 64):Sem Value).run prog w=.ok (.int .i64 1) w)
 (hr:∀(p q:Operand) (w:World),(do eqGuard .rem 3 p q (.int .i64 i) (.int .i64 64);binOp .rem 3 (.int .i64 i) (.int .i64 64):Sem Value).run prog w=.ok (.int .i64 r) w)
 (hs:∀(p q:Operand) (w:World),(do eqGuard .shr 49 p q (.int .u64 (c:Nat)) (.int .i64 r);binOp .shr 49 (.int .u64 (c:Nat)) (.int .i64 r):Sem Value).run prog w=.ok (.int .u64 (s:Nat)) w)
 (ha:∀(p q:Operand) (w:World),(do eqGuard .and 49 p q (.int .u64 (s:Nat)) (.int .u64 1);binOp .and 49 (.int .u64 (s:Nat)) (.int .u64 1):Sem Value).run prog w=.ok (.int .u64 (t:Nat)) w)
 (j:∀(w:World),(convert 49 3 (.int .u64 (t:Nat))).run prog w=.ok (.int .i64 (t:Nat)) w):
 CGy 136 #[A4y e c g h,.int .i64 i] w (.int .i64 (t:Nat)):=by
 go_enter func136,ntmps136
 refine JN ?_
 refine OI ?_;refine Dy ?_;refine OQ ?_;refine Bv ?_
 refine OD ?_;refine t_8 ?_;refine t_4 ?_;refine iN ?_;refine OC ?_;refine OB ?_;refine OA ?_;refine n9 (by exact B1 rfl gg rfl (λw=>j w)) ?_;iterate 2 refine iN ?_
 refine AG ?_;refine AD (AH results136 (AF rfl)) ?_;intro l k;exact⟨rfl,k⟩
theorem rC(e g c h:Nat)(s t:Nat)(i r:Int)(w:World)(h0:decide (i<0)=false)(h1:decide ((256:Int)<=i)=false)
 (hq:∀(p q:Operand) (w:World),(do eqGuard .quo 3 p q (.int .i64 i) (.int .i64 64);binOp .quo 3 (.int .i64 i) (.int .i64 64):Sem Value).run prog w=.ok (.int .i64 2) w)
 (hr:∀(p q:Operand) (w:World),(do eqGuard .rem 3 p q (.int .i64 i) (.int .i64 64);binOp .rem 3 (.int .i64 i) (.int .i64 64):Sem Value).run prog w=.ok (.int .i64 r) w)
 (hs:∀(p q:Operand) (w:World),(do eqGuard .shr 49 p q (.int .u64 (c:Nat)) (.int .i64 r);binOp .shr 49 (.int .u64 (c:Nat)) (.int .i64 r):Sem Value).run prog w=.ok (.int .u64 (s:Nat)) w)
 (ha:∀(p q:Operand) (w:World),(do eqGuard .and 49 p q (.int .u64 (s:Nat)) (.int .u64 1);binOp .and 49 (.int .u64 (s:Nat)) (.int .u64 1):Sem Value).run prog w=.ok (.int .u64 (t:Nat)) w)
 (j:∀(w:World),(convert 49 3 (.int .u64 (t:Nat))).run prog w=.ok (.int .i64 (t:Nat)) w):
 CGy 136 #[A4y e g c h,.int .i64 i] w (.int .i64 (t:Nat)):=by
 go_enter func136,ntmps136
 refine JN ?_
 refine OI ?_;refine Dy ?_;refine OQ ?_;refine Bv ?_
 refine OD ?_;refine t_8 ?_;refine t_4 ?_;refine iN ?_;refine OC ?_;refine OB ?_;refine OA ?_;refine n9 (by exact B1 rfl gg rfl (λw=>j w)) ?_;iterate 2 refine iN ?_
 refine AG ?_;refine AD (AH results136 (AF rfl)) ?_;intro l k;exact⟨rfl,k⟩
theorem rB(e g h c:Nat)(s t:Nat)(i r:Int)(w:World)(h0:decide (i<0)=false)(h1:decide ((256:Int)<=i)=false)
 (hq:∀(p q:Operand) (w:World),(do eqGuard .quo 3 p q (.int .i64 i) (.int .i64 64);binOp .quo 3 (.int .i64 i) (.int .i64 64):Sem Value).run prog w=.ok (.int .i64 3) w)
 (hr:∀(p q:Operand) (w:World),(do eqGuard .rem 3 p q (.int .i64 i) (.int .i64 64);binOp .rem 3 (.int .i64 i) (.int .i64 64):Sem Value).run prog w=.ok (.int .i64 r) w)
 (hs:∀(p q:Operand) (w:World),(do eqGuard .shr 49 p q (.int .u64 (c:Nat)) (.int .i64 r);binOp .shr 49 (.int .u64 (c:Nat)) (.int .i64 r):Sem Value).run prog w=.ok (.int .u64 (s:Nat)) w)
 (ha:∀(p q:Operand) (w:World),(do eqGuard .and 49 p q (.int .u64 (s:Nat)) (.int .u64 1);binOp .and 49 (.int .u64 (s:Nat)) (.int .u64 1):Sem Value).run prog w=.ok (.int .u64 (t:Nat)) w)
 (j:∀(w:World),(convert 49 3 (.int .u64 (t:Nat))).run prog w=.ok (.int .i64 (t:Nat)) w):
 CGy 136 #[A4y e g h c,.int .i64 i] w (.int .i64 (t:Nat)):=by
 go_enter func136,ntmps136
 refine JN ?_
 refine OI ?_;refine Dy ?_;refine OQ ?_;refine Bv ?_
 refine OD ?_;refine t_8 ?_;refine t_4 ?_;refine iN ?_;refine OC ?_;refine OB ?_;refine OA ?_;refine n9 (by exact B1 rfl gg rfl (λw=>j w)) ?_;iterate 2 refine iN ?_
 refine AG ?_;refine AD (AH results136 (AF rfl)) ?_;intro l k;exact⟨rfl,k⟩
section
open TollMont
theorem Mg(n k:Nat):lim n (k/64)/2^(k %64) %2=n/2^k %2:=by
 unfold lim;have c:W=2^(k %64)*2^(64-k %64):=by rw[<-Nat.pow_add,show k %64+(64-k %64)=64 by omega]
 have e:2∣2^(64-k %64):=⟨2^(64-k %64-1),by rw[<-Nat.pow_succ'];congr 1;omega⟩
 have g:W^(k/64)*2^(k %64)=2^k:=by
  rw[show W=2^64 by decide,<-Nat.pow_mul,<-Nat.pow_add,uD9]
 rw[<-g,<-WD];generalize n/W^(k/64)=x;rw[c,Nat.mod_mul_right_div_self,Nat.mod_mod_of_dvd _ e]
theorem rA(n k:Nat)(q:k<256)(w:World):CGy 136 #[N n,.int .i64 (k:Nat)] w (.int .i64 (n/2^k %2:Nat)):=by
 have g:=cK k (by omega);have l:=cJ k;have p:k %64<64:=yJ _ (by decide);have i:decide ((k:Int)<0)=false:=yB (by omega);have j:decide ((256:Int)<=(k:Int))=false:=yB (by omega);rw[<-Mg n k];have e:=rX (lim n (k/64)/2^(k %64) %2) (by omega);have h:=UZ (lim n (k/64)) (k %64) p;have c:=LR (lim n (k/64)/2^(k %64));have hj:k/64=0\/k/64=1\/k/64=2\/k/64=3:=by omega
 rcases hj with hj|hj|hj|hj<;>rw[hj]at g h c e⊢
 .exact rE _ _ _ _ _ _ _ _ w i j g l h c e
 .exact rD _ _ _ _ _ _ _ _ w i j g l h c e
 .exact rC _ _ _ _ _ _ _ _ w i j g l h c e
 .exact rB _ _ _ _ _ _ _ _ w i j g l h c e
variable{m b:Nat}
theorem HM:lim 0 0=0/\lim 0 1=0/\lim 0 2=0/\lim 0 3=0:=by decide
theorem KW:lim 1 0=1/\lim 1 1=0/\lim 1 2=0/\lim 1 3=0:=by decide
theorem Zt{u:Nat}(e:u<R):(lim u 0=0/\lim u 1=0/\lim u 2=0/\lim u 3=0)↔u=0:=by
 constructor
 .rintro⟨a,b,c,d⟩
  exact JI e (by decide) (a.trans HM.1.symm) (b.trans HM.2.1.symm) (c.trans HM.2.2.1.symm) (d.trans HM.2.2.2.symm)
 .rintro rfl;exact HM
theorem Zu{u:Nat}(e:u<R):(lim u 0=1/\lim u 1=0/\lim u 2=0/\lim u 3=0)↔u=1:=by
 constructor
 .rintro⟨a,b,c,d⟩
  exact JI e (by decide) (a.trans KW.1.symm) (b.trans KW.2.1.symm) (c.trans KW.2.2.1.symm) (d.trans KW.2.2.2.symm)
 .rintro rfl;exact KW
open Classical in
theorem Tj(h:Md m){x:Nat}(K:x<R)(w:World)(r:At w b m):Calls prog 81 #[ptr b,N x] w λe g=>
 e=.returned (if Nat.gcd x m=1 then .tuple #[N (PQ m x),.int .i64 0]else .tuple #[N 0,.int .i64 1])/\Gw w g:=by
 have L:0<m:=by have:=h.gt;omega
 have J:=h.lt;have z:=h.gt
 have I:=m9 b lim x (x %m) m 1 0 w r.m (λu=> !decide (lim u 0=0/\lim u 1=0/\lim u 2=0/\lim u 3=0)) (λu=> !decide (lim u 0=1/\lim u 1=0/\lim u 2=0/\lim u 3=0))
  (λu=>lim u 0 %2) (λu=>u/2) (halve m) (λu v=>decide (u<v)) dif (λu v=>if u<v then 1 else 0) (Ce m) (InvAt m x) KW HM
  (λg j=>Hu h K g (r.gw j)) (InvAt.start h.odd z) (λu p q w=>Sl _ _ _ _ _ _ _ _ p q w) (λu p q w=>Sl _ _ _ _ _ _ _ _ p q w) (λu p q w=>LR _ p q w) ?_ ?_ ?_ ?_ ?_ ?_ ?_ ?_ ?_ ?_
 .refine I.mono λe g ⟨⟨u,v,a,d,c,l,hr⟩,hg⟩=>⟨?_,hg⟩
  have G:u=0:=by
   have:=(uE0 .. ▸l:decide (lim u 0=0/\lim u 1=0/\lim u 2=0/\lim u 3=0)=true)
   exact(Zt (by have:=c.ule;omega)).1 (yA this)
  subst G;have C:=c.done z;have y:=Zu (u:=v) (by have:=c.vle;omega);rcases hr with⟨A,D⟩|⟨A,D⟩
  .have F: ¬v=1:=λB=>by
    have:=y.2 B;rw[yE this]at A;cases A
   rw[x8 (λB=>F (C.1.2 B)),dA];exact D
  .have H:v=1:=by
    have:=(uE0 .. ▸A:decide (lim v 0=1/\lim v 1=0/\lim v 2=0/\lim v 3=0)=true)
    exact y.1 (yA this)
   rw[x9 (C.1.1 H),<-(C.2 H).1];exact D
 .intro u v a d c _ i g j
  have:=Tm (n:=u) (by have:=c.ule;omega) (.inl rfl:(0:Nat)=0\/(0:Nat)=1) g;rw[Nat.mul_zero,Nat.add_zero]at this;exact this
 .intro u v a d c _ i g j
  exact nW J (by have:=c.xlt;omega) g (r.gw j)
 .intro u v a d c _ i g j
  exact S7 u v (by have:=c.ule;omega) (by have:=c.vle;omega) g
 .intro u v a d c _ i _ g j
  exact J9 u v (by have:=c.ule;omega) (by have:=c.vle;omega) g
 .intro u v a d c _ i _ g j
  exact J9 v u (by have:=c.vle;omega) (by have:=c.ule;omega) g
 .intro u v a d c _ i _ g j
  exact Ss h (by have:=c.xlt;omega) (by have:=c.ylt;omega) g (r.gw j)
 .intro u v a d c _ i _ g j
  exact Ss h (by have:=c.ylt;omega) (by have:=c.xlt;omega) g (r.gw j)
 .intro u v a d c l i
  have t:u %2=0:=by have:lim u 0 %2=0:=i;rwa [Mf]at this
  have G:u≠0:=by rintro rfl;exact absurd l (by decide)
  refine⟨c.halved h.odd t,?_⟩;show u/2+v<u+v;omega
 .intro u v a d c l i E
  have k: ¬u<v:=yC E;have G:u≠0:=by rintro rfl;exact absurd l (by decide)
  have H:=c.vodd;have e:dif u v=u-v:=by unfold dif;rw[x8 k]
  rw[e];exact⟨c.less z (by omega),by omega⟩
 .intro u v a d c l i E
  have k:u<v:=yA E;have t:u %2≠0:=by have:lim u 0 %2≠0:=i;rwa [Mf]at this
  have e:dif v u=v-u:=by unfold dif;rw[x8 (by omega)]
  rw[e];exact⟨c.swap z (by omega) k,by omega⟩
def Mb(a x:Nat):Nat:=a*x %18446744073709551616
def Ly(x:Nat):Nat:=(((2:Nat):Int)-(x:Int)) %18446744073709551616 |>.toNat
def Su(x y:Nat):Nat:=x*y %18446744073709551616
theorem KT(a i:Nat):Su (CO a i) (Ly (Mb a (CO a i)))=CO a (i+1):=by
 have c:a*CO a i %18446744073709551616<18446744073709551616:=yJ _ (by decide)
 have e:Ly (Mb a (CO a i))=(2+W-a*CO a i %W) %W:=by
  unfold Ly Mb;simp only[W];generalize a*CO a i %18446744073709551616=y at*;omega
 rw[e];rfl
theorem gO{m:Nat}(e:m<R)(h:m≠1):decide (lim m 0=1/\lim m 1=0/\lim m 2=0/\lim m 3=0)=false:=yB λc=>h ((Zu e).1 c)
def p2(a k:Nat):Nat:=a^k
theorem kT(a k:Nat):p2 a (k+1)=p2 a k*a:=CA a k
theorem kU(a j k:Nat):p2 a (j+k)=p2 a j*p2 a k:=Nat.pow_add a j k
variable{m:Nat}
theorem YW(h:Md m)(w:World):Calls prog 126 #[N m] w λe k=> ∃g,w.heap.size<=g/\e=.returned (.tuple #[ptr g,.int .i64 0])/\k.heap[g]? =some (.cells (Ck m).toArray 199 (0,0))/\Gw w k:=by
 have E:0<m:=by have:=h.gt;omega
 have u:=h.lt;have l:lim m 0 %2=1:=(Mf m).trans h.odd;have pw:∀i,(p2 2 i %m+p2 2 i %m) %m=p2 2 (i+1) %m:=λi=>by rw[<-GS,kT,Nat.mul_two]
 have I:p2 2 256=R:=by unfold p2;decide
 have G:∀x,x<m->(x+x)/R=0\/(x+x)/R=1:=λx j=>by simp only[R]at *; omega
 have D:=lO lim m 1 0 (Gn (lim m 0)) w (Mb (lim m 0)) Ly Su (λx=>x+x) (λx=>(x+x)/R) (λx=>(x+x) %m)
  (λi x o=>x=p2 2 i %m/\(i<=256->o=0)/\(256<i->o=R %m)) HM (λp q w=>by have:=LR (lim m 0) p q w;rw[l]at this;exact this)
  (λp q w=>by have:=NX 147 (.inl rfl) (lim m 0) (lim m 1) (lim m 2) (lim m 3) 1 0 0 0 p q w;rw[gO u (by have:=h.gt;omega)]at this;exact this)
  (λx p q w=>Qa _ x p q w) (λp q w=>Qa _ 1 p q w) (λx p q w=>UY 2 x p q w) (λx y p q w=>Qa x y p q w) (λy p q w=>Qa 1 y p q w) ?_ ?_ ?_ ?_ ?_ ?_ ?_
 .refine D.mono λe k ⟨x,o,g,r,z,t,he,hg⟩=>⟨g,z,he,?_,hg⟩
  obtain⟨j,_,C⟩:=r;rw[show p2 2 512=p2 2 (256+256) from rfl,kU,I]at j;rw[j,C (by omega)]at t;exact t
 .intro w
  have J:Su 1 (Ly (Mb (lim m 0) 1))=CO (lim m 0) 1:=KT (lim m 0) 0;have K:=KT (lim m 0) 1;have L:=KT (lim m 0) 2;have M:=KT (lim m 0) 3;have O:=KT (lim m 0) 4;have S:=KT (lim m 0) 5;simp only[J,K,L,M,O,S];have F:=rV (CO (lim m 0) 6) w;have U:=Zw (lim m 0) 6;have V:=nC l
  have:(18446744073709551616-CO (lim m 0) 6 %18446744073709551616) %18446744073709551616=Gn (lim m 0):=by
   unfold Gn;simp only[W]at *; omega
  rw[this]at F;exact F
 .intro k g A
  have:=OY g m 1 0 u (by decide) (.inl rfl) k A;rw[x9 ⟨rfl,h.gt⟩,Qo]at this;exact this
 .intro i x o _ r k _
  have j:x<m:=r.1▸yJ _ E;exact Qg x x (by omega) (by omega) k
 .intro i x o _ r k g A
  have j:x<m:=r.1▸yJ _ E;have H:=yJ (x+x) (show 0<R by decide);have B:(x+x) %R+R*((x+x)/R)<2*m:=by rw[zL];omega
  have:=OY g m ((x+x) %R) ((x+x)/R) u H (G x j) k A;rw[Rn u H (G x j) B,zL,JJ]at this;exact this
 .exact⟨(yP h.gt).symm,λ_=>rfl,λc=>by omega⟩
 .rintro i x o _ T ⟨j,z,t⟩
  exact⟨by show(x+x) %m=_;rw[j,pw],λc=>z (by omega),λc=>t (by omega)⟩
 .rintro x o ⟨j,_,_⟩
  exact⟨by show(x+x) %m=_;rw[j,pw],λc=>by omega,λ_=>by rw[j,I]⟩
end
end Go.Proofs.YtafbhakmkbehiaaGreatDoor
namespace Go.Toll
open Go.RowKit
variable{parts:Array (Nat×Operand)}{xs:Array Operand}{ats:Array TypeId}{cells:Array Value}{b:Blk}{f:FuncId}{vs:List Value}{id id2 off off2:Nat}{a x:Operand}{d:TypeDesc}{ty:TypeId}{v:Value}
section
variable{P:Program}{w0:World}{ops:Array Oper}{o:Oper}{s:VS}
def CG:List (Nat×SV)->Option (List (Nat×Value))
 | []=>some []
 |(i,.v x)::l=>match CG l with|some r=>some ((i,x)::r)|none=>none
 |_::_=>none
theorem Il:∀{l:List (Nat×SV)} {r:List (Nat×Value)},CG l=some r-> ∀ρ,l.map (λx=>(x.1,x.2.c ρ))=r
 | [],r,h,_=>by simp[CG]at h;subst h;rfl
 |(i,.v x)::l,r,h,ρ=>by
  simp only[CG]at h;cases hl:CG l with
  |none=>rw[hl]at h;cases h
  |some q=>rw[hl]at h;simp only[yT]at h;subst h;exact BT _ (Il hl ρ)
 |(_,.p _ _)::_,_,h,_=>by simp[CG]at h
 |(_,.s _ _ _ _)::_,_,h,_=>by simp[CG]at h
 |(_,.tp _ _ _)::_,_,h,_=>by simp[CG]at h
 |(_,.ap _ _)::_,_,h,_=>by simp[CG]at h
theorem A6{pl:List (Nat×Value)}(l:o.op=.build ty parts)(g:∀e,Region.wanted o (yielded ops (s.act e).tmps)=true)
 (p:CG (parts.toList.map λx=>(x.1,AE s x.2))=some pl)(k:P.built ty pl=some cells):Ev P ops w0 o s ⟨.v (.agg cells),.none,[]⟩:=
 .run _ _ g λe w _=>by
  have h:(parts.map fun(i,x)=>(i,(s.act e).eval x)).toList=pl:=by
   rw[<-Il p e];simp only[Array.toList_map,KK];exact uB4 λx _=>by simp only[Function.comp_apply,AI]
  have j:=run_build w ty (parts.map fun(i,x)=>(i,(s.act e).eval x)) cells (by rw[h];exact k);simp only[execOp,l,SV.c];rw[Sem.run_bind,j];rfl
theorem CY{c b:Operand}(l:o.op=.pick c a b)(g:∀e,Region.wanted o (yielded ops (s.act e).tmps)=true)(k:AE s c=.v (.bool true))(j:AE s a=.v v):Ev P ops w0 o s ⟨.v v,.none,[]⟩:=
 .run _ _ g λe w _=>by
  have h:=AI s e c;rw[k]at h;have i:=AI s e a;rw[j]at i;simp[execOp,l,h,i,SV.c,asBool]
theorem Ca{c b:Operand}(l:o.op=.pick c a b)(g:∀e,Region.wanted o (yielded ops (s.act e).tmps)=true)(k:AE s c=.v (.bool false))(j:AE s b=.v v):Ev P ops w0 o s ⟨.v v,.none,[]⟩:=
 .run _ _ g λe w _=>by
  have h:=AI s e c;rw[k]at h;have i:=AI s e b;rw[j]at i;simp[execOp,l,h,i,SV.c,asBool]
theorem D7{p:Bool}(e:o.op=.unOp .not ty x)(c:∀h,Region.wanted o (yielded ops (s.act h).tmps)=true)(g:AE s x=.v (.bool p)):Ev P ops w0 o s ⟨.v (.bool (!p)),.none,[]⟩:=
 NR e c g λw=>by simp[Op.unary]
theorem oh{i:Nat}(r:o.op=.build ty #[(i,x)])(h:∀e,Region.wanted o (yielded ops (s.act e).tmps)=true)(t:AE s x=.p id off)
 (q:∀g,P.built ty [(i,.pointer (some ⟨g,off,none⟩))]=some #[.pointer (some ⟨g,off,none⟩)]):Ev P ops w0 o s ⟨.ap id off,.none,[]⟩:=
 .run _ _ h λe w _=>by
  have j:=AI s e x;rw[t]at j;have k:=run_build w ty #[(i,(s.act e).eval x)] _ (by rw[j];exact q (e id));simp only[execOp,r,SV.c];rw[Sem.run_bind];have l:(#[(i,x)]:Array (Nat×Operand)).map (fun(i,x)=>(i,(s.act e).eval x))=#[(i,(s.act e).eval x)]:=by simp
  rw[l,k];rfl
theorem Tq{y:Operand}(C:o.op=.store ty x y)(i:∀e,Region.wanted o (yielded ops (s.act e).tmps)=true)(F:AE s x=.p id off)(z:s.mem id=some b)(G:AE s y=.ap id2 off2)
 (D:∀w,(Go.sizeOf ty).run P w=.ok 1 w)(t:off+1<=b.1.length):
 Ev P ops w0 o s ⟨.v undef,.wr id (b.1.take off++[.p id2 off2]++b.1.drop (off+1),b.2),[id]⟩:=
 .wr id _ i (by rw[z];rfl) λe w E=>by
  have l:=AI s e x;rw[F]at l;have q:=AI s e y;rw[G]at q;obtain⟨_,h⟩:=E.2 id b (by simp) z;have j:=run_storeCells_at P (e id) off b.2 [.pointer (some ⟨e id2,off2,none⟩)] 0 (b.1.map (SV.c e)).toArray w h (by simp;omega) (λu A=>by simp at A;subst A;rfl);refine⟨w.setRow (e id) ((b.1.map (SV.c e)).toArray.toList.take (off+0)++[Value.pointer (some ⟨e id2,off2,none⟩)]++(b.1.map (SV.c e)).toArray.toList.drop (off+0+1)).toArray,?_,?_,?_⟩
  .simp only[execOp,C,l,q,SV.c,Instr.storeAt,Instr.sureAddr,storeVar]
   rw[Sem.run_bind,Sem.run_bind,Sem.run_pure,Result.andThen_ok,Sem.run_bind,D,Result.andThen_ok,x8 (by simp[Value.cells])];have g:=j;simp only[Value.cells]at g⊢;rw[g];rfl
  .exact⟨rfl,rfl,rfl,by simp,λk B=>MT w _ k _ B,λa=>by
    by_cases r:a.block=e id
    .simp[World.frozen?,r,h,cellsOf,ID w (e id) _ _ _ _ h]
    .simp[World.frozen?,MT w (e id) a.block _ r]⟩
  .rw[ID w (e id) _ _ _ _ h]
   simp[cellsOf,SV.c]
theorem oJ(t:o.op=.load ty x)(h:∀e,Region.wanted o (yielded ops (s.act e).tmps)=true)(B:AE s x=.p id off)(r:s.mem id=some b)
 (y:P.underlying ty=some d)(q:Ba d=true)(u:∀w,(Go.sizeOf ty).run P w=.ok 1 w)(z:b.1[off]? =some (.p id2 off2)):Ev P ops w0 o s ⟨.ap id2 off2,.none,[id]⟩:=
 .run _ _ h λe w A=>by
  have k:=AI s e x;rw[B]at k;obtain⟨_,l⟩:=A.2 id b (by simp) r
  have i:(loadCells ⟨e id,off,none⟩ 1).run P w=.ok #[.pointer (some ⟨e id2,off2,none⟩)] w:=OR w _ [.pointer (some ⟨e id2,off2,none⟩)] λj v g=>by
   rw[Bd]
   match j,g with
   |0,g=>
    simp at g;subst g;simp only[World.cell?,l,cellsOf];simp[z,SV.c]
  simp[execOp,t,k,SV.c,Instr.loadAt,Instr.sureAddr,loadVar,Bp y,q,u,i]
theorem QE(_hd:o.dst=some id)(p:o.op=.call {callee:=.value (.func f),args:=xs,argTypes:=ats})(j:∀l,Region.wanted o (yielded ops (s.act l).tmps)=true)
 (z:unV (xs.toList.map (AE s))=some vs)(u:∀args w,(callFunc f args).run P w=.ok (.enter f args) w)(i:List Value)(ty:TypeId)
 (t:∀w,Gw w0 w->Calls P f vs.toArray w λe k=> ∃g,w.heap.size<=g/\e=.returned (.agg #[.pointer (some ⟨g,0,none⟩)])/\k.heap[g]? =some (.cells i.toArray ty (0,0))/\Gw w k):
 Ev P ops w0 o s ⟨.ap id 0,.new id (i.map .v,ty),[]⟩:=
 .callnew f (λ_=>vs.toArray) (.ap id 0) [] id (i.map .v,ty) j (by simp[SV.has]) (λl w _=>by
  obtain⟨r,B,q,A,h,guard⟩:=o;simp only at p;subst p;rw[DH,G8 z];simpa using u vs.toArray w) λl w y=>(t w y.1).mono λe k ⟨g,h1,h2,h3,h4⟩=>⟨g,h1,by simp[h2,SV.c],by rw[h3];simp[cellsOf,uB0,SV.c],h4⟩
theorem kE{u:Func}{R:Ending->World->Prop}{a ty e:Nat}{k:Blk}{t:List Value}(G:u.results=#[.cell a ty])(D:AE s (.tmp a)=.p e off)(l:s.mem e=some k)(J:P.underlying ty=some d)(F:Ba d=true)(I:∀w,(Go.sizeOf ty).run P w=.ok 1 w)
 (K:k.1[off]? =some (.p id 0))(H:s.mem id=some b)(E:unV b.1=some t)
 (C:∀g w,w0.heap.size<=g->w.heap[g]? =some (.cells t.toArray b.2 (0,0))->Gw w0 w->R (.returned (.agg #[.pointer (some ⟨g,0,none⟩)])) w):∀h w,Rel w0 h s w->bodyPost P u R .ret (s.act h) w:=λh w r=>by
 obtain⟨z,A⟩:=r.own id b H;obtain⟨_,B⟩:=r.own e k l;refine⟨rfl,_,?_,C (h id) w z (by rw[A];simp[cellsOf,Eb E,uB0,SV.c]) r.gw⟩;rw[Ht,G]
 have q:(loadCells ⟨h e,off,none⟩ 1).run P w=.ok #[.pointer (some ⟨h id,0,none⟩)] w:=OR w _ [.pointer (some ⟨h id,0,none⟩)] λj v i=>by
  rw[Bd]
  match j,i with
  |0,i=>
   simp at i;subst i;simp only[World.cell?,B,cellsOf];simp[K,SV.c]
 have y:(DW (s.act h).tmps (.cell a ty)).run P w=.ok (.agg #[.pointer (some ⟨h id,0,none⟩)]) w:=by
  simp only[DW,Gy,D,SV.c];simp[asAddr,loadVar,Bp J,F,I,q]
 simp[y]
end
end Go.Toll
