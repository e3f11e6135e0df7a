import Derived.Laws.Tables
import Derived.ProofKit
import Derived.OpenShut
import Derived.Lib.LaidTab
import Derived.Test.YtafbhakmkbehiaaGreatDoorZ6
import Derived.Test.YtafbhakmkbehiaaGreatDoorZ10
open Go.Proofs.Tryz
set_option maxHeartbeats 4000000
set_option maxRecDepth 100000
namespace Go.Proofs.YtafbhakmkbehiaaGreatDoor
open Go.RowKit Go.Toll
section
open TollMont
def fA(x y t:Nat):Nat:=ac (x*y %W) t 0
def fK(x y t:Nat):Nat:=co (x*y %W) t 0
def fH(x y t:Nat):Nat:=(x*y/W+fK x y t) %W
def fM(x y t c:Nat):Nat:=ac (fA x y t) c 0
def fK2(x y t c:Nat):Nat:=co (fA x y t) c 0
def fC(x y t c:Nat):Nat:=(fH x y t+fK2 x y t c) %W
theorem IC{x y t c:Nat}(hx:x<W)(hy:y<W)(ht:t<W)(hc:c<W):fM x y t c=HL x y t c∧fC x y t c=FM x y t c:=by
 obtain⟨h1,h2⟩:=lu hx hy ht hc;exact⟨h1,h2⟩
theorem lz{x y t:Nat}(hx:x<W)(hy:y<W)(ht:t<W):fH x y t=FM x y t 0:=by
 rw[←(IC hx hy ht (by decide)).2];unfold fC fK2 fA ac co;rw[Nat.add_zero,Nat.add_zero,Nat.div_eq_of_lt (Nat.mod_lt _ (by decide)),Nat.add_zero];exact(Nat.mod_eq_of_lt (Nat.mod_lt _ (by decide))).symm
theorem Yg(x y:Nat)(hx:x<W)(hy:y<W)(w:World):Calls prog 172 #[.int .u64 x,.int .u64 y] w fun e w'=>e= .returned (.tuple #[.int .u64 (x*y/W:Nat),.int .u64 (x*y %W:Nat)])∧Gw w w':=
 (bits_Mul64 x y hx hy w).mono fun e w' h=>⟨h.1,by rw[h.2];exact Gw.refl w⟩
theorem Oj{m b n c:Nat}(hm:m %2=1)(h1:1<m)(hmR:m<R)(hn:n<R)(hc:c<R)(hnc:n<m∨c<m)(w:World)(h:At w b m):
 Calls prog 131 #[ptr b,N n,N c] w fun e w'=>e= .returned (N (F2 m n c))∧Gw w w':=by
 have hneg:(Gn (lim m 0)*lim m 0+1) %W=0:=lS (by rw[IE];simp only[W];omega)
 refine ge b _ _ _ _ _ _ _ _ _ _ _ _ _ _ _ _ (Gn (lim m 0)) w h.m h.neg (fun x y=>x*y/W) (fun x y=>x*y %W) (fun t c=>ac t c 0) (fun t c=>co t c 0) (fun x y=>(x+y) %W)
  fA fK fH fM fK2 fC (fun t=>t*Gn (lim m 0) %W) (fun x=>x<W) (fun k t0 t1 t2 t3 t4=>RedAt m n c k t0 t1 t2 t3 t4) (fun x y hx hy w=>Yg x y hx hy w)
  (fun x y t w=>IZ _ _ 0 (by omega) w) (fun x y t c w=>IZ _ _ 0 (by omega) w) (fun x y t w=>IZ _ 0 0 (by omega) w) (fun t c w=>IZ _ _ 0 (by omega) w)
  (fun x y t=>Fj _) (fun x y t c=>Fj _) (fun a c d e=>Fj _) (fun t=>Fj _) (fun t=>Nat.mod_lt _ (by decide))
  (AZ _ _) (AZ _ _) (AZ _ _) (AZ _ _) (AZ _ _) (AZ _ _) (AZ _ _) (AZ _ _) (AZ _ _) (AZ _ _) (AZ _ _) (AZ _ _) (RedAt.start (by omega)) ?_ ?_
 ·intro k x t0 t1 t2 t3 t4 hk hx hr
  have hx':x=lim c k:=by
   have:k=0∨k=1∨k=2∨k=3:=by omega
   rcases this with rfl|rfl|rfl|rfl<;>(simp at hx;exact hx.symm)
  have hxW:x<W:=by rw[hx'];exact AZ _ _
  have qW: ∀u,u*Gn (lim m 0) %W<W:=fun u=>Nat.mod_lt _ (by decide)
  obtain⟨a0,b0⟩:=IC hxW (AZ n 0) hr.b0 (show 0<W by decide);have l1:=EN hxW (AZ n 0) hr.b0 (show 0<W by decide);rw[←b0]at l1;obtain⟨a1,b1⟩:=IC hxW (AZ n 1) hr.b1 l1;have l2:=EN hxW (AZ n 1) hr.b1 l1;rw[←b1]at l2;obtain⟨a2,b2⟩:=IC hxW (AZ n 2) hr.b2 l2;have l3:=EN hxW (AZ n 2) hr.b2 l2;rw[←b2]at l3;obtain⟨a3,b3⟩:=IC hxW (AZ n 3) hr.b3 l3;have u0:=F3 x (lim n 0) t0 0;rw[←a0]at u0;have u1:=F3 x (lim n 1) t1 (fC x (lim n 0) t0 0);rw[←a1]at u1;have u2:=F3 x (lim n 2) t2 (fC x (lim n 1) t1 (fC x (lim n 0) t0 0));rw[←a2]at u2;have u3:=F3 x (lim n 3) t3 (fC x (lim n 2) t2 (fC x (lim n 1) t1 (fC x (lim n 0) t0 0)));rw[←a3]at u3;have g0:=lz (qW (fM x (lim n 0) t0 0)) (AZ m 0) u0;have k1:=EN (qW (fM x (lim n 0) t0 0)) (AZ m 0) u0 (show 0<W by decide);rw[←g0]at k1;obtain⟨g1,i1⟩:=IC (qW (fM x (lim n 0) t0 0)) (AZ m 1) u1 k1;have k2:=EN (qW (fM x (lim n 0) t0 0)) (AZ m 1) u1 k1;rw[←i1]at k2;obtain⟨g2,i2⟩:=IC (qW (fM x (lim n 0) t0 0)) (AZ m 2) u2 k2;have k3:=EN (qW (fM x (lim n 0) t0 0)) (AZ m 2) u2 k2;rw[←i2]at k3;obtain⟨g3,i3⟩:=IC (qW (fM x (lim n 0) t0 0)) (AZ m 3) u3 k3;exact RedAt.step hn hmR hneg hr hx' a0 b0 a1 b1 a2 b2 a3 b3 rfl rfl rfl g0 g1 i1 g2 i2 g3 i3 rfl rfl rfl
 ·intro t0 t1 t2 t3 t4 hr w' hw
  obtain⟨Q,hQ,hE⟩:=hr.eq
  have hE':v5 t0 t1 t2 t3 t4*R=n*c+m*Q:=by
   have h4:W^4=R:=by decide
   rw[h4,Nat.mod_eq_of_lt hc]at hE;exact hE
  obtain⟨hlt,LA⟩:=gf hm h1 hn hc hnc hQ hE';have ht4:=de (show v5 t0 t1 t2 t3 t4<2*R by omega);obtain⟨q0,q1,q2,q3,_⟩:=KX t0 t1 t2 t3 0 hr.b0 hr.b1 hr.b2 hr.b3;have hr0:=hr.b0;have hr1:=hr.b1;have hr2:=hr.b2;have hr3:=hr.b3;have hT:v5 t0 t1 t2 t3 t4=t0+W*(t1+W*(t2+W*(t3+W*0)))+R*t4:=by unfold v5;simp only[W,R];omega
  have hlt':t0+W*(t1+W*(t2+W*(t3+W*0)))<R:=by simp only[W,R]at *; omega
  generalize t0+W*(t1+W*(t2+W*(t3+W*0)))=T at*;have hs:=OY b m T t4 hmR hlt' (by omega) w' (h.gw hw).m
  have hres:(if t4=0∧T<m then T else dif T m)=F2 m n c:=by
   rw[←LA,hT];rw[hT]at hlt;have:t4=0∨t4=1:=by omega
   rcases this with rfl|rfl
   ·simp only[Nat.mul_zero,Nat.add_zero]at*
    by_cases hl:T<m
    ·rw[if_pos ⟨trivial,hl⟩,Nat.mod_eq_of_lt hl]
    ·rw[if_neg (fun c=>hl c.2)]
     unfold dif;rw[if_neg hl,Nat.mod_eq_sub_mod (by omega),Nat.mod_eq_of_lt (by omega)]
   ·rw[if_neg (fun c=>by cases c.1)]
    unfold dif;rw[if_pos (by omega),Nat.mul_one,Nat.mod_eq_sub_mod (by omega),Nat.mod_eq_of_lt (by omega)]
  rw[hres]at hs;unfold N at hs;rw[q0,q1,q2,q3]at hs;exact hs
structure Md(m:Nat):Prop where
 odd:m %2=1
 gt:1<m
 lt:m<R
theorem Mc{m:Nat}(h:Md m)(x:Nat):x %m<R:=Nat.lt_trans (Nat.mod_lt _ (by have:=h.gt;omega)) h.lt
theorem Qo:N 1= .agg #[.int .u64 1,.int .u64 0,.int .u64 0,.int .u64 0]:=by
 unfold N;rw[show lim 1 0=1 by decide,show lim 1 1=0 by decide,show lim 1 2=0 by decide,show lim 1 3=0 by decide];rfl
theorem dA:N 0= .agg #[.int .u64 0,.int .u64 0,.int .u64 0,.int .u64 0]:=by
 unfold N;rw[show lim 0 0=0 by decide,show lim 0 1=0 by decide,show lim 0 2=0 by decide,show lim 0 3=0 by decide];rfl
variable{m b:Nat}
theorem Hu(h:Md m){n:Nat}(hn:n<R)(w:World)(ha:At w b m):Calls prog 88 #[ptr b,N n] w fun e w'=>e= .returned (N (n %m))∧Gw w w':=by
 have h0:0<m:=by have:=h.gt;omega
 have e1:F2 m n (R*R %m)=n*R %m:=Yh h.odd h.gt n;have e2:F2 m (n*R %m) 1=n %m:=lh h.odd h.gt n
 have A: ∀w',Gw w w'→Calls prog 131 #[ptr b,N n,N (R*R %m)] w' fun e w''=>e= .returned (N (n*R %m))∧Gw w' w'':=fun w' hw=>by
  have:=Oj h.odd h.gt h.lt hn (Mc h (R*R)) (.inr (Nat.mod_lt _ h0)) w' (ha.gw hw);rw[e1]at this;exact this
 have B: ∀w',Gw w w'→Calls prog 131 #[ptr b,N (n*R %m),.agg #[.int .u64 1,.int .u64 0,.int .u64 0,.int .u64 0]] w' fun e w''=>e= .returned (N (n %m))∧Gw w' w'':=fun w' hw=>by
  have:=Oj h.odd h.gt h.lt (Mc h (n*R)) (by decide:1<R) (.inl (Nat.mod_lt _ h0)) w' (ha.gw hw);rw[e2,Qo]at this;exact this
 exact gU b _ _ _ _ _ _ _ _ _ _ _ _ _ _ _ _ w ha.two A B
theorem Yd(h:Md m){x y:Nat}(hx:x<R)(hy:y<R)(w:World)(ha:At w b m):Calls prog 83 #[ptr b,N x,N y] w fun e w'=>e= .returned (N (x*y %m))∧Gw w w':=by
 have h0:0<m:=by have:=h.gt;omega
 have e1:F2 m x (R*R %m)=x*R %m:=Yh h.odd h.gt x;have e2:F2 m (x*R %m) (y %m)=x*y %m:=li h.odd h.gt x y
 have A: ∀w',Gw w w'→Calls prog 131 #[ptr b,N x,N (R*R %m)] w' fun e w''=>e= .returned (N (x*R %m))∧Gw w' w'':=fun w' hw=>by
  have:=Oj h.odd h.gt h.lt hx (Mc h (R*R)) (.inr (Nat.mod_lt _ h0)) w' (ha.gw hw);rw[e1]at this;exact this
 have B: ∀w',Gw w w'→Calls prog 131 #[ptr b,N (x*R %m),N (y %m)] w' fun e w''=>e= .returned (N (x*y %m))∧Gw w' w'':=fun w' hw=>by
  have:=Oj h.odd h.gt h.lt (Mc h (x*R)) (Mc h y) (.inl (Nat.mod_lt _ h0)) w' (ha.gw hw);rw[e2]at this;exact this
 exact lX b _ _ _ _ _ _ _ _ _ _ _ _ _ _ _ _ _ _ _ _ _ _ _ _ w ha.two A (fun w' hw=>Hu h hy w' (ha.gw hw)) B
theorem JJ(n:Nat):N (n %R)=N n:=by
 have hl:=Yr n;obtain⟨q0,q1,q2,q3,_⟩:=KX (lim n 0) (lim n 1) (lim n 2) (lim n 3) 0 (AZ _ _) (AZ _ _) (AZ _ _) (AZ _ _)
 have e:n %R=lim n 0+W*(lim n 1+W*(lim n 2+W*(lim n 3+W*0))):=by
  have h0:=AZ n 0;have h1:=AZ n 1;have h2:=AZ n 2;have h3:=AZ n 3;have hd:=Nat.mod_add_div n R;generalize n/R=d at*;generalize lim n 0=a0 at *; generalize lim n 1=a1 at *; generalize lim n 2=a2 at *; generalize lim n 3=a3 at*;simp only[W,R]at*;omega
 unfold N;rw[e,q0,q1,q2,q3]
theorem Rn{m T o:Nat}(hm:m<R)(_hT:T<R)(ho:o=0∨o=1)(hlt:T+R*o<2*m):(if o=0∧T<m then T else dif T m)=(T+R*o) %m:=by
 rcases ho with rfl|rfl
 ·simp only[Nat.mul_zero,Nat.add_zero]at*
  by_cases hl:T<m
  ·rw[if_pos ⟨trivial,hl⟩,Nat.mod_eq_of_lt hl]
  ·rw[if_neg (fun c=>hl c.2)]
   unfold dif;rw[if_neg hl,Nat.mod_eq_sub_mod (by omega),Nat.mod_eq_of_lt (by omega)]
 ·rw[if_neg (fun c=>by cases c.1)]
  unfold dif;rw[if_pos (by omega),Nat.mul_one,Nat.mod_eq_sub_mod (by omega),Nat.mod_eq_of_lt (by omega)]
theorem Yn(h:Md m){x y:Nat}(hx:x<R)(hy:y<R)(w:World)(ha:At w b m):Calls prog 106 #[ptr b,N x,N y] w fun e w'=>e= .returned (N ((x+y) %m))∧Gw w w':=by
 have h0:0<m:=by have:=h.gt;omega
 have lx:x %m<m:=Nat.mod_lt _ h0;have ly:y %m<m:=Nat.mod_lt _ h0;have hm:=h.lt;have e:(x+y) %m=((x %m+y %m) %R+R*((x %m+y %m)/R)) %m:=by rw[Nat.mod_add_div,←Nat.add_mod]
 have A: ∀w',Gw w w'→Calls prog 88 #[ptr b,N x] w' fun e w''=>e= .returned (N (x %m))∧Gw w' w'':=fun w' hw=>Hu h hx w' (ha.gw hw)
 have B: ∀w',Gw w w'→Calls prog 88 #[ptr b,N y] w' fun e w''=>e= .returned (N (y %m))∧Gw w' w'':=fun w' hw=>Hu h hy w' (ha.gw hw)
 have C: ∀w',Gw w w'→Calls prog 159 #[N (x %m),N (y %m)] w' fun e w''=>e= .returned (.tuple #[N (x %m+y %m),.int .u64 ((x %m+y %m)/R:Nat)])∧Gw w' w'':=fun w' _=>Qg _ _ (by omega) (by omega) w'
 have ho:(x %m+y %m)/R=0∨(x %m+y %m)/R=1:=by simp only[R]at *; omega
 have hr:=Nat.mod_lt (x %m+y %m) (show 0<R by decide);have hlt:(x %m+y %m) %R+R*((x %m+y %m)/R)<2*m:=by rw[Nat.mod_add_div];omega
 have D: ∀w',Gw w w'→Calls prog 160 #[ptr b,N (x %m+y %m),.int .u64 ((x %m+y %m)/R:Nat)] w' fun e w''=>e= .returned (N ((x+y) %m))∧Gw w' w'':=fun w' hw=>by
  have:=OY b m ((x %m+y %m) %R) ((x %m+y %m)/R) hm hr ho w' (ha.gw hw).m;rw[Rn hm hr ho hlt,←e,JJ]at this;exact this
 rcases ho with o|o
 ·rw[o]at C D
  exact lq b _ _ _ _ _ _ _ _ _ _ _ _ _ _ _ _ _ _ _ _ _ _ _ _ w A B C D
 ·rw[o]at C D
  exact lp b _ _ _ _ _ _ _ _ _ _ _ _ _ _ _ _ _ _ _ _ _ _ _ _ w A B C D
theorem Ss(h:Md m){x y:Nat}(hx:x<R)(hy:y<R)(w:World)(ha:At w b m):Calls prog 130 #[ptr b,N x,N y] w fun e w'=>e= .returned (N (Ce m x y))∧Gw w w':=by
 have h0:0<m:=by have:=h.gt;omega
 have lx:x %m<m:=Nat.mod_lt _ h0;have ly:y %m<m:=Nat.mod_lt _ h0;have hm:=h.lt;have A: ∀w',Gw w w'→Calls prog 88 #[ptr b,N x] w' fun e w''=>e= .returned (N (x %m))∧Gw w' w'':=fun w' hw=>Hu h hx w' (ha.gw hw)
 have B: ∀w',Gw w w'→Calls prog 88 #[ptr b,N y] w' fun e w''=>e= .returned (N (y %m))∧Gw w' w'':=fun w' hw=>Hu h hy w' (ha.gw hw)
 have C: ∀w',Gw w w'→Calls prog 129 #[N (x %m),N (y %m)] w' fun e w''=>e= .returned (.tuple #[N (dif (x %m) (y %m)),.int .u64 (if x %m<y %m then 1 else 0:Nat)])∧Gw w' w'':=fun w' _=>J9 _ _ (by omega) (by omega) w'
 have D: ∀w',Gw w w'→Calls prog 159 #[N (dif (x %m) (y %m)),N m] w' fun e w''=>e= .returned (.tuple #[N (dif (x %m) (y %m)+m),.int .u64 ((dif (x %m) (y %m)+m)/R:Nat)])∧Gw w' w'':=fun w' _=>Qg _ _ (pE (by omega) (by omega)) hm w'
 by_cases hlt:x %m<y %m
 ·have e:N (dif (x %m) (y %m)+m)=N (Ce m x y):=by
   rw[←JJ,←JJ (Ce m x y)];congr 1
   unfold dif Ce;rw[if_pos hlt,Nat.mod_eq_of_lt (a:=x %m+m-y %m) (by omega)];generalize x %m=p at *; generalize y %m=q at*;simp only[R]at *; omega
  rw[e]at D;simp only[if_pos hlt]at C;exact lf b _ _ _ _ _ _ _ _ _ _ _ _ _ _ _ _ _ _ _ _ _ _ _ _ _ _ _ _ _ w ha.m A B C D
 ·have e:dif (x %m) (y %m)=Ce m x y:=by
   unfold dif Ce;rw[if_neg hlt,show x %m+m-y %m=x %m-y %m+m by omega,Nat.add_mod_right];exact(Nat.mod_eq_of_lt (by omega)).symm
  simp only[if_neg hlt]at C;rw[e]at C D;exact lg b _ _ _ _ _ _ _ _ _ _ _ _ _ _ _ _ _ _ _ _ _ _ _ _ _ _ _ _ _ w ha.m A B C D
def BS(x y:Nat):Nat:=x %18446744073709551616|||y %18446744073709551616
def Hg(x:Nat):Nat:=x*9223372036854775808 %18446744073709551616
theorem PG{a d:Nat}(ha:a<W)(hd:d=0∨d=1):BS (a/2) (Hg d)=a/2+9223372036854775808*d:=by
 have h1:a/2<9223372036854775808:=by simp only[W]at ha;omega
 have h2:a/2 %18446744073709551616=a/2:=Nat.mod_eq_of_lt (by omega);rcases hd with rfl|rfl
 ·simp[BS,Hg,h2]
 ·have:=Nat.two_pow_add_eq_or_of_lt (i:=63) (b:=a/2) (by simpa using h1) 1
  simp only[BS,Hg,h2];rw[show 1*9223372036854775808 %18446744073709551616 %18446744073709551616=2^63*1 by decide,Nat.or_comm,←this];omega
theorem nc{n c:Nat}(hn:n<R)(hc:c=0∨c=1):
 BS (lim n 0/2) (Hg (lim n 1 %2))=lim ((n+R*c)/2) 0∧BS (lim n 1/2) (Hg (lim n 2 %2))=lim ((n+R*c)/2) 1∧
  BS (lim n 2/2) (Hg (lim n 3 %2))=lim ((n+R*c)/2) 2∧BS (lim n 3/2) (Hg c)=lim ((n+R*c)/2) 3:=by
 have h0:=AZ n 0;have h1:=AZ n 1;have h2:=AZ n 2;have h3:=AZ n 3;have b01: ∀x:Nat,x %2=0∨x %2=1:=fun x=>by omega
 rw[PG h0 (b01 _),PG h1 (b01 _),PG h2 (b01 _),PG h3 hc];have hs:=Ek hn
 have e:(n+R*c)/2=(lim n 0/2+9223372036854775808*(lim n 1 %2))+W*((lim n 1/2+9223372036854775808*(lim n 2 %2))+W*((lim n 2/2+9223372036854775808*(lim n 3 %2))+W*((lim n 3/2+9223372036854775808*c)+W*0))):=by
  generalize lim n 0=a0 at *; generalize lim n 1=a1 at *; generalize lim n 2=a2 at *; generalize lim n 3=a3 at*;subst hs;clear hn;simp only[W,R]at*;rcases hc with rfl|rfl<;>omega
 obtain⟨q0,q1,q2,q3,_⟩:=KX (lim n 0/2+9223372036854775808*(lim n 1 %2)) (lim n 1/2+9223372036854775808*(lim n 2 %2)) (lim n 2/2+9223372036854775808*(lim n 3 %2)) (lim n 3/2+9223372036854775808*c) 0
  (by simp only[W]at *; omega) (by simp only[W]at *; omega) (by simp only[W]at *; omega) (by simp only[W]at *; omega)
 rw[e];exact⟨q0.symm,q1.symm,q2.symm,q3.symm⟩
theorem Tm{n c:Nat}(hn:n<R)(hc:c=0∨c=1)(w:World):Calls prog 127 #[N n,.int .u64 (c:Nat)] w fun e w'=>e= .returned (N ((n+R*c)/2))∧Gw w w':=by
 obtain⟨e0,e1,e2,e3⟩:=nc hn hc;have h:=nd (fun x=>x %2) (fun x=>x/2) Hg BS (lim n 0) (lim n 1) (lim n 2) (lim n 3) c w (fun x p q w=>LR x p q w) (fun x p q w=>rS x p q w) (fun x p q w=>rU x p q w) (fun x y p q w=>QZ x y p q w);rw[e0,e1,e2,e3]at h;exact h
theorem Mf(x:Nat):lim x 0 %2=x %2:=by rw[IE];simp only[W];omega
theorem nW{m b x:Nat}(hm:m<R)(hx:x<R)(w:World)(ha:At w b m):Calls prog 128 #[ptr b,N x] w fun e w'=>e= .returned (N (TollMont.halve m x))∧Gw w w':=by
 unfold TollMont.halve;by_cases hp:x %2=0
 ·rw[if_pos hp]
  have A: ∀w',Gw w w'→Calls prog 127 #[N x,.int .u64 0] w' fun e w''=>e= .returned (N (x/2))∧Gw w' w'':=fun w' _=>by
   have:=Tm hx (.inl rfl:(0:Nat)=0∨(0:Nat)=1) w';rw[Nat.mul_zero,Nat.add_zero]at this;exact this
  exact nZ b _ _ _ _ _ _ _ _ w (fun _ p q w=>by have:=LR (lim x 0) p q w;rw[Mf,hp]at this;exact this) A
 ·rw[if_neg hp]
  have hp1:x %2=1:=by omega
  have ho:(x+m)/R=0∨(x+m)/R=1:=by simp only[R]at *; omega
  have A: ∀w',Gw w w'→Calls prog 159 #[N x,N m] w' fun e w''=>e= .returned (.tuple #[N (x+m),.int .u64 ((x+m)/R:Nat)])∧Gw w' w'':=fun w' _=>Qg _ _ hx hm w'
  have B: ∀w',Gw w w'→Calls prog 127 #[N (x+m),.int .u64 ((x+m)/R:Nat)] w' fun e w''=>e= .returned (N ((x+m)/2))∧Gw w' w'':=fun w' _=>by
   have:=Tm (Nat.mod_lt (x+m) (show 0<R by decide)) ho w';rw[Nat.mod_add_div,JJ]at this;exact this
  exact nY b _ _ _ _ _ _ _ _ _ _ _ _ _ _ _ _ _ w ha.m (fun _ p q w=>by have:=LR (lim x 0) p q w;rw[Mf,hp1]at this;exact this) A B
end
theorem cK(x:Nat)(hx:x<9223372036854775808)(p q:Operand)(w:World):(do eqGuard .quo 3 p q (.int .i64 (x:Nat)) (.int .i64 64);binOp .quo 3 (.int .i64 (x:Nat)) (.int .i64 64):Sem Value).run prog w= .ok (.int .i64 (x/64:Nat)) w:=by
 go_simp
 exact Ah (by omega) (by omega)
theorem cJ(x:Nat)(p q:Operand)(w:World):(do eqGuard .rem 3 p q (.int .i64 (x:Nat)) (.int .i64 64);binOp .rem 3 (.int .i64 (x:Nat)) (.int .i64 64):Sem Value).run prog w= .ok (.int .i64 (x %64:Nat)) w:=by
 go_simp
 exact Int.tmod_eq_emod_of_nonneg (by omega)
theorem UZ(x r:Nat)(hr:r<64)(p q:Operand)(w:World):(do eqGuard .shr 49 p q (.int .u64 (x:Nat)) (.int .i64 (r:Nat));binOp .shr 49 (.int .u64 (x:Nat)) (.int .i64 (r:Nat)):Sem Value).run prog w= .ok (.int .u64 (x/2^r:Nat)) w:=by
 go_simp
theorem rX(x:Nat)(h:x<9223372036854775808)(w:World):(convert 49 3 (.int .u64 (x:Nat))).run prog w= .ok (.int .i64 (x:Nat)) w:=by
 go_simp
 exact Ah (by omega) (by omega)
theorem rT(x:Nat)(s:Int)(h0:0≤s)(h1:s<64)(p q:Operand)(w:World):(do eqGuard .shl 49 p q (.int .u64 (x:Nat)) (.int .i64 s);binOp .shl 49 (.int .u64 (x:Nat)) (.int .i64 s):Sem Value).run prog w= .ok (.int .u64 (x*2^s.toNat %18446744073709551616:Nat)) w:=by
 obtain⟨n,rfl⟩:=Int.eq_ofNat_of_zero_le h0
 go_simp
 rw[IntKind.wrap_u64]
theorem rR(x:Nat)(s:Int)(h0:0≤s)(h1:s<64)(p q:Operand)(w:World):(do eqGuard .shr 49 p q (.int .u64 (x:Nat)) (.int .i64 s);binOp .shr 49 (.int .u64 (x:Nat)) (.int .i64 s):Sem Value).run prog w= .ok (.int .u64 (x/2^s.toNat:Nat)) w:=by
 obtain⟨n,rfl⟩:=Int.eq_ofNat_of_zero_le h0
 go_simp
theorem cM(x:Nat)(w:World):(convert 5 49 (.int .u8 (x:Nat))).run prog w= .ok (.int .u64 (x %18446744073709551616:Nat)) w:=by
 go_simp
 exact Fj x
theorem rY(x:Nat)(w:World):(convert 49 5 (.int .u64 (x:Nat))).run prog w= .ok (.int .u8 (x %256:Nat)) w:=by
 go_simp
 rw[IntKind.wrap_u8]
theorem rV(x:Nat)(w:World):(Op.unary .neg (.int .u64 (x:Nat))).run prog w= .ok (.int .u64 ((18446744073709551616-x %18446744073709551616) %18446744073709551616:Nat)) w:=by
 go_simp
 rw[IntKind.wrap_u64];omega
theorem qL(lw:Nat→Nat)(shr:Nat→Int→Nat)(a0 a1 a2 a3:Nat)(w:World)
 (hcv: ∀(x:Nat) (w:World),(convert 49 5 (.int .u64 (x:Nat))).run prog w= .ok (.int .u8 (lw x:Nat)) w)
 (hshr: ∀(x:Nat) (s:Int) (_:0≤s) (_:s<64) (p q:Operand) (w:World),(do eqGuard .shr 49 p q (.int .u64 (x:Nat)) (.int .i64 s);binOp .shr 49 (.int .u64 (x:Nat)) (.int .i64 s):Sem Value).run prog w= .ok (.int .u64 (shr x s:Nat)) w):
 Calls prog 86 #[.agg #[.int .u64 (a0:Nat),.int .u64 (a1:Nat),.int .u64 (a2:Nat),.int .u64 (a3:Nat)]] w fun e w'=>e= .returned (.agg #[.int .u8 (lw (shr a3 56):Nat),.int .u8 (lw (shr a3 48):Nat),.int .u8 (lw (shr a3 40):Nat),.int .u8 (lw (shr a3 32):Nat),.int .u8 (lw (shr a3 24):Nat),.int .u8 (lw (shr a3 16):Nat),.int .u8 (lw (shr a3 8):Nat),.int .u8 (lw (shr a3 0):Nat),.int .u8 (lw (shr a2 56):Nat),.int .u8 (lw (shr a2 48):Nat),.int .u8 (lw (shr a2 40):Nat),.int .u8 (lw (shr a2 32):Nat),.int .u8 (lw (shr a2 24):Nat),.int .u8 (lw (shr a2 16):Nat),.int .u8 (lw (shr a2 8):Nat),.int .u8 (lw (shr a2 0):Nat),.int .u8 (lw (shr a1 56):Nat),.int .u8 (lw (shr a1 48):Nat),.int .u8 (lw (shr a1 40):Nat),.int .u8 (lw (shr a1 32):Nat),.int .u8 (lw (shr a1 24):Nat),.int .u8 (lw (shr a1 16):Nat),.int .u8 (lw (shr a1 8):Nat),.int .u8 (lw (shr a1 0):Nat),.int .u8 (lw (shr a0 56):Nat),.int .u8 (lw (shr a0 48):Nat),.int .u8 (lw (shr a0 40):Nat),.int .u8 (lw (shr a0 32):Nat),.int .u8 (lw (shr a0 24):Nat),.int .u8 (lw (shr a0 16):Nat),.int .u8 (lw (shr a0 8):Nat),.int .u8 (lw (shr a0 0):Nat)])∧Gw w w':=by
 go_enter func86,ntmps86
 refine Dr ?_
 refine t_s (by exact BZ rfl rfl gg zeroValue64) ?_;iterate 3 refine t_k ?_
 refine t_s (by exact BZ rfl rfl gg zeroValue64) ?_;iterate 7 refine t_k ?_
 refine Br 33 ?_
 iterate 32
  refine Bv ?_
  refine t_1 ?_;iterate 14 refine t_k ?_
  iterate 2 refine t_1 ?_
  refine t_8 ?_;refine t_4 ?_;refine t_k ?_;iterate 3 refine t_1 ?_
  refine t_s (by exact AK rfl gg rfl rfl (fun w=>hshr _ _ (by decide) (by decide) _ _ w)) ?_;refine t_s (by exact B1 rfl gg rfl (fun w=>hcv _ w)) ?_;refine VZ ?_;refine t_s (by exact BA rfl gg rfl rfl rfl sizeOf5 rfl (by simp) rfl) ?_;iterate 2 refine t_k ?_
  refine Cw ?_
 refine Bv ?_
 refine HC ?_
 refine As ?_;refine Bv ?_
 refine VY ?_;refine t_s (by exact BA rfl gg rfl rfl rfl sizeOf64 rfl (by simp) rfl) ?_;refine Dx ?_;refine AD (AH results86 (Ac rfl rfl underlying64 rfl sizeOf64 rfl rfl)) ?_;intro w' hg;exact⟨rfl,hg⟩
theorem rE(a0 a1 a2 a3:Nat)(s t:Nat)(i r:Int)(w:World)(h0:decide (i<0)=false)(h1:decide ((256:Int)≤i)=false)
 (hq: ∀(p q:Operand) (w:World),(do eqGuard .quo 3 p q (.int .i64 i) (.int .i64 64);binOp .quo 3 (.int .i64 i) (.int .i64 64):Sem Value).run prog w= .ok (.int .i64 0) w)
 (hr: ∀(p q:Operand) (w:World),(do eqGuard .rem 3 p q (.int .i64 i) (.int .i64 64);binOp .rem 3 (.int .i64 i) (.int .i64 64):Sem Value).run prog w= .ok (.int .i64 r) w)
 (hs: ∀(p q:Operand) (w:World),(do eqGuard .shr 49 p q (.int .u64 (a0:Nat)) (.int .i64 r);binOp .shr 49 (.int .u64 (a0:Nat)) (.int .i64 r):Sem Value).run prog w= .ok (.int .u64 (s:Nat)) w)
 (ha: ∀(p q:Operand) (w:World),(do eqGuard .and 49 p q (.int .u64 (s:Nat)) (.int .u64 1);binOp .and 49 (.int .u64 (s:Nat)) (.int .u64 1):Sem Value).run prog w= .ok (.int .u64 (t:Nat)) w)
 (hc: ∀(w:World),(convert 49 3 (.int .u64 (t:Nat))).run prog w= .ok (.int .i64 (t:Nat)) w):
 Calls prog 136 #[.agg #[.int .u64 (a0:Nat),.int .u64 (a1:Nat),.int .u64 (a2:Nat),.int .u64 (a3:Nat)],.int .i64 i] w fun e w'=>e= .returned (.int .i64 (t:Nat))∧Gw w w':=by
 go_enter func136,ntmps136
 refine GV ?_
 refine OI ?_;refine Eu ?_;refine OQ ?_;refine DF ?_
 refine OD ?_;refine t_8 ?_;refine t_4 ?_;refine t_k ?_;refine OC ?_;refine OB ?_;refine OA ?_;refine t_s (by exact B1 rfl gg rfl (fun w=>hc w)) ?_;iterate 2 refine t_k ?_
 refine AG ?_;refine AD (AH results136 (AF rfl)) ?_;intro w' hg;exact⟨rfl,hg⟩
theorem rD(a0 a1 a2 a3:Nat)(s t:Nat)(i r:Int)(w:World)(h0:decide (i<0)=false)(h1:decide ((256:Int)≤i)=false)
 (hq: ∀(p q:Operand) (w:World),(do eqGuard .quo 3 p q (.int .i64 i) (.int .i64 64);binOp .quo 3 (.int .i64 i) (.int .i64 64):Sem Value).run prog w= .ok (.int .i64 1) w)
 (hr: ∀(p q:Operand) (w:World),(do eqGuard .rem 3 p q (.int .i64 i) (.int .i64 64);binOp .rem 3 (.int .i64 i) (.int .i64 64):Sem Value).run prog w= .ok (.int .i64 r) w)
 (hs: ∀(p q:Operand) (w:World),(do eqGuard .shr 49 p q (.int .u64 (a1:Nat)) (.int .i64 r);binOp .shr 49 (.int .u64 (a1:Nat)) (.int .i64 r):Sem Value).run prog w= .ok (.int .u64 (s:Nat)) w)
 (ha: ∀(p q:Operand) (w:World),(do eqGuard .and 49 p q (.int .u64 (s:Nat)) (.int .u64 1);binOp .and 49 (.int .u64 (s:Nat)) (.int .u64 1):Sem Value).run prog w= .ok (.int .u64 (t:Nat)) w)
 (hc: ∀(w:World),(convert 49 3 (.int .u64 (t:Nat))).run prog w= .ok (.int .i64 (t:Nat)) w):
 Calls prog 136 #[.agg #[.int .u64 (a0:Nat),.int .u64 (a1:Nat),.int .u64 (a2:Nat),.int .u64 (a3:Nat)],.int .i64 i] w fun e w'=>e= .returned (.int .i64 (t:Nat))∧Gw w w':=by
 go_enter func136,ntmps136
 refine GV ?_
 refine OI ?_;refine Eu ?_;refine OQ ?_;refine DF ?_
 refine OD ?_;refine t_8 ?_;refine t_4 ?_;refine t_k ?_;refine OC ?_;refine OB ?_;refine OA ?_;refine t_s (by exact B1 rfl gg rfl (fun w=>hc w)) ?_;iterate 2 refine t_k ?_
 refine AG ?_;refine AD (AH results136 (AF rfl)) ?_;intro w' hg;exact⟨rfl,hg⟩
theorem rC(a0 a1 a2 a3:Nat)(s t:Nat)(i r:Int)(w:World)(h0:decide (i<0)=false)(h1:decide ((256:Int)≤i)=false)
 (hq: ∀(p q:Operand) (w:World),(do eqGuard .quo 3 p q (.int .i64 i) (.int .i64 64);binOp .quo 3 (.int .i64 i) (.int .i64 64):Sem Value).run prog w= .ok (.int .i64 2) w)
 (hr: ∀(p q:Operand) (w:World),(do eqGuard .rem 3 p q (.int .i64 i) (.int .i64 64);binOp .rem 3 (.int .i64 i) (.int .i64 64):Sem Value).run prog w= .ok (.int .i64 r) w)
 (hs: ∀(p q:Operand) (w:World),(do eqGuard .shr 49 p q (.int .u64 (a2:Nat)) (.int .i64 r);binOp .shr 49 (.int .u64 (a2:Nat)) (.int .i64 r):Sem Value).run prog w= .ok (.int .u64 (s:Nat)) w)
 (ha: ∀(p q:Operand) (w:World),(do eqGuard .and 49 p q (.int .u64 (s:Nat)) (.int .u64 1);binOp .and 49 (.int .u64 (s:Nat)) (.int .u64 1):Sem Value).run prog w= .ok (.int .u64 (t:Nat)) w)
 (hc: ∀(w:World),(convert 49 3 (.int .u64 (t:Nat))).run prog w= .ok (.int .i64 (t:Nat)) w):
 Calls prog 136 #[.agg #[.int .u64 (a0:Nat),.int .u64 (a1:Nat),.int .u64 (a2:Nat),.int .u64 (a3:Nat)],.int .i64 i] w fun e w'=>e= .returned (.int .i64 (t:Nat))∧Gw w w':=by
 go_enter func136,ntmps136
 refine GV ?_
 refine OI ?_;refine Eu ?_;refine OQ ?_;refine DF ?_
 refine OD ?_;refine t_8 ?_;refine t_4 ?_;refine t_k ?_;refine OC ?_;refine OB ?_;refine OA ?_;refine t_s (by exact B1 rfl gg rfl (fun w=>hc w)) ?_;iterate 2 refine t_k ?_
 refine AG ?_;refine AD (AH results136 (AF rfl)) ?_;intro w' hg;exact⟨rfl,hg⟩
theorem rB(a0 a1 a2 a3:Nat)(s t:Nat)(i r:Int)(w:World)(h0:decide (i<0)=false)(h1:decide ((256:Int)≤i)=false)
 (hq: ∀(p q:Operand) (w:World),(do eqGuard .quo 3 p q (.int .i64 i) (.int .i64 64);binOp .quo 3 (.int .i64 i) (.int .i64 64):Sem Value).run prog w= .ok (.int .i64 3) w)
 (hr: ∀(p q:Operand) (w:World),(do eqGuard .rem 3 p q (.int .i64 i) (.int .i64 64);binOp .rem 3 (.int .i64 i) (.int .i64 64):Sem Value).run prog w= .ok (.int .i64 r) w)
 (hs: ∀(p q:Operand) (w:World),(do eqGuard .shr 49 p q (.int .u64 (a3:Nat)) (.int .i64 r);binOp .shr 49 (.int .u64 (a3:Nat)) (.int .i64 r):Sem Value).run prog w= .ok (.int .u64 (s:Nat)) w)
 (ha: ∀(p q:Operand) (w:World),(do eqGuard .and 49 p q (.int .u64 (s:Nat)) (.int .u64 1);binOp .and 49 (.int .u64 (s:Nat)) (.int .u64 1):Sem Value).run prog w= .ok (.int .u64 (t:Nat)) w)
 (hc: ∀(w:World),(convert 49 3 (.int .u64 (t:Nat))).run prog w= .ok (.int .i64 (t:Nat)) w):
 Calls prog 136 #[.agg #[.int .u64 (a0:Nat),.int .u64 (a1:Nat),.int .u64 (a2:Nat),.int .u64 (a3:Nat)],.int .i64 i] w fun e w'=>e= .returned (.int .i64 (t:Nat))∧Gw w w':=by
 go_enter func136,ntmps136
 refine GV ?_
 refine OI ?_;refine Eu ?_;refine OQ ?_;refine DF ?_
 refine OD ?_;refine t_8 ?_;refine t_4 ?_;refine t_k ?_;refine OC ?_;refine OB ?_;refine OA ?_;refine t_s (by exact B1 rfl gg rfl (fun w=>hc w)) ?_;iterate 2 refine t_k ?_
 refine AG ?_;refine AD (AH results136 (AF rfl)) ?_;intro w' hg;exact⟨rfl,hg⟩
section
open TollMont
theorem Mg(n k:Nat):lim n (k/64)/2^(k %64) %2=n/2^k %2:=by
 unfold lim;have h1:W=2^(k %64)*2^(64-k %64):=by rw[←Nat.pow_add,show k %64+(64-k %64)=64 by omega]
 have h2:2∣2^(64-k %64):=⟨2^(64-k %64-1),by rw[←Nat.pow_succ'];congr 1;omega⟩
 have h3:W^(k/64)*2^(k %64)=2^k:=by
  rw[show W=2^64 by decide,←Nat.pow_mul,←Nat.pow_add,Nat.div_add_mod]
 rw[←h3,←Nat.div_div_eq_div_mul];generalize n/W^(k/64)=x;rw[h1,Nat.mod_mul_right_div_self,Nat.mod_mod_of_dvd _ h2]
theorem rA(n k:Nat)(hk:k<256)(w:World):Calls prog 136 #[N n,.int .i64 (k:Nat)] w fun e w'=>e= .returned (.int .i64 (n/2^k %2:Nat))∧Gw w w':=by
 have hq:=cK k (by omega);have hr:=cJ k;have hm:k %64<64:=Nat.mod_lt _ (by decide);have h0:decide ((k:Int)<0)=false:=decide_eq_false (by omega);have h1:decide ((256:Int)≤(k:Int))=false:=decide_eq_false (by omega);rw[←Mg n k];have hc:=rX (lim n (k/64)/2^(k %64) %2) (by omega);have hs:=UZ (lim n (k/64)) (k %64) hm;have ha:=LR (lim n (k/64)/2^(k %64));have hj:k/64=0∨k/64=1∨k/64=2∨k/64=3:=by omega
 rcases hj with hj|hj|hj|hj<;>rw[hj]at hq hs ha hc⊢
 ·exact rE _ _ _ _ _ _ _ _ w h0 h1 hq hr hs ha hc
 ·exact rD _ _ _ _ _ _ _ _ w h0 h1 hq hr hs ha hc
 ·exact rC _ _ _ _ _ _ _ _ w h0 h1 hq hr hs ha hc
 ·exact rB _ _ _ _ _ _ _ _ w h0 h1 hq hr hs ha hc
variable{m b:Nat}
theorem HM:lim 0 0=0∧lim 0 1=0∧lim 0 2=0∧lim 0 3=0:=by decide
theorem KW:lim 1 0=1∧lim 1 1=0∧lim 1 2=0∧lim 1 3=0:=by decide
theorem Zt{u:Nat}(hu:u<R):(lim u 0=0∧lim u 1=0∧lim u 2=0∧lim u 3=0)↔u=0:=by
 constructor
 ·rintro⟨a,b,c,d⟩
  exact JI hu (by decide) (a.trans HM.1.symm) (b.trans HM.2.1.symm) (c.trans HM.2.2.1.symm) (d.trans HM.2.2.2.symm)
 ·rintro rfl;exact HM
theorem Zu{u:Nat}(hu:u<R):(lim u 0=1∧lim u 1=0∧lim u 2=0∧lim u 3=0)↔u=1:=by
 constructor
 ·rintro⟨a,b,c,d⟩
  exact JI hu (by decide) (a.trans KW.1.symm) (b.trans KW.2.1.symm) (c.trans KW.2.2.1.symm) (d.trans KW.2.2.2.symm)
 ·rintro rfl;exact KW
open Classical in
theorem Tj(h:Md m){x:Nat}(hx:x<R)(w:World)(ha:At w b m):Calls prog 81 #[ptr b,N x] w fun e w'=>
 e= .returned (if Nat.gcd x m=1 then .tuple #[N (PQ m x),.int .i64 0]else .tuple #[N 0,.int .i64 1])∧Gw w w':=by
 have h0:0<m:=by have:=h.gt;omega
 have hm:=h.lt;have h1:=h.gt
 have key:=m9 b lim x (x %m) m 1 0 w ha.m (fun u=> !decide (lim u 0=0∧lim u 1=0∧lim u 2=0∧lim u 3=0)) (fun u=> !decide (lim u 0=1∧lim u 1=0∧lim u 2=0∧lim u 3=0))
  (fun u=>lim u 0 %2) (fun u=>u/2) (halve m) (fun u v=>decide (u<v)) dif (fun u v=>if u<v then 1 else 0) (Ce m) (InvAt m x) KW HM
  (fun w' hw=>Hu h hx w' (ha.gw hw)) (InvAt.start h.odd h1) (fun u p q w=>Sl _ _ _ _ _ _ _ _ p q w) (fun u p q w=>Sl _ _ _ _ _ _ _ _ p q w) (fun u p q w=>LR _ p q w) ?_ ?_ ?_ ?_ ?_ ?_ ?_ ?_ ?_ ?_
 ·refine key.mono fun e w' ⟨⟨u,v,a,d,hI,hz,hr⟩,hg⟩=>⟨?_,hg⟩
  have hu:u=0:=by
   have:=(Bool.not_eq_false' .. ▸hz:decide (lim u 0=0∧lim u 1=0∧lim u 2=0∧lim u 3=0)=true)
   exact(Zt (by have:=hI.ule;omega)).1 (of_decide_eq_true this)
  subst hu;have hd:=hI.done h1;have hv1:=Zu (u:=v) (by have:=hI.vle;omega);rcases hr with⟨hn,he⟩|⟨hn,he⟩
  ·have hn': ¬v=1:=fun hc=>by
    have:=hv1.2 hc;rw[decide_eq_true this]at hn;cases hn
   rw[if_neg (fun hc=>hn' (hd.1.2 hc)),dA];exact he
  ·have hv:v=1:=by
    have:=(Bool.not_eq_false' .. ▸hn:decide (lim v 0=1∧lim v 1=0∧lim v 2=0∧lim v 3=0)=true)
    exact hv1.1 (of_decide_eq_true this)
   rw[if_pos (hd.1.1 hv),←(hd.2 hv).1];exact he
 ·intro u v a d hI _ hp w' hw
  have:=Tm (n:=u) (by have:=hI.ule;omega) (.inl rfl:(0:Nat)=0∨(0:Nat)=1) w';rw[Nat.mul_zero,Nat.add_zero]at this;exact this
 ·intro u v a d hI _ hp w' hw
  exact nW hm (by have:=hI.xlt;omega) w' (ha.gw hw)
 ·intro u v a d hI _ hp w' hw
  exact S7 u v (by have:=hI.ule;omega) (by have:=hI.vle;omega) w'
 ·intro u v a d hI _ hp _ w' hw
  exact J9 u v (by have:=hI.ule;omega) (by have:=hI.vle;omega) w'
 ·intro u v a d hI _ hp _ w' hw
  exact J9 v u (by have:=hI.vle;omega) (by have:=hI.ule;omega) w'
 ·intro u v a d hI _ hp _ w' hw
  exact Ss h (by have:=hI.xlt;omega) (by have:=hI.ylt;omega) w' (ha.gw hw)
 ·intro u v a d hI _ hp _ w' hw
  exact Ss h (by have:=hI.ylt;omega) (by have:=hI.xlt;omega) w' (ha.gw hw)
 ·intro u v a d hI hz hp
  have hp':u %2=0:=by have:lim u 0 %2=0:=hp;rwa [Mf]at this
  have hu:u≠0:=by rintro rfl;exact absurd hz (by decide)
  refine⟨hI.halved h.odd hp',?_⟩;show u/2+v<u+v;omega
 ·intro u v a d hI hz hp hl
  have hl': ¬u<v:=of_decide_eq_false hl;have hu:u≠0:=by rintro rfl;exact absurd hz (by decide)
  have hv:=hI.vodd;have e:dif u v=u-v:=by unfold dif;rw[if_neg hl']
  rw[e];exact⟨hI.less h1 (by omega),by omega⟩
 ·intro u v a d hI hz hp hl
  have hl':u<v:=of_decide_eq_true hl;have hp':u %2≠0:=by have:lim u 0 %2≠0:=hp;rwa [Mf]at this
  have e:dif v u=v-u:=by unfold dif;rw[if_neg (by omega)]
  rw[e];exact⟨hI.swap h1 (by omega) hl',by omega⟩
def Mb(a x:Nat):Nat:=a*x %18446744073709551616
def Ly(x:Nat):Nat:=(((2:Nat):Int)-(x:Int)) %18446744073709551616 |>.toNat
def Su(x y:Nat):Nat:=x*y %18446744073709551616
theorem KT(a i:Nat):Su (CO a i) (Ly (Mb a (CO a i)))=CO a (i+1):=by
 have hl:a*CO a i %18446744073709551616<18446744073709551616:=Nat.mod_lt _ (by decide)
 have e:Ly (Mb a (CO a i))=(2+W-a*CO a i %W) %W:=by
  unfold Ly Mb;simp only[W];generalize a*CO a i %18446744073709551616=y at*;omega
 rw[e];rfl
theorem gO{m:Nat}(hm:m<R)(h:m≠1):decide (lim m 0=1∧lim m 1=0∧lim m 2=0∧lim m 3=0)=false:=decide_eq_false fun c=>h ((Zu hm).1 c)
def p2(a k:Nat):Nat:=a^k
theorem kT(a k:Nat):p2 a (k+1)=p2 a k*a:=Nat.pow_succ a k
theorem kU(a j k:Nat):p2 a (j+k)=p2 a j*p2 a k:=Nat.pow_add a j k
variable{m:Nat}
theorem YW(h:Md m)(w:World):Calls prog 126 #[N m] w fun e w'=> ∃g,w.heap.size≤g∧e= .returned (.tuple #[ptr g,.int .i64 0])∧w'.heap[g]? =some (.cells (Ck m).toArray 199 (0,0))∧Gw w w':=by
 have h0:0<m:=by have:=h.gt;omega
 have hm:=h.lt;have hodd:lim m 0 %2=1:=(Mf m).trans h.odd;have pw: ∀i,(p2 2 i %m+p2 2 i %m) %m=p2 2 (i+1) %m:=fun i=>by rw[←Nat.add_mod,kT,Nat.mul_two]
 have pR:p2 2 256=R:=by unfold p2;decide
 have ho: ∀x,x<m→(x+x)/R=0∨(x+x)/R=1:=fun x hx=>by simp only[R]at *; omega
 have key:=lO lim m 1 0 (Gn (lim m 0)) w (Mb (lim m 0)) Ly Su (fun x=>x+x) (fun x=>(x+x)/R) (fun x=>(x+x) %m)
  (fun i x o=>x=p2 2 i %m∧(i≤256→o=0)∧(256<i→o=R %m)) HM (fun p q w=>by have:=LR (lim m 0) p q w;rw[hodd]at this;exact this)
  (fun p q w=>by have:=NX 147 (.inl rfl) (lim m 0) (lim m 1) (lim m 2) (lim m 3) 1 0 0 0 p q w;rw[gO hm (by have:=h.gt;omega)]at this;exact this)
  (fun x p q w=>Qa _ x p q w) (fun p q w=>Qa _ 1 p q w) (fun x p q w=>UY 2 x p q w) (fun x y p q w=>Qa x y p q w) (fun y p q w=>Qa 1 y p q w) ?_ ?_ ?_ ?_ ?_ ?_ ?_
 ·refine key.mono fun e w' ⟨x,o,g,hR,h1,h2,he,hg⟩=>⟨g,h1,he,?_,hg⟩
  obtain⟨hx,_,hoo⟩:=hR;rw[show p2 2 512=p2 2 (256+256) from rfl,kU,pR]at hx;rw[hx,hoo (by omega)]at h2;exact h2
 ·intro w
  have e1:Su 1 (Ly (Mb (lim m 0) 1))=CO (lim m 0) 1:=KT (lim m 0) 0;have e2:=KT (lim m 0) 1;have e3:=KT (lim m 0) 2;have e4:=KT (lim m 0) 3;have e5:=KT (lim m 0) 4;have e6:=KT (lim m 0) 5;simp only[e1,e2,e3,e4,e5,e6];have hb:=rV (CO (lim m 0) 6) w;have hl:=Zw (lim m 0) 6;have hp:=nC hodd
  have:(18446744073709551616-CO (lim m 0) 6 %18446744073709551616) %18446744073709551616=Gn (lim m 0):=by
   unfold Gn;simp only[W]at *; omega
  rw[this]at hb;exact hb
 ·intro w' g hc
  have:=OY g m 1 0 hm (by decide) (.inl rfl) w' hc;rw[if_pos ⟨rfl,h.gt⟩,Qo]at this;exact this
 ·intro i x o _ hR w' _
  have hx:x<m:=hR.1▸Nat.mod_lt _ h0;exact Qg x x (by omega) (by omega) w'
 ·intro i x o _ hR w' g hc
  have hx:x<m:=hR.1▸Nat.mod_lt _ h0;have hr:=Nat.mod_lt (x+x) (show 0<R by decide);have hlt:(x+x) %R+R*((x+x)/R)<2*m:=by rw[Nat.mod_add_div];omega
  have:=OY g m ((x+x) %R) ((x+x)/R) hm hr (ho x hx) w' hc;rw[Rn hm hr (ho x hx) hlt,Nat.mod_add_div,JJ]at this;exact this
 ·exact⟨(Nat.mod_eq_of_lt h.gt).symm,fun _=>rfl,fun c=>by omega⟩
 ·rintro i x o _ hi ⟨hx,h1,h2⟩
  exact⟨by show(x+x) %m=_;rw[hx,pw],fun c=>h1 (by omega),fun c=>h2 (by omega)⟩
 ·rintro x o ⟨hx,_,_⟩
  exact⟨by show(x+x) %m=_;rw[hx,pw],fun c=>by omega,fun _=>by rw[hx,pR]⟩
end
end Go.Proofs.YtafbhakmkbehiaaGreatDoor
namespace Go.Toll
open Go.RowKit Go.ChangeShapes Go.WideShapes Go.ChangeAt
variable{parts:Array (Nat×Operand)}{xs:Array Operand}{ats:Array TypeId}{cells:Array Value}{b:Blk}{f:FuncId}{ps:List MemPlace}{vs:List Value}{id id2 off off2:Nat}{a x:Operand}{d:TypeDesc}{ty:TypeId}{v:Value}
section
variable{P:Program}{w0:World}{ops:Array Oper}{o:Oper}{s:VS}
def CG:List (Nat×SV)→Option (List (Nat×Value))
 | []=>some []
 |(i,.v x)::l=>match CG l with|some r=>some ((i,x)::r)|none=>none
 |_::_=>none
theorem Il: ∀{l:List (Nat×SV)} {r:List (Nat×Value)},CG l=some r→ ∀ρ,l.map (fun x=>(x.1,x.2.c ρ))=r
 | [],r,h,_=>by simp[CG]at h;subst h;rfl
 |(i,.v x)::l,r,h,ρ=>by
  simp only[CG]at h;cases hl:CG l with
  |none=>rw[hl]at h;cases h
  |some q=>rw[hl]at h;simp only[Option.some.injEq]at h;subst h;exact congrArg _ (Il hl ρ)
 |(_,.p _ _)::_,_,h,_=>by simp[CG]at h
 |(_,.s _ _ _ _)::_,_,h,_=>by simp[CG]at h
 |(_,.tp _ _ _)::_,_,h,_=>by simp[CG]at h
 |(_,.ap _ _)::_,_,h,_=>by simp[CG]at h
theorem A6{pl:List (Nat×Value)}(ho:o.op= .build ty parts)(hgd: ∀ρ,Region.wanted o (yielded ops (s.act ρ).tmps)=true)
 (hx:CG (parts.toList.map fun x=>(x.1,AE s x.2))=some pl)(hb:P.built ty pl=some cells):Ev P ops w0 o s ⟨.v (.agg cells),.none,[]⟩:=
 .run _ _ hgd fun ρ w _=>by
  have h1:(parts.map fun(i,x)=>(i,(s.act ρ).eval x)).toList=pl:=by
   rw[←Il hx ρ];simp only[Array.toList_map,List.map_map];exact List.map_congr_left fun x _=>by simp only[Function.comp_apply,AI]
  have h2:=run_build w ty (parts.map fun(i,x)=>(i,(s.act ρ).eval x)) cells (by rw[h1];exact hb);simp only[execOp,ho,SV.c];rw[Sem.run_bind,h2];rfl
theorem CY{c b:Operand}(ho:o.op= .pick c a b)(hgd: ∀ρ,Region.wanted o (yielded ops (s.act ρ).tmps)=true)(hc:AE s c= .v (.bool true))(ha:AE s a= .v v):Ev P ops w0 o s ⟨.v v,.none,[]⟩:=
 .run _ _ hgd fun ρ w _=>by
  have e1:=AI s ρ c;rw[hc]at e1;have e2:=AI s ρ a;rw[ha]at e2;simp[execOp,ho,e1,e2,SV.c,asBool]
theorem Ca{c b:Operand}(ho:o.op= .pick c a b)(hgd: ∀ρ,Region.wanted o (yielded ops (s.act ρ).tmps)=true)(hc:AE s c= .v (.bool false))(hb:AE s b= .v v):Ev P ops w0 o s ⟨.v v,.none,[]⟩:=
 .run _ _ hgd fun ρ w _=>by
  have e1:=AI s ρ c;rw[hc]at e1;have e2:=AI s ρ b;rw[hb]at e2;simp[execOp,ho,e1,e2,SV.c,asBool]
theorem D7{p:Bool}(ho:o.op= .unOp .not ty x)(hgd: ∀ρ,Region.wanted o (yielded ops (s.act ρ).tmps)=true)(hx:AE s x= .v (.bool p)):Ev P ops w0 o s ⟨.v (.bool (!p)),.none,[]⟩:=
 NR ho hgd hx fun w=>by simp[Op.unary]
theorem oh{i:Nat}(ho:o.op= .build ty #[(i,x)])(hgd: ∀ρ,Region.wanted o (yielded ops (s.act ρ).tmps)=true)(hx:AE s x= .p id off)
 (hb: ∀g,P.built ty [(i,.pointer (some ⟨g,off,none⟩))]=some #[.pointer (some ⟨g,off,none⟩)]):Ev P ops w0 o s ⟨.ap id off,.none,[]⟩:=
 .run _ _ hgd fun ρ w _=>by
  have e1:=AI s ρ x;rw[hx]at e1;have h2:=run_build w ty #[(i,(s.act ρ).eval x)] _ (by rw[e1];exact hb (ρ id));simp only[execOp,ho,SV.c];rw[Sem.run_bind];have h3:(#[(i,x)]:Array (Nat×Operand)).map (fun(i,x)=>(i,(s.act ρ).eval x))= #[(i,(s.act ρ).eval x)]:=by simp
  rw[h3,h2];rfl
theorem Tq{y:Operand}(ho:o.op= .store ty x y)(hgd: ∀ρ,Region.wanted o (yielded ops (s.act ρ).tmps)=true)(hx:AE s x= .p id off)(hm:s.mem id=some b)(hy:AE s y= .ap id2 off2)
 (hs: ∀w,(Go.sizeOf ty).run P w= .ok 1 w)(hfit:off+1≤b.1.length):
 Ev P ops w0 o s ⟨.v undef,.wr id (b.1.take off++[.p id2 off2]++b.1.drop (off+1),b.2),[id]⟩:=
 .wr id _ hgd (by rw[hm];rfl) fun ρ w hw=>by
  have e1:=AI s ρ x;rw[hx]at e1;have e2:=AI s ρ y;rw[hy]at e2;obtain⟨_,hb⟩:=hw.2 id b (by simp) hm;have hst:=run_storeCells_at P (ρ id) off b.2 [.pointer (some ⟨ρ id2,off2,none⟩)] 0 (b.1.map (SV.c ρ)).toArray w hb (by simp;omega) (fun u hu=>by simp at hu;subst hu;rfl);refine⟨w.setRow (ρ id) ((b.1.map (SV.c ρ)).toArray.toList.take (off+0)++[Value.pointer (some ⟨ρ id2,off2,none⟩)]++(b.1.map (SV.c ρ)).toArray.toList.drop (off+0+1)).toArray,?_,?_,?_⟩
  ·simp only[execOp,ho,e1,e2,SV.c,Instr.storeAt,Instr.sureAddr,storeVar]
   rw[Sem.run_bind,Sem.run_bind,Sem.run_pure,Result.andThen_ok,Sem.run_bind,hs,Result.andThen_ok,if_neg (by simp[Value.cells])];have hst':=hst;simp only[Value.cells]at hst'⊢;rw[hst'];rfl
  ·exact⟨rfl,rfl,rfl,by simp,fun k hk=>setRow_other w _ k _ hk,fun a=>by
    by_cases ha:a.block=ρ id
    ·simp[World.frozen?,ha,hb,cellsOf,setRow_heap w (ρ id) _ _ _ _ hb]
    ·simp[World.frozen?,setRow_other w (ρ id) a.block _ ha]⟩
  ·rw[setRow_heap w (ρ id) _ _ _ _ hb]
   simp[cellsOf,SV.c,List.map_take,List.map_drop]
theorem oJ(ho:o.op= .load ty x)(hgd: ∀ρ,Region.wanted o (yielded ops (s.act ρ).tmps)=true)(hx:AE s x= .p id off)(hm:s.mem id=some b)
 (hu:P.underlying ty=some d)(hd:Ba d=true)(hs: ∀w,(Go.sizeOf ty).run P w= .ok 1 w)(hv:b.1[off]? =some (.p id2 off2)):Ev P ops w0 o s ⟨.ap id2 off2,.none,[id]⟩:=
 .run _ _ hgd fun ρ w hw=>by
  have h1:=AI s ρ x;rw[hx]at h1;obtain⟨_,hb⟩:=hw.2 id b (by simp) hm
  have hl':(loadCells ⟨ρ id,off,none⟩ 1).run P w= .ok #[.pointer (some ⟨ρ id2,off2,none⟩)] w:=run_loadCells_list w _ [.pointer (some ⟨ρ id2,off2,none⟩)] fun j v hj=>by
   rw[Bd]
   match j,hj with
   |0,hj=>
    simp at hj;subst hj;simp only[World.cell?,hb,cellsOf];simp[hv,SV.c]
  simp[execOp,ho,h1,SV.c,Instr.loadAt,Instr.sureAddr,loadVar,Bp hu,hd,hs,hl']
theorem QE(_hd:o.dst=some id)(ho:o.op= .call {callee:= .value (.func f),args:=xs,argTypes:=ats})(hgd: ∀ρ,Region.wanted o (yielded ops (s.act ρ).tmps)=true)
 (hx:unV (xs.toList.map (AE s))=some vs)(he: ∀args w,(callFunc f args).run P w= .ok (.enter f args) w)(cs:List Value)(ty:TypeId)
 (hc: ∀w,Gw w0 w→Calls P f vs.toArray w fun e w'=> ∃g,w.heap.size≤g∧e= .returned (.agg #[.pointer (some ⟨g,0,none⟩)])∧w'.heap[g]? =some (.cells cs.toArray ty (0,0))∧Gw w w'):
 Ev P ops w0 o s ⟨.ap id 0,.new id (cs.map .v,ty),[]⟩:=
 .callnew f (fun _=>vs.toArray) (.ap id 0) [] id (cs.map .v,ty) hgd (by simp[SV.has]) (fun ρ w _=>by
  obtain⟨dst,op,type,pos,after,guard⟩:=o;simp only at ho;subst ho;rw[execOp_call_go,G8 hx];simpa using he vs.toArray w) fun ρ w hs=>(hc w hs.1).mono fun e w' ⟨g,h1,h2,h3,h4⟩=>⟨g,h1,by simp[h2,SV.c],by rw[h3];simp[cellsOf,Function.comp_def,SV.c],h4⟩
theorem kE{fn:Func}{R:Ending→World→Prop}{a ty bid:Nat}{bb:Blk}{cs:List Value}(hf:fn.results= #[.cell a ty])(ha:AE s (.tmp a)= .p bid off)(hbm:s.mem bid=some bb)(hu:P.underlying ty=some d)(hd:Ba d=true)(hs: ∀w,(Go.sizeOf ty).run P w= .ok 1 w)
 (hv:bb.1[off]? =some (.p id 0))(hm:s.mem id=some b)(hb:unV b.1=some cs)
 (hR: ∀g w,w0.heap.size≤g→w.heap[g]? =some (.cells cs.toArray b.2 (0,0))→Gw w0 w→R (.returned (.agg #[.pointer (some ⟨g,0,none⟩)])) w): ∀ρ w,Rel w0 ρ s w→bodyPost P fn R .ret (s.act ρ) w:=fun ρ w hr=>by
 obtain⟨h1,h2⟩:=hr.own id b hm;obtain⟨_,h3⟩:=hr.own bid bb hbm;refine⟨rfl,_,?_,hR (ρ id) w h1 (by rw[h2];simp[cellsOf,Eb hb,Function.comp_def,SV.c]) hr.gw⟩;rw[Ht,hf]
 have hl':(loadCells ⟨ρ bid,off,none⟩ 1).run P w= .ok #[.pointer (some ⟨ρ id,0,none⟩)] w:=run_loadCells_list w _ [.pointer (some ⟨ρ id,0,none⟩)] fun j v hj=>by
  rw[Bd]
  match j,hj with
  |0,hj=>
   simp at hj;subst hj;simp only[World.cell?,h3,cellsOf];simp[hv,SV.c]
 have e1:(DW (s.act ρ).tmps (.cell a ty)).run P w= .ok (.agg #[.pointer (some ⟨ρ id,0,none⟩)]) w:=by
  simp only[DW,Gy,ha,SV.c];simp[asAddr,loadVar,Bp hu,hd,hs,hl']
 simp[e1]
end
theorem mB{α:Type}{n:Nat}{p:Nat→α→Prop}(h: ∀i,i<n→ ∃z,p i z): ∃zs:List α,zs.length=n∧ ∀i z,zs[i]? =some z→p i z:=by
 induction n with
 |zero=>exact⟨[],rfl,fun i z hz=>by simp at hz⟩
 |succ n ih=>
  obtain⟨zs,hl,hp⟩:=ih fun i hi=>h i (by omega)
  obtain⟨z,hz⟩:=h n (by omega);refine⟨zs++[z],by simp[hl],fun i y hy=> ?_⟩;by_cases hi:i<zs.length
  ·rw[List.getElem?_append_left hi]at hy;exact hp i y hy
  ·rw[List.getElem?_append_right (by omega)]at hy
   have hi0:i-zs.length=0:=by
    apply Classical.byContradiction;intro hne;rw[List.getElem?_eq_none (by simp;omega)]at hy;cases hy
   rw[hi0]at hy;simp at hy;subst hy;obtain rfl:i=n:=by omega
   exact hz
section
variable{H:Type}{enc:TypeId×Value→H}{P:Program}{w:World}{base:Nat}{sp:Nat→Bool}{held:Bool}{t e:TypeId}{n:Nat}{k:IntKind}
theorem open_ints{r:Reach}{b0:Nat}{d:DataW H}(ht:P.underlying t=some (.array n e))(he:P.underlying e=some (.int k))(hce:P.cellsOf e=1)(hct:P.cellsOf t=n)
 (hv:Value.okWide P w r b0 t v)(hd:DataW.Trod enc P w base sp held t v d ps):
 ∃zs:List Int,zs.length=n∧v= .agg (zs.map (Value.int k)).toArray∧d= .agg (zs.map fun z=> .lit (.int k z))∧ps=[]∧ ∀z∈zs,(Lit.int k z).wf=true:=by
 simp only[Value.okWide,ht]at hv;obtain⟨cs,rfl,hcs,_⟩:=hv;rw[hct]at hcs;obtain⟨fuel,hf⟩:=hd;obtain⟨xs,m,rfl,hx,_,hxl,hi⟩:=DataW.trod_array ht hf;simp only[hce,Nat.mul_one,Value.cells]at hi
 have hz: ∀i,i<n→ ∃z:Int,cs.toList[i]? =some (.int k z)∧xs[i]? =some (.lit (.int k z),[])∧(Lit.int k z).wf=true:=fun i hin=>by
  have h1:=hi i hin;rw[List.getElem?_eq_getElem (by omega)]at h1;obtain⟨z,h2,h3,h4⟩:=DataW.trod_int he h1;have hic:i<cs.toList.length:=by simp[hcs];exact hin
  refine⟨z,?_,by rw[List.getElem?_eq_getElem (by omega),h3],h4⟩;rw[List.drop_eq_getElem_cons hic]at h2;simp at h2;rw[List.getElem?_eq_getElem hic];simpa using h2
 obtain⟨zs,hl,hp⟩:=mB hz
 have e1:cs.toList=zs.map (Value.int k):=by
  apply List.ext_getElem?;intro i;by_cases hin:i<n
  ·obtain⟨h1,_,_⟩:=hp i zs[i] (by simp[hl,hin])
   rw[h1];simp[hl,hin]
  ·rw[List.getElem?_eq_none (by simp[hcs];omega),List.getElem?_eq_none (by simp[hl];omega)]
 have e2:xs=zs.map fun z=>((.lit (.int k z):DataW H),([]:List MemPlace)):=by
  apply List.ext_getElem?;intro i;by_cases hin:i<n
  ·obtain⟨_,h1,_⟩:=hp i zs[i] (by simp[hl,hin])
   rw[h1];simp[hl,hin]
  ·rw[List.getElem?_eq_none (by omega),List.getElem?_eq_none (by simp[hl];omega)]
 simp only[Prod.mk.injEq]at hx;refine⟨zs,hl,by rw[←e1],by rw[hx.1,e2];simp[Function.comp_def],by rw[hx.2,e2];simp[List.flatMap_eq_nil_iff],fun z hz=> ?_⟩;obtain⟨i,hi',rfl⟩:=List.getElem_of_mem hz;exact(hp i zs[i] (by simp[hi'])).2.2
end
end Go.Toll
