import Derived.Lib.MakeNoZero
import Derived.Great.BuildSlice
import Derived.ChangeKeysEq
import Derived.WideShapes
import Derived.Laws.MakeOwn
import Derived.Test.YtafbhakmkbehiaaGreatDoorW7
open Go.Proofs.Tryz
set_option maxHeartbeats 4000000
set_option maxRecDepth 100000
namespace Go.Proofs.YtafbhakmkbehiaaGreatDoor
section
open Go.RowKit Go.Toll TollMont
def pl(x y:Nat):Nat:=(x+y) %18446744073709551616
def mi(x y:Nat):Nat:=(((x:Int)-(y:Int)) %18446744073709551616).toNat
def ltB(x y:Nat):Bool:=decide (x<y)
def eqB(x:Nat):Bool:=decide (x=1)
theorem QM{a b c:Nat}(h:a<W)(i:b<W)(j:c<=1):pl (pl a b) c=(a+b+c) %W/\bn ((false||ltB (pl a b) a)||ltB (pl (pl a b) c) (pl a b))=(a+b+c)/W:=by
 unfold pl ltB bn;simp only[W]at*;refine⟨by omega,?_⟩
 by_cases d:(a+b) %18446744073709551616<a<;>by_cases g:((a+b) %18446744073709551616+c) %18446744073709551616<(a+b) %18446744073709551616<;>
  simp only[d,g,decide_true,decide_false,Bool.or_false,Bool.or_true,zG,Bool.false_eq_true,if_false]<;>omega
theorem QN{a b c:Nat}(h:a<W)(i:b<W)(j:c<=1):mi (mi a b) c=(a+W-b-c) %W/\bn ((false||ltB a b)||ltB (mi a b) c)=if a<b+c then 1 else 0:=by
 have e:mi a b=if a<b then a+W-b else a-b:=by unfold mi;simp only[W]at *; split<;>omega
 unfold ltB bn;rw[e];unfold mi;simp only[W]at*;refine⟨by split<;>omega,?_⟩;by_cases d:a<b
 .simp only[d,decide_true,Bool.false_or,Bool.true_or,zG];rw[x9 (by omega)]
 .simp only[d,decide_false,Bool.false_or,if_false]
  by_cases g:a-b<c
  .simp only[g,decide_true,zG];rw[x9 (by omega)]
  .simp only[g,decide_false,Bool.false_eq_true,if_false];rw[x8 (by omega)]
theorem Xk(n m:Nat)(j:n<R)(i:m<R)(w:World):CGy 187 #[N n,N m] w (.tuple #[N (n+m),.bool (decide ((n+m)/R=1))]):=by
 obtain⟨l,v⟩:=QM (AZ n 0) (AZ m 0) (y6 1);have l0:(lim n 0+lim m 0+0)/W<=1:=by have:=AZ n 0;have:=AZ m 0;simp only[W]at *; omega
 obtain⟨r,z⟩:=QM (AZ n 1) (AZ m 1) l0;have l1:(lim n 1+lim m 1+(lim n 0+lim m 0+0)/W)/W<=1:=by have:=AZ n 1;have:=AZ m 1;simp only[W]at *; omega
 obtain⟨p2,A⟩:=QM (AZ n 2) (AZ m 2) l1;have l2:(lim n 2+lim m 2+(lim n 1+lim m 1+(lim n 0+lim m 0+0)/W)/W)/W<=1:=by have:=AZ n 2;have:=AZ m 2;simp only[W]at *; omega
 obtain⟨u,B⟩:=QM (AZ n 3) (AZ m 3) l2;have h:=kF pl ltB eqB (lim n 0) (lim n 1) (lim n 2) (lim n 3) (lim m 0) (lim m 1) (lim m 2) (lim m 3) w (λx y p q w=>cN x y p q w) (λx p q w=>cN x 0 p q w) (λx y p q w=>IY x y p q w) (λx p q w=>IY x 0 p q w) (λx p q w=>rW x p q w);rw[v,l,z,r,A,p2,B,u]at h;obtain⟨e0,e1,c,d,g⟩:=cY n m j i _ _ _ _ _ _ _ _ (rfl:(lim n 0+lim m 0+0) %W=_) (rfl:(lim n 0+lim m 0+0)/W=_) rfl rfl rfl rfl rfl rfl;rw[e0,e1,c,d,g]at h;exact h
theorem Sw(n m:Nat)(i:n<R)(g:m<R)(w:World):CGy 188 #[N n,N m] w (N (dif n m)):=by
 have b1:∀a b:Nat,(if a<b then 1 else 0:Nat)<=1:=λa b=>by split<;>omega
 obtain⟨j,u⟩:=QN (AZ n 0) (AZ m 0) (y6 1);obtain⟨l,v⟩:=QN (AZ n 1) (AZ m 1) (b1 (lim n 0) (lim m 0+0));obtain⟨p2,z⟩:=QN (AZ n 2) (AZ m 2) (b1 (lim n 1) (lim m 1+(if lim n 0<lim m 0+0 then 1 else 0)));obtain⟨r,B⟩:=QN (AZ n 3) (AZ m 3) (b1 (lim n 2) (lim m 2+(if lim n 1<lim m 1+(if lim n 0<lim m 0+0 then 1 else 0)then 1 else 0)));have h:=ll mi ltB (lim n 0) (lim n 1) (lim n 2) (lim n 3) (lim m 0) (lim m 1) (lim m 2) (lim m 3) w (λx y p q w=>UY x y p q w) (λx p q w=>UY x 0 p q w) (λx y p q w=>IY x y p q w) (λx p q w=>IY x 0 p q w);rw[u,j,v,l,z,p2,r]at h;obtain⟨e0,e1,c,d,A⟩:=Vj n m i g _ _ _ _ _ _ _ _ rfl rfl rfl rfl rfl rfl rfl rfl;rw[e0,e1,c,d]at h;exact h
theorem Gm{x y:Nat}(h:x=y):BOy .neq 49 (.int .u64 (x:Nat)) (.int .u64 (y:Nat)) (.bool false):=by
 intro p q w
 have:=cL x y p q w;rw[yE h]at this;exact this
theorem PM{x y:Nat}(h:x≠y):BOy .neq 49 (.int .u64 (x:Nat)) (.int .u64 (y:Nat)) (.bool true):=by
 intro p q w
 have:=cL x y p q w;rw[yB h]at this;exact this
theorem Of(n m:Nat)(l:n<R)(j:m<R)(w:World):CGy 162 #[N n,N m] w (.bool (decide (n<m))):=by
 have i:=Ek l;have h:=Ek j;have B:=AZ n 0;have C:=AZ n 1;have D:=AZ n 2;have E:=AZ n 3;have u:=AZ m 0;have v:=AZ m 1;have z:=AZ m 2;have A:=AZ m 3;by_cases c:lim n 3=lim m 3
 .by_cases d:lim n 2=lim m 2
  .by_cases g:lim n 1=lim m 1
   .by_cases r:lim n 0=lim m 0
    .rw[yB (show¬n<m by rw[i,h,r,g,d,c];omega)]
     exact gI _ _ _ _ _ _ _ _ w (Gm c) (Gm d) (Gm g) (Gm r)
    .rw[show decide (n<m)=decide (lim n 0<lim m 0) from zM.2 (by
     generalize lim n 0=a0 at *; generalize lim n 1=a1 at *; generalize lim n 2=a2 at *; generalize lim n 3=a3 at*;generalize lim m 0=c0 at *; generalize lim m 1=c1 at *; generalize lim m 2=c2 at *; generalize lim m 3=c3 at*;subst g d c i h;clear l j;simp only[W]at *; omega)]
     exact gM _ _ _ _ _ _ _ _ _ w (Gm c) (Gm d) (Gm g) (PM r) (λp q w=>IY _ _ p q w)
   .rw[show decide (n<m)=decide (lim n 1<lim m 1) from zM.2 (by
     generalize lim n 0=a0 at *; generalize lim n 1=a1 at *; generalize lim n 2=a2 at *; generalize lim n 3=a3 at*;generalize lim m 0=c0 at *; generalize lim m 1=c1 at *; generalize lim m 2=c2 at *; generalize lim m 3=c3 at*;subst c d i h;clear l j;simp only[W]at *; omega)]
    exact gL _ _ _ _ _ _ _ _ _ w (Gm c) (Gm d) (PM g) (λp q w=>IY _ _ p q w)
  .rw[show decide (n<m)=decide (lim n 2<lim m 2) from zM.2 (by
    generalize lim n 0=a0 at *; generalize lim n 1=a1 at *; generalize lim n 2=a2 at *; generalize lim n 3=a3 at*;generalize lim m 0=c0 at *; generalize lim m 1=c1 at *; generalize lim m 2=c2 at *; generalize lim m 3=c3 at*;subst c i h;clear l j;simp only[W]at *; omega)]
   exact gK _ _ _ _ _ _ _ _ _ w (Gm c) (PM d) (λp q w=>IY _ _ p q w)
 .rw[show decide (n<m)=decide (lim n 3<lim m 3) from zM.2 (by
   generalize lim n 0=a0 at *; generalize lim n 1=a1 at *; generalize lim n 2=a2 at *; generalize lim n 3=a3 at*;generalize lim m 0=c0 at *; generalize lim m 1=c1 at *; generalize lim m 2=c2 at *; generalize lim m 3=c3 at*;subst i h;clear l j;simp only[W]at *; omega)]
  exact gJ _ _ _ _ _ _ _ _ _ w (PM c) (λp q w=>IY _ _ p q w)
variable{m:Nat}
theorem L5(h:Md m){a b:Nat}(u:a<m)(v:b<m)(w:World):CGy 186 #[N a,N b,N m] w (N ((a+b) %m)):=by
 have j:=h.lt;have r:=yJ (a+b) (show 0<R by decide);have A:∀d,Gw w d->CGy 187 #[N a,N b] d (.tuple #[N (a+b),.bool (decide ((a+b)/R=1))]):=λd _=>Xk a b (by omega) (by omega) d
 have L:∀d,Gw w d->CGy 162 #[N (a+b),N m] d (.bool (decide ((a+b) %R<m))):=λd _=>by
  have:=Of _ _ r j d;rw[JJ]at this;exact this
 have M:∀d,Gw w d->CGy 188 #[N (a+b),N m] d (N (dif ((a+b) %R) m)):=λd _=>by
  have:=Sw _ _ r j d;rw[JJ]at this;exact this
 by_cases l:(a+b)/R=1
 .rw[yE l]at A
  have e:dif ((a+b) %R) m=(a+b) %m:=by
   have:=Rn j r (.inr l) (by rw[zL];omega);rw[x8 (λc=>by omega),zL]at this;exact this
  rw[e]at M;exact iY _ _ _ _ _ _ _ _ _ _ _ _ _ _ _ _ _ _ _ _ w A M
 .rw[yB l]at A
  have i:a+b<R:=by simp only[R]at *; omega
  have em:(a+b) %R=a+b:=yP i;rw[em]at L M;by_cases g:a+b<m
  .rw[yE g]at L
   rw[yP g];exact ia _ _ _ _ _ _ _ _ _ _ _ _ _ _ _ _ w A L
  .rw[yB g]at L
   have e:dif (a+b) m=(a+b) %m:=by unfold dif;rw[x8 g,Nat.mod_eq_sub_mod (by omega),yP (by omega)]
   rw[e]at M;exact iZ _ _ _ _ _ _ _ _ _ _ _ _ _ _ _ _ _ _ _ _ w A L M
theorem Ys(x k:Nat)(c:k<256):([.v (.int .u64 (lim x 0:Nat)),.v (.int .u64 (lim x 1:Nat)),.v (.int .u64 (lim x 2:Nat)),.v (.int .u64 (lim x 3:Nat))]:List SV)[k/64]? =some (.v (.int .u64 (lim x (k/64):Nat))):=by
 have hj:k/64=0\/k/64=1\/k/64=2\/k/64=3:=by omega
 rcases hj with hj|hj|hj|hj<;>rw[hj]<;>rfl
theorem am(k:Nat):((k+1:Nat):Int)-1=(k:Int):=by omega
theorem Z1(k:Nat)(c:k<256):BOy .quo 3 (.int .i64 (((k+1:Nat):Int)-1)) (.int .i64 64) (.int .i64 (k/64:Nat)):=by
 intro p q w
 rw[am];exact cK k (by omega) p q w
theorem Z0(k:Nat):BOy .rem 3 (.int .i64 (((k+1:Nat):Int)-1)) (.int .i64 64) (.int .i64 (k %64:Nat)):=by
 intro p q w
 rw[am];exact cJ k p q w
theorem Lz(h:Md m){x:Nat}(v:x<R)(w:World):CGy 185 #[N x,N m] w (N (x %m)):=by
 have r:0<m:=by have:=h.gt;omega
 refine fl lim x m (x %m) 0 w (λk=>lim x (k/64)/2^(k %64) %2) (λk=>k/64) (λk=>lim x (k/64)) (λk=>k %64) (λk=>lim x (k/64)/2^(k %64)) (λy=>(y+y) %m) (λy=>((y+y) %m+1) %m) id
  (λk y=>y=x/2^k %m) HM (λk i p q w=>Z1 k i p q w) (λk i=>by omega) (λk i=>Ys x k i) (λk p q w=>Z0 k p q w) (λk p q w=>UZ _ _ (yJ _ (by decide)) p q w) (λk p q w=>cI _ p q w) ?_ ?_ ?_ ?_ ?_ ?_
 .show 0=x/2^256 %m
  rw[VN v,Nat.zero_mod]
 .intro k y _ d l _
  have u:y<m:=d▸yJ _ r;exact L5 h u u l
 .intro k y _ d _ l _
  have:=L5 h (yJ (y+y) r) h.gt l;rw[Qo]at this;exact this
 .intro k y _ d j
  have g:x/2^k %2=1:=(Mg x k).symm.trans j;have:=WI x m k;rw[g,<-show y=x/2^(k+1) %m from d]at this;exact this
 .intro k y _ d j
  have g:x/2^k %2=0:=by have z:x/2^k %2≠1:=λc=>j ((Mg x k).trans c);omega
  have:=WI x m k;rw[g,<-show y=x/2^(k+1) %m from d,Nat.add_zero,PB]at this;exact this
 .intro y d
  have:y=x %m:=by rw[show y=x/2^0 %m from d,Nat.pow_zero,Nat.div_one]
  rw[this]
theorem gF(h:Md m){a e:Nat}(z:a<R)(A:e<R)(w:World):Calls prog 163 #[N a,N e,N m] w λv i=>v=.returned (N (a*e %m))/\Gw w i:=by
 have l:0<m:=by have:=h.gt;omega
 refine gG lim a e m (a %m) (a*e %m) 0 w (λk=>lim e (k/64)/2^(k %64) %2) (λk=>k/64) (λk=>lim e (k/64)) (λk=>k %64) (λk=>lim e (k/64)/2^(k %64)) (λy=>(y+y) %m) (λy=>((y+y) %m+a %m) %m) id
  (λk y=>y=a*(e/2^k) %m) HM (λi _=>Lz h z i) (λk j p q w=>Z1 k j p q w) (λk j=>by omega) (λk j=>Ys e k j) (λk p q w=>Z0 k p q w) (λk p q w=>UZ _ _ (yJ _ (by decide)) p q w) (λk p q w=>cI _ p q w) ?_ ?_ ?_ ?_ ?_ ?_
 .show 0=a*(e/2^256) %m
  rw[VN A,Nat.mul_zero,Nat.zero_mod]
 .intro k y _ d i _
  have u:y<m:=d▸yJ _ l;exact L5 h u u i
 .intro k y _ d _ i _
  exact L5 h (yJ (y+y) l) (yJ _ l) i
 .intro k y _ d r
  have g:e/2^k %2=1:=(Mg e k).symm.trans r;have:=Yc a e m k;rw[g,<-show y=a*(e/2^(k+1)) %m from d,yQ]at this;exact this
 .intro k y _ d r
  have g:e/2^k %2=0:=by have B:e/2^k %2≠1:=λc=>r ((Mg e k).trans c);omega
  have:=Yc a e m k;rw[g,<-show y=a*(e/2^(k+1)) %m from d,Nat.mul_zero,Nat.zero_mod,Nat.add_zero,PB]at this;exact this
 .intro y d
  have:y=a*e %m:=by rw[show y=a*(e/2^0) %m from d,Nat.pow_zero,Nat.div_one]
  rw[this]
theorem jP(h:Md m){x y:Nat}(g:x<R)(i:y<R)(w:World):CGy 164 #[N x,N y,N m] w (N ((x+y) %m)):=by
 have d:0<m:=by have:=h.gt;omega
 refine jQ _ _ _ _ _ _ _ _ _ _ _ _ _ _ _ _ _ _ _ _ _ _ _ _ w (λc _=>Lz h g c) (λc _=>Lz h i c) (λc _=> ?_);have:=L5 h (yJ x d) (yJ y d) c;rw[<-GS]at this;exact this
theorem i7(h:Md m){x y:Nat}(l:x<R)(r:y<R)(w:World):CGy 165 #[N x,N y,N m] w (N (Ce m x y)):=by
 have g:0<m:=by have:=h.gt;omega
 have u:x %m<m:=yJ _ g;have v:y %m<m:=yJ _ g;have j:=h.lt;have A:∀c,Gw w c->CGy 185 #[N x,N m] c (N (x %m)):=λc _=>Lz h l c
 have B:∀c,Gw w c->CGy 185 #[N y,N m] c (N (y %m)):=λc _=>Lz h r c
 have L:∀c,Gw w c->CGy 162 #[N (x %m),N (y %m)] c (.bool (decide (x %m<y %m))):=λc _=>Of _ _ (by omega) (by omega) c
 by_cases d:x %m<y %m
 .rw[yE d]at L
  have e1:dif m (y %m)=m-y %m:=by unfold dif;rw[x8 (by omega)]
  have i:x %m+(m-y %m)=Ce m x y:=by unfold Ce;rw[yP (a:=x %m+m-y %m) (by omega)];omega
  have C:∀c,Gw w c->CGy 188 #[N m,N (y %m)] c (N (m-y %m)):=λc _=>by
   have:=Sw m (y %m) j (by omega) c;rw[e1]at this;exact this
  have D:∀c,Gw w c->CGy 187 #[N (x %m),N (m-y %m)] c (.tuple #[N (Ce m x y),.bool (decide ((x %m+(m-y %m))/R=1))]):=λc _=>by
   have:=Xk (x %m) (m-y %m) (by omega) (by omega) c;rw[<-i];exact this
  exact i9 _ _ _ _ _ _ _ _ _ _ _ _ _ _ _ _ _ _ _ _ _ _ _ _ _ _ _ _ _ w A B L C D
 .rw[yB d]at L
  have e:dif (x %m) (y %m)=Ce m x y:=by
   unfold dif Ce;rw[x8 d,show x %m+m-y %m=x %m-y %m+m by omega,Nat.add_mod_right];exact(yP (by omega)).symm
  refine jA _ _ _ _ _ _ _ _ _ _ _ _ _ _ _ _ _ _ _ _ _ _ _ _ w A B L (λc _=> ?_);have:=Sw (x %m) (y %m) (by omega) (by omega) c;rw[e]at this;exact this
end
end Go.Proofs.YtafbhakmkbehiaaGreatDoor
namespace Go.Vx
open Go.RowKit Go.Toll
variable{parts:Array (Nat×Operand)}{Q:Exit->VS->Prop}{f:FuncId}{ls:List (List SV)}{m':List (Nat×Blk)}{rd:List Nat}{fr ys:List SV}{news:List Value}{p q:List Value->Prop}{a b id k n size:Nat}{ρ:Nat->Nm}{x y:Operand}{hi lo:Option Operand}{e ty:TypeId}
section
variable{P:Program}{w0:World}{ops:Array Oper}{o:Oper}{s:VS}
def G4(p:List Value->Prop):Dat:=⟨λxs _ _=>p xs,λh _=>h⟩
theorem oG{t:TypeId}(_hd:o.dst=some id)(r:o.op=.call {callee:=.value (.func f),args:=#[x],argTypes:=#[t]})(l:AQ ops o s)
 (I:AE s x=.v (.int .i64 (n:Nat)))(_F:0<n)
 (G:∀w,∃g:Array Value,(callFunc f #[.int .i64 (n:Nat)]).run P w=.ok (.value (.slice (some ⟨w.heap.size,0,none⟩) n g.size)) (w.drew.drew.alloc (.cells g e))/\n<=g.size/\g.size<=maxLen):
 Ev P ops w0 o s ⟨.d id,[(id,.row n 1 e (G4 λ_=>True))],[],[id],[]⟩:=
 ⟨by simp[Eff.ok],.inr ⟨l,λρ S w D M=>by
  have e1:=AI s ρ x;rw[I]at e1;simp only[SV.c]at e1;obtain⟨g,A,B,C⟩:=G w;refine .inl ⟨.slice (some ⟨w.heap.size,0,none⟩) n g.size,w.drew.drew.alloc (.cells g e),?_,λj=>if j=id then⟨w.heap.size,.slice (some ⟨w.heap.size,0,none⟩) n g.size⟩else ρ j,λ_ _=>False,?_⟩
  .obtain⟨z,N,u,J,i,guard⟩:=o
   simp only at r;subst r;rw[DH];simp only[List.map_toArray,List.map_cons,List.map_nil,e1];exact A
  .have H:(w.drew.drew.alloc (.cells g e)).heap[w.heap.size]? =some (.cells g e):=L7 w.drew.drew _
   have:=Cj (base:=w0.heap.size) (t:=s.mem) (ρ:=ρ) (S:=S) (w:=w) (w':=w.drew.drew.alloc (.cells g e)) (val:=.d id) (rd:=[]) (up:=[]) (id:=id) (b:=.row n 1 e (G4 λ_=>True)) (m:=⟨w.heap.size,.slice (some ⟨w.heap.size,0,none⟩) n g.size⟩) (S1:=λ_=>False)
    rfl rfl rfl (by simp) (λk E _=>DM w.drew.drew _ E) (λK g1 L=>by
     refine⟨g.toList.take n,by simp;omega,True.intro,.inr ⟨0,g.size,g,(0,0),by rw[g1],by rw[g1];exact D.size,by rw[g1];exact H,.inl rfl,B,C,by omega,by simp⟩⟩) (λ_ h=>h.elim) (λ_=>.inr ⟨yD _,λh=>h⟩)
   simpa[SV.c] using this⟩⟩
theorem oT{z:Operand}{i:Nat}(_hd:o.dst=some i)(Y:o.op=.slice ty x none (some y) (some z))(K:AQ ops o s)(hx:AE s x=.d id)(M:s.mem id=some (.row n 1 e (G4 p)))
 (hu:P.underlying ty=some (.slice e))(hs:∀w,(Go.sizeOf e).run P w=.ok 1 w)(hy:AE s y=.v (.int .i64 (n:Nat)))(hz:AE s z=.v (.int .i64 (n:Nat)))(X:0<n):
 Ev P ops w0 o s ⟨.d i,[(i,.row n 1 e (G4 p))],[id],[i],[id]⟩:=by
 refine⟨by simp[Eff.ok],.inr ⟨K,λρ S w hb V=> ?_⟩⟩;obtain⟨xs,g1,O,R⟩:=w4 V M (by simp);have e1:=AI s ρ x;rw[hx]at e1;have D:=AI s ρ y;rw[hy]at D;have E:=AI s ρ z;rw[hz]at E;simp only[SV.c]at e1 D E;rcases R with⟨_,h⟩|⟨l,r,C,N,u,F,G,H,I,T,U,J⟩
 .omega
 .have A:∀(k m:Nat) (c:BoundsCode),k<=m->(Instr.sliceBound (.int .i64 (k:Nat)) m c).run P w=.ok k w:=by
   intro k m c W;unfold Instr.sliceBound;rw[Sem.run_bind];simp only[asIntOf,Sem.run_pure,Result.andThen_ok];rw[x9 ⟨by omega,by omega⟩];rfl
  have B:(execOp (s.act ρ).eval o).run P w=.ok (.value (.slice (some ⟨(ρ id).g,l,none⟩) n n)) w:=by
   rw[u]at e1
   have L:(Instr.sliceBounds true n r none (some (.int .i64 (n:Nat))) (some (.int .i64 (n:Nat)))).run P w=.ok (0,n,n) w:=by
    unfold Instr.sliceBounds;simp[A n r _ I,A n n _ (yD _)]
   simp[execOp,Y,e1,D,E,Instr.sliceAt,Instr.slice,yU hu,hs,L,Addr.add];try omega
  refine .inl ⟨_,w,B,λj=>if j=i then⟨(ρ id).g,.slice (some ⟨(ρ id).g,l,none⟩) n n⟩else ρ j,λ_ _=>False,?_⟩
  have:=Cj (base:=w0.heap.size) (t:=s.mem) (ρ:=ρ) (S:=S) (w:=w) (w':=w) (val:=.d i) (rd:=[id]) (up:=[id]) (id:=i) (b:=.row n 1 e (G4 p)) (m:=⟨(ρ id).g,.slice (some ⟨(ρ id).g,l,none⟩) n n⟩) (S1:=λ_=>False)
   rfl rfl rfl (yD _) (λk W _=>rfl) (λa0 q1 _=>⟨xs,g1,O,by rw[q1];exact .inr ⟨l,n,C,N,rfl,F,G,H,yD _,by omega,by omega,J⟩⟩) (λ_ h=>h.elim)
   (λZ=>.inl ⟨id,by simp,_,M,by rw[Blk.owns,u];simp,rfl⟩)
  simpa[SV.c] using this
theorem pK{y:SV}(H:o.op=.slice ty x lo hi none)(L:AE s x=y)
 (K:P.underlying ty=some (.slice e))(J:∀w,(Go.sizeOf e).run P w=.ok size w)(I:∀ρ S w,Bw w0 w->RelOn w0.heap.size ρ S w (restr rd s.mem)-> ∃r d,y.c ρ=.slice r n d/\n<=d)
 (h:(match lo with|none=>SV.v (.int .i64 (0:Nat))|some z=>AE s z)=.v (.int .i64 (a:Nat)))(g:(match hi with|none=>SV.v (.int .i64 (n:Nat))|some z=>AE s z)=.v (.int .i64 (b:Nat)))(C:a<=b)(M:b<=n):
 ∀ρ S w,Bw w0 w->RelOn w0.heap.size ρ S w (restr rd s.mem)->(execOp (s.act ρ).eval o).run P w=.ok (.value ((SV.fn (Ay a b size) y).c ρ)) w:=λρ S w G F=>by
 have e1:=AI s ρ x;rw[L]at e1;obtain⟨r,d,D,N⟩:=I ρ S w G F;rw[D]at e1
 have i:∀(k m:Nat) (c:BoundsCode),k<=m->(Instr.sliceBound (.int .i64 (k:Nat)) m c).run P w=.ok k w:=by
  intro k m c O;unfold Instr.sliceBound;rw[Sem.run_bind];simp only[asIntOf,Sem.run_pure,Result.andThen_ok];rw[x9 ⟨by omega,by omega⟩];rfl
 have u:∀z,lo=some z->(s.act ρ).eval z=.int .i64 (a:Nat):=λz j=>by rw[AI];rw[j]at h;simp only at h;rw[h];simp[SV.c]
 have A:∀z,hi=some z->(s.act ρ).eval z=.int .i64 (b:Nat):=λz j=>by rw[AI];rw[j]at g;simp only at g;rw[g];simp[SV.c]
 have B:lo=none->a=0:=λj=>by
  rw[j]at h;simp only[SV.v.injEq,uE1,true_and]at h;omega
 have E:hi=none->b=n:=λj=>by
  rw[j]at g;simp only[SV.v.injEq,uE1,true_and]at g;omega
 have l:(Instr.sliceBounds true n d (lo.map (s.act ρ).eval) (hi.map (s.act ρ).eval) none).run P w=.ok (a,b,d) w:=by
  unfold Instr.sliceBounds;cases hi with
  |none=>
   have:=E rfl;subst this;cases lo with
   |none=>have:=B rfl;subst this;simp
   |some z=>simp[u z rfl,i a b _ C]
  |some y'=>
   cases lo with
   |none=>have:=B rfl;subst this;simp[A y' rfl,i b d _ (by omega)]
   |some z=>simp[u z rfl,A y' rfl,i a b _ C,i b d _ (by omega)]
 simp[execOp,H,e1,Instr.sliceAt,Instr.slice,yU K,J,l,SV.c,D,Ay]
theorem G2(J:o.op=.slice ty x lo hi none)(j:AQ ops o s)(M:AE s x=.d id)(H:s.mem id=some (.row n 1 e (G4 p)))
 (L:P.underlying ty=some (.slice e))(K:∀w,(Go.sizeOf e).run P w=.ok 1 w)(I:0<n)
 (r:(match lo with|none=>SV.v (.int .i64 (0:Nat))|some z=>AE s z)=.v (.int .i64 (a:Nat)))(l:(match hi with|none=>SV.v (.int .i64 (n:Nat))|some z=>AE s z)=.v (.int .i64 (b:Nat)))(B:a<=b)(C:b<=n):
 Ev P ops w0 o s ⟨.fn (Ay a b 1) (.d id),[],[],[],[id]⟩:=
 Ev.run _ _ j (pK J M L K (λρ S w _ G=>by
  obtain⟨xs,g1,R,A⟩:=w4 G H (by simp);rcases A with⟨_,h⟩|⟨N,c,u,O,g,D,E,F,i,_⟩
  .omega
  .exact⟨_,c,g,i⟩) r l B C)
theorem L4{m:Mem}(O:m id=some (.row n 1 e (G4 p)))(R:∀xs,p xs->xs.length=n->(xs.drop a).take (b-a)=news)(K:a<b)(L:b<=n)(N:b-a=k):
 Rdg w0 m [id] (.fn (Ay a b 1) (.d id)) k 1 news:=λρ S w _ J=>by
 obtain⟨xs,g1,C,D⟩:=w4 J O (by simp);rw[yQ]at g1;rcases D with⟨_,h⟩|⟨j,l,r,T,u,E,v,F,G,H,I,z⟩
 .omega
 .subst N
  have B:=R xs C g1;have U:news.length=b-a:=by rw[<-B,z6,zH];omega
  refine⟨λk=>k=(ρ id).g,some ⟨(ρ id).g,j+a,none⟩,l-a,?_,by omega,by omega,.inr ⟨_,rfl,rfl,λi x hi=> ?_⟩⟩
  .simp only[SV.c,u,Ay]
   rw[x8 (by omega)];simp[Addr.add];try omega
  .have A:i<b-a:=by
    have:=(uD0.1 hi).1;omega
   rw[<-B,zP,x9 A,zQ,<-z,yQ,zP,x9 (by omega),zQ]at hi;have e:(Addr.add ⟨(ρ id).g,j+a,none⟩ i)=⟨(ρ id).g,j+a+i,none⟩:=by unfold Addr.add;split<;>simp_all
   rw[e];have M:r[j+a+i]? =some x:=by rw[<-hi,<-Array.getElem?_toList];congr 1;omega
   simp[World.cell?,v,M]
theorem LI{dT sT:TypeId}{sx sv:SV}(ho:o.op=.call {callee:=.builtin .copy,args:=#[x,y],argTypes:=#[dT,sT]})(W:AQ ops o s)
 (hx:AE s x=sx)(Y:sx=.d id/\a=0\/sx=.fn (Ay a n 1) (.d id))(hm:s.mem id=some (.row n 1 e (G4 p)))(hy:AE s y=sv)(hr:Rdg w0 s.mem rd sv k 1 news)(Z:P.underlying dT=some (.slice e))(hs:(P.info? e).map (·.size)=some 1)
 (a3:a+k<=n)(a2:0<k)(h1:news.all (·.oneCell')=true)(hq:∀xs,p xs->xs.length=n->q (xs.take a++news++xs.drop (a+k))):
 Ev P ops w0 o s ⟨.v (.int .i64 (k:Nat)),[(id,.row n 1 e (G4 q))],[id],[],id::rd⟩:=
 Ev.wrv id _ _ _ _ W hm (by simp) λρ S w hb hR=>by
  have e1:=AI s ρ x;rw[hx]at e1;have N:=AI s ρ y;rw[hy]at N;obtain⟨xs,F,a0,L⟩:=w4 hR hm (by simp)
  have V:RelOn w0.heap.size ρ S w (restr rd s.mem):=by
   have:=hR.restr rd
   have e:restr rd (restr (id::rd) s.mem)=restr rd s.mem:=by
    funext j;unfold restr
    by_cases h:j∈rd<;>simp[h]
   rwa [e]at this
  obtain⟨S1,ao,cp,h3,h4,B,I⟩:=hr ρ S w hb V;rw[yQ]at B F;rcases I with I|⟨ad,rfl,_,I⟩
  .exfalso;rw[I]at B;simp at B;omega
  rcases L with⟨_,h⟩|⟨l,E,r,fz,A,O,G,H,R,T,U,J⟩
  .omega
  .rw[h3]at N
   have K:∃z,(s.act ρ).eval x=.slice (some ⟨(ρ id).g,l+a,none⟩) (n-a) z:=by
    rw[e1];rcases Y with⟨rfl,rfl⟩|rfl
    .exact⟨E,by simp only[SV.c,A];simp⟩
    .refine⟨E-a,?_⟩
     simp only[SV.c,A,Ay];rw[x8 (by omega)];simp[Addr.add];try omega
   obtain⟨z,M⟩:=K;have C:=Vy (P:=P) w dT sT o.type e (ρ id).g (l+a) (n-a) z ad k cp r e fz news Z hs G (NK H) (by rw[B];simp[Nat.min_def];omega) I (by rw[B];omega) (λu Z=>y5.1 h1 u Z);rw[B]at C
   have D:(r.toList.take (l+a)++news++r.toList.drop (l+a+k)).toArray.size=r.size:=by
    simp only[uD1,yM,z6,zH,Array.length_toList,B];omega
   refine⟨by simp only[Blk.owns];rw[A];simp,w.setRow (ρ id).g (r.toList.take (l+a)++news++r.toList.drop (l+a+k)).toArray,?_,⟨rfl,rfl,rfl,by simp,λj X=>MT w _ j _ X⟩,?_⟩
   .unfold execOp
    simp only[ho,resolve,invoke,builtin,Sem.run_bind,Sem.run_pure,Result.andThen_ok,List.map_toArray,List.map_cons,List.map_nil,M,N,C,SV.c,goInt]
   .refine⟨xs.take a++news++xs.drop (a+k),by simp only[yM,z6,zH,B,F];omega,hq xs a0 F,.inr ⟨l,E,_,fz,A,O,ID w (ρ id).g r _ e _ G,by rw[D];exact H,R,T,by rw[D];exact U,?_⟩⟩
    rw[yQ]at J⊢;have a1:r.toList.length=r.size:=Array.length_toList;apply uB1;intro i
    have hg:∀j,j<n->r.toList[l+j]? =xs[j]? :=λj X=>by
     rw[<-J,zP,x9 X,zQ]
    simp only[];rw[zP];by_cases hi:i<n
    .rw[x9 hi,zQ]
     by_cases c1:i<a
     .rw[z7,uB5 (by simp;omega),zP,x9 (by omega),hg i hi,z7,uB5 (by simp;omega),zP,x9 c1]
     .by_cases c2:i<a+k
      .rw[z7,uC2 (by simp;omega),uB5 (by simp;omega),z7,uC2 (by simp;omega),uB5 (by simp;omega)]
       congr 1
       simp;omega
      .rw[uC2 (by simp;omega),zQ,uC2 (by simp;omega),zQ]
       rw[show l+a+k+(l+i-(List.take (l+a) r.toList++news).length)=l+i by simp;omega,show a+k+(i-(List.take a xs++news).length)=i by simp;omega];exact hg i hi
    .rw[x8 hi,D0 (by simp;omega)]
theorem gQ{w:World}{l:List Value}(r:Rel w0 ρ s w)(i:s.mem id=some (.row n 1 ty (G4 p)))(j:∀xs,p xs->xs.length=n->xs=l):BN w0 w (ρ id).val n 1 ty l:=by
 obtain⟨S,xs,c,d,h⟩:=L2 r i;obtain rfl:=j xs d (by simpa using c);exact⟨(ρ id).g,h⟩
theorem Vu(d:Nat):∀(g:List Value) (j:Nat) (l:List Value),d+j+g.length<=l.length->
 (g.zipIdx j).foldl (fun(a:Array Value) (x:Value×Nat)=>a.setIfInBounds (d+x.2) x.1) l.toArray=(l.take (d+j)++g++l.drop (d+j+g.length)).toArray
 | [],j,l,h=>by simp
 |c::g,j,l,h=>by
  simp only[List.zipIdx_cons,List.foldl_cons,List.length_cons]at h⊢;rw[List.setIfInBounds_toArray,Vu d g (j+1) _ (by simp;omega)];congr 1
  rw[List.take_set,List.drop_set,x9 (by omega)]
  have e1:(l.take (d+(j+1))).set (d+j) c=l.take (d+j)++[c]:=by
   rw[show d+(j+1)=d+j+1 by omega,List.take_add_one,List.set_append_right _ _ (by simp;omega)];have:(l.take (d+j)).length=d+j:=by simp;omega
   rw[this,Nat.sub_self,zK (by omega)];rfl
  rw[e1,show d+(j+1)+g.length=d+j+(g.length+1) by omega];simp
theorem aM(size:Nat):∀(l:List Value) (k:Nat) (g d:List Value),(∀v∈l,v.cells.size=size)->g.length=k*size->d.length=l.length*size->
 Instr.fill (λi=>some (i*size,size)) (g++d).toArray ((l.zipIdx k).map λx=>(x.2,x.1))=some (g++l.flatMap (·.cells.toList)).toArray
 | [],k,g,d,_,_,hr=>by
   simp at hr;subst hr;simp[Instr.fill]
 |v::l,k,g,d,hv,hp,hr=>by
  have h:=hv v (by simp);simp only[List.zipIdx_cons,List.map_cons,Instr.fill,List.length_cons,PJ,Nat.one_mul]at hr⊢;rw[x8 (by simp[h];omega)];have z:=Vu (k*size) v.cells.toList 0 (g++d) (by simp[h];omega)
  have B:Array.foldl (λw (x:Value×Nat)=>match x with|(c,j)=>w.setIfInBounds (k*size+j) c) (g++d).toArray v.cells.zipIdx=(g++v.cells.toList++d.drop size).toArray:=by
   have e0:v.cells.zipIdx.toList=v.cells.toList.zipIdx 0:=by simp
   rw[<-Array.foldl_toList,e0];refine Eq.trans ?_ (z.trans ?_)
   .rfl
   .congr 1
    have r:v.cells.toList.length=size:=by rw[Array.length_toList];exact h
    rw[Nat.add_zero,<-hp,List.take_left,r,uC3,DB (by omega),List.nil_append,uF1]
  rw[B];have:=aM size l (k+1) (g++v.cells.toList) (d.drop size) (λu A=>hv u (by simp[A])) (by simp[h,hp,PJ]) (by simp;omega);rw[this];simp
theorem NU{l:List SV}(rd:List Nat)(_hd:o.dst=some id)(ho:o.op=.buildSlice ty n parts)(J:AQ ops o s)
 (N:parts.toList.map (·.1)=List.range' 0 n)(Y:parts.toList.map (λp=>AE s p.2)=ys)(M:ys.length=ls.length)
 (W:∀ρ S w,Bw w0 w->RelOn w0.heap.size ρ S w (restr rd s.mem)-> ∀(j:Nat) (y:SV) (I:List SV),ys[j]? =some y->ls[j]? =some I->(y.c ρ).cells.toList=SV.cs ρ I)
 (hn:∀I∈ls,I.length=size)(hl:ls.flatten=l)(K:SV.hasL id l=false)
 (hu:P.underlying ty=some (.slice e))(G:(P.info? e).map (·.size)=some size)(Z:((P.info? e).bind (·.zero)).isSome=true)(X:0<n*size)(a0:n*size<=2^24):
 Ev P ops w0 o s ⟨.s id 0 n n,[(id,.cells l e)],[],[id],rd⟩:=
 ⟨by simp[Eff.ok],.inr ⟨J,λρ S w A V=>by
  have T:ys.length=n:=by
   have:=BT List.length N;rw[DE,List.length_range']at this;rw[<-Y,DE,this]
  have R:∀v∈ys.map (SV.c ρ),v.cells.size=size:=by
   intro v hv;obtain⟨y,hy,rfl⟩:=uB8.1 hv;obtain⟨j,L,rfl⟩:=List.getElem_of_mem hy;have D:j<ls.length:=by omega
   have:=W ρ S w A V j ys[j] ls[j] (zK L) (zK D);rw[<-Array.length_toList,this,A8,DE];exact hn _ (List.getElem_mem D)
  have B:(ys.map (SV.c ρ)).flatMap (·.cells.toList)=SV.cs ρ l:=by
   rw[<-hl,A8,List.map_flatten];rw[List.flatMap_def,KK];congr 1
   apply List.ext_getElem (by simp[M]);intro j H g;simp only[DE]at H g;have:=W ρ S w A V j ys[j] ls[j] (zK H) (zK g);simp[this,A8]
  have u:(parts.map fun(p:Nat×Operand)=>(p.1,(s.act ρ).eval p.2)).toList=((ys.map (SV.c ρ)).zipIdx 0).map λx=>(x.2,x.1):=by
   apply uB1;intro j;have O:parts.toList.length=n:=by have:=BT List.length N;simpa using this
   rw[Array.toList_map];by_cases L:j<n
   .have C:j<parts.toList.length:=by omega
    have H:(parts.toList[j]).1=j:=by
     have g:=BT (fun(q:List Nat)=>q[j]?) N;simp only[zC,zK C,AT]at g;rw[List.getElem?_range' L]at g;simp at g;simpa using g
    have E:j<ys.length:=by omega
    have h3:AE s (parts.toList[j]).2=ys[j]:=by
     have g:=BT (fun(q:List SV)=>q[j]?) Y;simp only[zC,zK C,AT,zK E,yT]at g;exact g
    rw[zC,zK C,AT,zC,List.getElem?_zipIdx,zC,zK E];simp only[AT,H,AI,h3,zW]
   .rw[D0 (by simp at O ⊢; omega),D0 (by simp;omega)]
  cases r:P.info? e with
  |none=>simp[r]at G
  |some ie=>
   have d:ie.size=size:=by simpa[r] using G
   simp only[r,Option.bind_some]at Z;obtain⟨z,U⟩:=IF.1 Z
   have F:=run_buildSlice (P:=P) w ty e n (parts.map fun(p:Nat×Operand)=>(p.1,(s.act ρ).eval p.2)) (SV.cs ρ l).toArray ie z hu r U (by rw[d];omega) (by rw[d];omega) (by
    rw[u,d];have:=aM size (ys.map (SV.c ρ)) 0 [] ((Array.range (n*size)).map (z.cells[· %z.cells.size]!)).toList R (by simp) (by simp[T]);rw[List.nil_append,Array.toArray_toList,List.nil_append,B]at this;exact this)
   refine .inl ⟨.slice (some ⟨w.heap.size,0,none⟩) n n,w.alloc (.cells (SV.cs ρ l).toArray e),?_,λj=>if j=id then⟨w.heap.size,undef⟩else ρ j,λ_ _=>False,?_⟩
   .simp only[execOp,ho]
    rw[Sem.run_bind,F];rfl
   .have:=Cj (base:=w0.heap.size) (t:=s.mem) (ρ:=ρ) (S:=S) (w:=w) (w':=w.alloc (.cells (SV.cs ρ l).toArray e)) (val:=.s id 0 n n) (rd:=rd) (up:=[]) (id:=id) (b:=.cells l e) (m:=⟨w.heap.size,undef⟩) (S1:=λ_=>False)
     rfl rfl rfl (by simp) (λk hk _=>DM w _ hk) (λa1 g1 g2=>by
      refine⟨by rw[g1];exact A.size,?_⟩;rw[g1];simp only[CP];rw[GI (nw:=[id]) (λi hi=>g2 i (by simpa using hi)) (λi hi=>by simp at hi;rw[hi];exact K)];exact L7 w _) (λ_ h=>h.elim) (λ_=>.inr ⟨yD _,λh=>h⟩)
    simpa[SV.c] using this⟩⟩
theorem Ea{c:Code}{m:List (Nat×Blk)}{i:(Nat->Value)->List SV}(g:Nat->Bool)(d:List Nat)(j:∀f,B0 g f 0 fr=i f)(l:BQ m d=m')(h:∀f,VOk P w0 ⟨i f,AJ m'⟩ c Q):VOk P w0 ⟨fr,AJ m⟩ c Q:=
 Jw g d λf=>by rw[j,l];exact h f
end
end Go.Vx
namespace Go.Proofs.YtafbhakmkbehiaaGreatDoor
section
open Go.RowKit Go.Toll
open TollMont
theorem sR{k:Nat}(h:k<W):N k=.agg #[.int .u64 (k:Nat),.int .u64 0,.int .u64 0,.int .u64 0]:=by
 have c:lim k 0=k:=by rw[IE,yP h]
 have d:lim k 1=0:=by rw[Gq,uC9 h];rfl
 have g:lim k 2=0:=by rw[Gq,uC9 h];rfl
 have i:lim k 3=0:=by rw[Gq,uC9 h];rfl
 unfold N;rw[c,d,g,i];rfl
def Dj(c d g h i j l r:Nat):Nat:=256*(256*(256*(256*(256*(256*(256*(256*0+c)+d)+g)+h)+i)+j)+l)+r
def cvF(x:Nat):Nat:=x %18446744073709551616
def Co(x:Nat)(s:Int):Nat:=x*2^s.toNat %18446744073709551616
def E5(x:Nat):Nat:=x*256 %18446744073709551616
def AS(x:Nat)(s:Int):Nat:=x/2^s.toNat
def lwF(x:Nat):Nat:=x %256
theorem H7(s t a c:Nat)(l:t=s+8)(u:s<57)(h:2^t*a<18446744073709551616)(j:c<256):BS (2^t*a) (Co (cvF c) (s:Nat))=2^s*(256*a+c):=by
 have d:2^t=256*2^s:=by rw[l,Nat.pow_add,zE]
 have i:c*2^s<2^t:=by
  rw[d];exact Nat.mul_lt_mul_of_pos_right j (Nat.two_pow_pos s)
 have r:2^t<=18446744073709551616:=by
  rw[show 18446744073709551616=2^64 by decide];exact Nat.pow_le_pow_right (by decide) (by omega)
 have e1:cvF c=c:=yP (by omega);have g:Co c (s:Nat)=c*2^s:=by unfold Co;rw[Int.toNat_natCast];exact yP (by omega)
 rw[e1,g];unfold BS;rw[yP h,yP (show c*2^s<18446744073709551616 by omega),<-Nat.two_pow_add_eq_or_of_lt i a,d];rw[Nat.mul_add,zE c,<-DP,zE (2^s) 256]
theorem H8(a c:Nat)(g:a<72057594037927936)(h:c<256):BS (E5 a) (cvF c)=256*a+c:=by
 have e1:cvF c=c:=yP (by omega);have d:E5 a=2^8*a:=by unfold E5;rw[yP (by omega),zE]
 rw[e1,d];unfold BS;rw[yP (by omega),yP (by omega),<-Nat.two_pow_add_eq_or_of_lt (show c<2^8 by omega) a]
theorem PK(c d g h i j l r:Nat)(u:c<256)(v:d<256)(w:g<256)(z:h<256)(A:i<256)(B:j<256)(C:l<256)(D:r<256):(BS (BS (BS (BS (BS (BS (BS (BS 0 (Co (cvF c) 56)) (Co (cvF d) 48)) (Co (cvF g) 40)) (Co (cvF h) 32)) (Co (cvF i) 24)) (Co (cvF j) 16)) (Co (cvF l) 8)) (Co (cvF r) 0))=Dj c d g h i j l r:=by
 have E:BS (2^64*0) (Co (cvF c) 56)=2^56*(256*0+c):=H7 56 64 0 c rfl (by decide) (by omega) u;have F:BS (2^56*(256*0+c)) (Co (cvF d) 48)=2^48*(256*(256*0+c)+d):=H7 48 56 (256*0+c) d rfl (by decide) (by omega) v;have G:BS (2^48*(256*(256*0+c)+d)) (Co (cvF g) 40)=2^40*(256*(256*(256*0+c)+d)+g):=H7 40 48 (256*(256*0+c)+d) g rfl (by decide) (by omega) w;have H:BS (2^40*(256*(256*(256*0+c)+d)+g)) (Co (cvF h) 32)=2^32*(256*(256*(256*(256*0+c)+d)+g)+h):=H7 32 40 (256*(256*(256*0+c)+d)+g) h rfl (by decide) (by omega) z;have I:BS (2^32*(256*(256*(256*(256*0+c)+d)+g)+h)) (Co (cvF i) 24)=2^24*(256*(256*(256*(256*(256*0+c)+d)+g)+h)+i):=H7 24 32 (256*(256*(256*(256*0+c)+d)+g)+h) i rfl (by decide) (by omega) A;have J:BS (2^24*(256*(256*(256*(256*(256*0+c)+d)+g)+h)+i)) (Co (cvF j) 16)=2^16*(256*(256*(256*(256*(256*(256*0+c)+d)+g)+h)+i)+j):=H7 16 24 (256*(256*(256*(256*(256*0+c)+d)+g)+h)+i) j rfl (by decide) (by omega) B;have K:BS (2^16*(256*(256*(256*(256*(256*(256*0+c)+d)+g)+h)+i)+j)) (Co (cvF l) 8)=2^8*(256*(256*(256*(256*(256*(256*(256*0+c)+d)+g)+h)+i)+j)+l):=H7 8 16 (256*(256*(256*(256*(256*(256*0+c)+d)+g)+h)+i)+j) l rfl (by decide) (by omega) C;have L:BS (2^8*(256*(256*(256*(256*(256*(256*(256*0+c)+d)+g)+h)+i)+j)+l)) (Co (cvF r) 0)=2^0*(256*(256*(256*(256*(256*(256*(256*(256*0+c)+d)+g)+h)+i)+j)+l)+r):=H7 0 8 (256*(256*(256*(256*(256*(256*(256*0+c)+d)+g)+h)+i)+j)+l) r rfl (by decide) (by omega) D;rw[show(BS 0 (Co (cvF c) 56))=2^56*(256*0+c) from E,F,G,H,I,J,K,L];unfold Dj;omega
theorem Oi(c d g h i j l r:Nat)(u:c<256)(v:d<256)(w:g<256)(z:h<256)(A:i<256)(B:j<256)(C:l<256)(D:r<256):(BS (E5 (BS (E5 (BS (E5 (BS (E5 (BS (E5 (BS (E5 (BS (E5 (BS (E5 0) (cvF c))) (cvF d))) (cvF g))) (cvF h))) (cvF i))) (cvF j))) (cvF l))) (cvF r))=Dj c d g h i j l r:=by
 rw[H8 0 c (by omega) u,H8 (256*0+c) d (by omega) v,H8 (256*(256*0+c)+d) g (by omega) w,H8 (256*(256*(256*0+c)+d)+g) h (by omega) z,H8 (256*(256*(256*(256*0+c)+d)+g)+h) i (by omega) A,H8 (256*(256*(256*(256*(256*0+c)+d)+g)+h)+i) j (by omega) B,H8 (256*(256*(256*(256*(256*(256*0+c)+d)+g)+h)+i)+j) l (by omega) C,H8 (256*(256*(256*(256*(256*(256*(256*0+c)+d)+g)+h)+i)+j)+l) r (by omega) D];rfl
theorem N0(c d g h i j l r:Nat)(u:c<256)(v:d<256)(w:g<256)(z:h<256)(A:i<256)(B:j<256)(C:l<256)(D:r<256):Dj c d g h i j l r<W:=by unfold Dj;simp only[W];omega
theorem He(a:Nat)(h:a<W):Dj (lwF (AS a 56)) (lwF (AS a 48)) (lwF (AS a 40)) (lwF (AS a 32)) (lwF (AS a 24)) (lwF (AS a 16)) (lwF (AS a 8)) (lwF (AS a 0))=a:=by
 show Dj (a/72057594037927936 %256) (a/281474976710656 %256) (a/1099511627776 %256) (a/4294967296 %256) (a/16777216 %256) (a/65536 %256) (a/256 %256) (a/1 %256)=a;simp only[W]at h;unfold Dj;omega
theorem An(x:Nat)(s:Int):lwF (AS x s)<256:=yJ _ (by decide)
def F1(b0 b1 b2 b3 b4 b5 b6 b7 b8 b9 b10 b11 b12 b13 b14 b15 b16 b17 b18 b19 b20 b21 b22 b23 b24 b25 b26 b27 b28 b29 b30 b31:Nat):Nat:=(Dj b24 b25 b26 b27 b28 b29 b30 b31)+W*((Dj b16 b17 b18 b19 b20 b21 b22 b23)+W*((Dj b8 b9 b10 b11 b12 b13 b14 b15)+W*((Dj b0 b1 b2 b3 b4 b5 b6 b7)+W*0)))
section
variable{b0 b1 b2 b3 b4 b5 b6 b7 b8 b9 b10 b11 b12 b13 b14 b15 b16 b17 b18 b19 b20 b21 b22 b23 b24 b25 b26 b27 b28 b29 b30 b31:Nat}(l0:b0<256)(l1:b1<256)(l2:b2<256)(l3:b3<256)(l4:b4<256)(l5:b5<256)(l6:b6<256)(l7:b7<256)(l8:b8<256)(l9:b9<256)(l10:b10<256)(l11:b11<256)(l12:b12<256)(l13:b13<256)(l14:b14<256)(l15:b15<256)(l16:b16<256)(l17:b17<256)(l18:b18<256)(l19:b19<256)(l20:b20<256)(l21:b21<256)(l22:b22<256)(l23:b23<256)(l24:b24<256)(l25:b25<256)(l26:b26<256)(l27:b27<256)(l28:b28<256)(l29:b29<256)(l30:b30<256)(l31:b31<256)
include l0 l1 l2 l3 l4 l5 l6 l7 l8 l9 l10 l11 l12 l13 l14 l15 l16 l17 l18 l19 l20 l21 l22 l23 l24 l25 l26 l27 l28 l29 l30 l31
theorem YD:lim (F1 b0 b1 b2 b3 b4 b5 b6 b7 b8 b9 b10 b11 b12 b13 b14 b15 b16 b17 b18 b19 b20 b21 b22 b23 b24 b25 b26 b27 b28 b29 b30 b31) 0=(Dj b24 b25 b26 b27 b28 b29 b30 b31)/\lim (F1 b0 b1 b2 b3 b4 b5 b6 b7 b8 b9 b10 b11 b12 b13 b14 b15 b16 b17 b18 b19 b20 b21 b22 b23 b24 b25 b26 b27 b28 b29 b30 b31) 1=(Dj b16 b17 b18 b19 b20 b21 b22 b23)/\lim (F1 b0 b1 b2 b3 b4 b5 b6 b7 b8 b9 b10 b11 b12 b13 b14 b15 b16 b17 b18 b19 b20 b21 b22 b23 b24 b25 b26 b27 b28 b29 b30 b31) 2=(Dj b8 b9 b10 b11 b12 b13 b14 b15)/\lim (F1 b0 b1 b2 b3 b4 b5 b6 b7 b8 b9 b10 b11 b12 b13 b14 b15 b16 b17 b18 b19 b20 b21 b22 b23 b24 b25 b26 b27 b28 b29 b30 b31) 3=(Dj b0 b1 b2 b3 b4 b5 b6 b7)/\(F1 b0 b1 b2 b3 b4 b5 b6 b7 b8 b9 b10 b11 b12 b13 b14 b15 b16 b17 b18 b19 b20 b21 b22 b23 b24 b25 b26 b27 b28 b29 b30 b31)<R:=by
 have g0:=N0 _ _ _ _ _ _ _ _ l0 l1 l2 l3 l4 l5 l6 l7;have g1:=N0 _ _ _ _ _ _ _ _ l8 l9 l10 l11 l12 l13 l14 l15;have d:=N0 _ _ _ _ _ _ _ _ l16 l17 l18 l19 l20 l21 l22 l23;have g:=N0 _ _ _ _ _ _ _ _ l24 l25 l26 l27 l28 l29 l30 l31;obtain⟨h,i,j,l,r⟩:=KX _ _ _ _ 0 g d g1 g0;refine⟨h,i,j,l,?_⟩;have:=Nat.div_eq_zero_iff.1 r;rcases this with c|c
 .exact absurd c (by decide)
 .exact c
theorem lD(w:World):CGy 82 #[.agg #[.int .u8 (b0:Nat),.int .u8 (b1:Nat),.int .u8 (b2:Nat),.int .u8 (b3:Nat),.int .u8 (b4:Nat),.int .u8 (b5:Nat),.int .u8 (b6:Nat),.int .u8 (b7:Nat),.int .u8 (b8:Nat),.int .u8 (b9:Nat),.int .u8 (b10:Nat),.int .u8 (b11:Nat),.int .u8 (b12:Nat),.int .u8 (b13:Nat),.int .u8 (b14:Nat),.int .u8 (b15:Nat),.int .u8 (b16:Nat),.int .u8 (b17:Nat),.int .u8 (b18:Nat),.int .u8 (b19:Nat),.int .u8 (b20:Nat),.int .u8 (b21:Nat),.int .u8 (b22:Nat),.int .u8 (b23:Nat),.int .u8 (b24:Nat),.int .u8 (b25:Nat),.int .u8 (b26:Nat),.int .u8 (b27:Nat),.int .u8 (b28:Nat),.int .u8 (b29:Nat),.int .u8 (b30:Nat),.int .u8 (b31:Nat)]] w (N (F1 b0 b1 b2 b3 b4 b5 b6 b7 b8 b9 b10 b11 b12 b13 b14 b15 b16 b17 b18 b19 b20 b21 b22 b23 b24 b25 b26 b27 b28 b29 b30 b31)):=by
 obtain⟨c,d,g,i,_⟩:=YD l0 l1 l2 l3 l4 l5 l6 l7 l8 l9 l10 l11 l12 l13 l14 l15 l16 l17 l18 l19 l20 l21 l22 l23 l24 l25 l26 l27 l28 l29 l30 l31;have h:=lE BS cvF Co b0 b1 b2 b3 b4 b5 b6 b7 b8 b9 b10 b11 b12 b13 b14 b15 b16 b17 b18 b19 b20 b21 b22 b23 b24 b25 b26 b27 b28 b29 b30 b31 w (λx w=>cM x w) (λx y p q w=>QZ x y p q w) (λy p q w=>QZ 0 y p q w) (λx s a b p q w=>rT x s a b p q w);rw[PK _ _ _ _ _ _ _ _ l24 l25 l26 l27 l28 l29 l30 l31,PK _ _ _ _ _ _ _ _ l16 l17 l18 l19 l20 l21 l22 l23,PK _ _ _ _ _ _ _ _ l8 l9 l10 l11 l12 l13 l14 l15,PK _ _ _ _ _ _ _ _ l0 l1 l2 l3 l4 l5 l6 l7]at h;unfold N;rw[c,d,g,i];exact h
theorem gD(w:World):CGy 112 #[.agg #[.int .u8 (b0:Nat),.int .u8 (b1:Nat),.int .u8 (b2:Nat),.int .u8 (b3:Nat),.int .u8 (b4:Nat),.int .u8 (b5:Nat),.int .u8 (b6:Nat),.int .u8 (b7:Nat),.int .u8 (b8:Nat),.int .u8 (b9:Nat),.int .u8 (b10:Nat),.int .u8 (b11:Nat),.int .u8 (b12:Nat),.int .u8 (b13:Nat),.int .u8 (b14:Nat),.int .u8 (b15:Nat),.int .u8 (b16:Nat),.int .u8 (b17:Nat),.int .u8 (b18:Nat),.int .u8 (b19:Nat),.int .u8 (b20:Nat),.int .u8 (b21:Nat),.int .u8 (b22:Nat),.int .u8 (b23:Nat),.int .u8 (b24:Nat),.int .u8 (b25:Nat),.int .u8 (b26:Nat),.int .u8 (b27:Nat),.int .u8 (b28:Nat),.int .u8 (b29:Nat),.int .u8 (b30:Nat),.int .u8 (b31:Nat)]] w (N (F1 b0 b1 b2 b3 b4 b5 b6 b7 b8 b9 b10 b11 b12 b13 b14 b15 b16 b17 b18 b19 b20 b21 b22 b23 b24 b25 b26 b27 b28 b29 b30 b31)):=by
 obtain⟨c,d,g,i,_⟩:=YD l0 l1 l2 l3 l4 l5 l6 l7 l8 l9 l10 l11 l12 l13 l14 l15 l16 l17 l18 l19 l20 l21 l22 l23 l24 l25 l26 l27 l28 l29 l30 l31;have h:=gd BS cvF E5 b0 b1 b2 b3 b4 b5 b6 b7 b8 b9 b10 b11 b12 b13 b14 b15 b16 b17 b18 b19 b20 b21 b22 b23 b24 b25 b26 b27 b28 b29 b30 b31 w (λx w=>cM x w) (λx y p q w=>QZ x y p q w) (λx p q w=>cH x p q w) (λp q w=>cH 0 p q w);rw[Oi _ _ _ _ _ _ _ _ l24 l25 l26 l27 l28 l29 l30 l31,Oi _ _ _ _ _ _ _ _ l16 l17 l18 l19 l20 l21 l22 l23,Oi _ _ _ _ _ _ _ _ l8 l9 l10 l11 l12 l13 l14 l15,Oi _ _ _ _ _ _ _ _ l0 l1 l2 l3 l4 l5 l6 l7]at h;unfold N;rw[c,d,g,i];exact h
end
theorem QQ(n:Nat)(w:World):CGy 86 #[N n] w (.agg #[.int .u8 ((lwF (AS (lim n 3) 56)):Nat),.int .u8 ((lwF (AS (lim n 3) 48)):Nat),.int .u8 ((lwF (AS (lim n 3) 40)):Nat),.int .u8 ((lwF (AS (lim n 3) 32)):Nat),.int .u8 ((lwF (AS (lim n 3) 24)):Nat),.int .u8 ((lwF (AS (lim n 3) 16)):Nat),.int .u8 ((lwF (AS (lim n 3) 8)):Nat),.int .u8 ((lwF (AS (lim n 3) 0)):Nat),.int .u8 ((lwF (AS (lim n 2) 56)):Nat),.int .u8 ((lwF (AS (lim n 2) 48)):Nat),.int .u8 ((lwF (AS (lim n 2) 40)):Nat),.int .u8 ((lwF (AS (lim n 2) 32)):Nat),.int .u8 ((lwF (AS (lim n 2) 24)):Nat),.int .u8 ((lwF (AS (lim n 2) 16)):Nat),.int .u8 ((lwF (AS (lim n 2) 8)):Nat),.int .u8 ((lwF (AS (lim n 2) 0)):Nat),.int .u8 ((lwF (AS (lim n 1) 56)):Nat),.int .u8 ((lwF (AS (lim n 1) 48)):Nat),.int .u8 ((lwF (AS (lim n 1) 40)):Nat),.int .u8 ((lwF (AS (lim n 1) 32)):Nat),.int .u8 ((lwF (AS (lim n 1) 24)):Nat),.int .u8 ((lwF (AS (lim n 1) 16)):Nat),.int .u8 ((lwF (AS (lim n 1) 8)):Nat),.int .u8 ((lwF (AS (lim n 1) 0)):Nat),.int .u8 ((lwF (AS (lim n 0) 56)):Nat),.int .u8 ((lwF (AS (lim n 0) 48)):Nat),.int .u8 ((lwF (AS (lim n 0) 40)):Nat),.int .u8 ((lwF (AS (lim n 0) 32)):Nat),.int .u8 ((lwF (AS (lim n 0) 24)):Nat),.int .u8 ((lwF (AS (lim n 0) 16)):Nat),.int .u8 ((lwF (AS (lim n 0) 8)):Nat),.int .u8 ((lwF (AS (lim n 0) 0)):Nat)]):=qL lwF AS (lim n 0) (lim n 1) (lim n 2) (lim n 3) w (λx w=>rY x w) (λx s a b p q w=>rR x s a b p q w)
theorem YB(n:Nat)(c:n<R)(w:World):CGy 82 #[.agg #[.int .u8 ((lwF (AS (lim n 3) 56)):Nat),.int .u8 ((lwF (AS (lim n 3) 48)):Nat),.int .u8 ((lwF (AS (lim n 3) 40)):Nat),.int .u8 ((lwF (AS (lim n 3) 32)):Nat),.int .u8 ((lwF (AS (lim n 3) 24)):Nat),.int .u8 ((lwF (AS (lim n 3) 16)):Nat),.int .u8 ((lwF (AS (lim n 3) 8)):Nat),.int .u8 ((lwF (AS (lim n 3) 0)):Nat),.int .u8 ((lwF (AS (lim n 2) 56)):Nat),.int .u8 ((lwF (AS (lim n 2) 48)):Nat),.int .u8 ((lwF (AS (lim n 2) 40)):Nat),.int .u8 ((lwF (AS (lim n 2) 32)):Nat),.int .u8 ((lwF (AS (lim n 2) 24)):Nat),.int .u8 ((lwF (AS (lim n 2) 16)):Nat),.int .u8 ((lwF (AS (lim n 2) 8)):Nat),.int .u8 ((lwF (AS (lim n 2) 0)):Nat),.int .u8 ((lwF (AS (lim n 1) 56)):Nat),.int .u8 ((lwF (AS (lim n 1) 48)):Nat),.int .u8 ((lwF (AS (lim n 1) 40)):Nat),.int .u8 ((lwF (AS (lim n 1) 32)):Nat),.int .u8 ((lwF (AS (lim n 1) 24)):Nat),.int .u8 ((lwF (AS (lim n 1) 16)):Nat),.int .u8 ((lwF (AS (lim n 1) 8)):Nat),.int .u8 ((lwF (AS (lim n 1) 0)):Nat),.int .u8 ((lwF (AS (lim n 0) 56)):Nat),.int .u8 ((lwF (AS (lim n 0) 48)):Nat),.int .u8 ((lwF (AS (lim n 0) 40)):Nat),.int .u8 ((lwF (AS (lim n 0) 32)):Nat),.int .u8 ((lwF (AS (lim n 0) 24)):Nat),.int .u8 ((lwF (AS (lim n 0) 16)):Nat),.int .u8 ((lwF (AS (lim n 0) 8)):Nat),.int .u8 ((lwF (AS (lim n 0) 0)):Nat)]] w (N n):=by
 have h:=lD (An (lim n 3) 56) (An (lim n 3) 48) (An (lim n 3) 40) (An (lim n 3) 32) (An (lim n 3) 24) (An (lim n 3) 16) (An (lim n 3) 8) (An (lim n 3) 0) (An (lim n 2) 56) (An (lim n 2) 48) (An (lim n 2) 40) (An (lim n 2) 32) (An (lim n 2) 24) (An (lim n 2) 16) (An (lim n 2) 8) (An (lim n 2) 0) (An (lim n 1) 56) (An (lim n 1) 48) (An (lim n 1) 40) (An (lim n 1) 32) (An (lim n 1) 24) (An (lim n 1) 16) (An (lim n 1) 8) (An (lim n 1) 0) (An (lim n 0) 56) (An (lim n 0) 48) (An (lim n 0) 40) (An (lim n 0) 32) (An (lim n 0) 24) (An (lim n 0) 16) (An (lim n 0) 8) (An (lim n 0) 0) w
 have e:F1 (lwF (AS (lim n 3) 56)) (lwF (AS (lim n 3) 48)) (lwF (AS (lim n 3) 40)) (lwF (AS (lim n 3) 32)) (lwF (AS (lim n 3) 24)) (lwF (AS (lim n 3) 16)) (lwF (AS (lim n 3) 8)) (lwF (AS (lim n 3) 0)) (lwF (AS (lim n 2) 56)) (lwF (AS (lim n 2) 48)) (lwF (AS (lim n 2) 40)) (lwF (AS (lim n 2) 32)) (lwF (AS (lim n 2) 24)) (lwF (AS (lim n 2) 16)) (lwF (AS (lim n 2) 8)) (lwF (AS (lim n 2) 0)) (lwF (AS (lim n 1) 56)) (lwF (AS (lim n 1) 48)) (lwF (AS (lim n 1) 40)) (lwF (AS (lim n 1) 32)) (lwF (AS (lim n 1) 24)) (lwF (AS (lim n 1) 16)) (lwF (AS (lim n 1) 8)) (lwF (AS (lim n 1) 0)) (lwF (AS (lim n 0) 56)) (lwF (AS (lim n 0) 48)) (lwF (AS (lim n 0) 40)) (lwF (AS (lim n 0) 32)) (lwF (AS (lim n 0) 24)) (lwF (AS (lim n 0) 16)) (lwF (AS (lim n 0) 8)) (lwF (AS (lim n 0) 0))=n:=by
  unfold F1;rw[He _ (AZ n 0),He _ (AZ n 1),He _ (AZ n 2),He _ (AZ n 3),Nat.mul_zero,Nat.add_zero];exact(Ek c).symm
 rw[e]at h;exact h
end
section
open Go.RowKit Go.Vx
variable{ops:Array Oper}{p:Bool}{ki:IntKind}{a b bs rd:List Nat}{xs:List Value}{id n:Nat}{o:Oper}{x:Operand}{P:Program}{dt e t:TypeId}{s:VS}{w0:World}
open TollSha
open Go.Toll (Gw)
def AB(bs:List Nat):ByteArray:=⟨(bs.map λb=>UInt8.ofNat b).toArray⟩
theorem Ff(b:List Nat):(AB b).size=b.length:=by simp[AB,ByteArray.size]
theorem qm{i c:Nat}(h:b[i]? =some c):(AB b)[i]? =some (UInt8.ofNat c):=by
 obtain⟨hi,e⟩:=uD0.1 h;have d:i<(AB b).size:=by rw[Ff];exact hi
 rw[getElem?_pos (AB b) i d];congr 1
 show(AB b).data[i]=_;simp[AB,e]
theorem QS{c:Nat}(h:c<256):(UInt8.ofNat c).toNat=c:=by simp;omega
theorem HX(d:o.op=.call {callee:=.builtin .len,args:=#[x],argTypes:=#[t]})(c:AQ ops o s)(h:AE s x=.v (.string (AB b)))(g:prog.underlying t=some .string):Ev prog ops w0 o s ⟨.v (.int .i64 (b.length:Nat)),[],[],[],[]⟩:=by
 have:=oK (w0:=w0) d c h g
 rwa [Ff]at this
theorem CF{g:Operand}{k c:Nat}(j:o.op=.index t x g)(d:AQ ops o s)(r:AE s x=.v (.string (AB b)))(hi:AE s g=.v (.int ki (k:Nat)))(l:prog.underlying t=some .string)(i:b[k]? =some c)(h:c<256):Ev prog ops w0 o s ⟨.v (.int .u8 (c:Int)),[],[],[],[]⟩:=by
 have:=oN (w0:=w0) j d r hi l (qm i)
 rwa [QS h]at this
theorem ql(r:∀x∈a,x<256)(u:∀x∈b,x<256):AB a=AB b↔a=b:=by
 refine⟨λh=> ?_,λh=>by rw[h]⟩
 have j:a.map (λb=>UInt8.ofNat b)=b.map (λb=>UInt8.ofNat b):=by
  have:=BT (λs:ByteArray=>s.data.toList) h;simpa[AB] using this
 apply uB1;intro i;have c:=BT (λl=>(l[i]?).map UInt8.toNat) j;simp only[zC]at c;cases g:a[i]? with
 |none=>rw[g]at c;cases d:b[i]? with
  |none=>rfl
  |some y=>rw[d]at c;simp at c
 |some x=>rw[g]at c;cases d:b[i]? with
  |none=>rw[d]at c;simp at c
  |some y=>
   rw[d]at c;simp only[AT,yT]at c;rw[QS (r x (zA g)),QS (u y (zA d))]at c;rw[c]
theorem bp(c:∀x∈a,x<256)(d:∀x∈b,x<256):((AB a).toList==(AB b).toList)=decide (a=b):=by
 rw[<-zM.2 (ql c d)];refine Bool.eq_iff_iff.2 ?_;rw[beq_iff_eq,BY];refine⟨λh=> ?_,λh=>by rw[h]⟩;rw[ByteArray.toList_eq,ByteArray.toList_eq]at h;exact Go.WideShapes.bytes_inj h
theorem E4(h:decide (a=b)=p)(c:∀x∈a,x<256)(d:∀x∈b,x<256):BOy .eql 9 (.string (AB a)) (.string (AB b)) (.bool p):=by
 intro x y w
 go_simp
 rw[bp c d,h]
theorem Hp(h:decide (a≠b)=p)(c:∀x∈a,x<256)(d:∀x∈b,x<256):BOy .neq 9 (.string (AB a)) (.string (AB b)) (.bool p):=by
 intro x y w
 have e:((AB a).toList==(AB b).toList)= !p:=by
  rw[bp c d,<-h];simp
 go_simp
 try exact e
theorem ef(l:List Nat):Iu (l.map b8)=AB l:=by
 simp only[Iu,AB,KK];congr 2
theorem ra(bs:List Nat):(bs.map b8).all P2=true:=by
 rw[List.all_map];exact y5.2 λ_ _=>rfl
theorem qt(a b:List Nat):AB a++AB b=AB (a++b):=by
 apply ByteArray.ext;simp[AB]
theorem Cc{d:TypeId}{y:SV}(i:o.op=.convert d dt x)(c:AQ ops o s)(r:AE s x=y)
 (l:P.underlying d=some (.slice e))(h:P.underlying e=some (.int .u8))(g:P.underlying dt=some .string)(j:Rdg w0 s.mem rd y n 1 (bs.map b8)):Ev P ops w0 o s ⟨.v (.string (AB bs)),[],[],[],rd⟩:=by
 have:=oY (w0:=w0) i c r l h g j (ra bs)
 rwa [ef]at this
theorem Fu(a b:List Nat)(h:a.length+b.length<=9223372036854775807):BOy .add 9 (.string (AB a)) (.string (AB b)) (.string (AB (a++b))):=by
 intro x y w
 rw[<-qt]
 go_simp
 rw[Ff,Ff];exact h
theorem Vl(h:∀x∈b,x<256):C1 (AB b)=b.map b8:=by
 simp only[Go.Lib.strCells,AB,KK];apply uB4;intro x c;simp only[Function.comp,b8];rw[QS (h x c)]
theorem Tw{g:TypeId}(_hd:o.dst=some id)(r:o.op=.convert g dt x)(c:AQ ops o s)(w:AE s x=.v (.string (AB b)))
 (u:prog.underlying g=some .string)(i:prog.underlying dt=some (.slice e))(j:prog.underlying e=some (.int .u8))(l:b.length<=maxLen)(h:∀x∈b,x<256):Ev prog ops w0 o s ⟨.d id,[(id,.row b.length 1 e (.exact (b.map b8)))],[],[id],[]⟩:=by
 have:=oW (w0:=w0) _hd r c w u i j (by rw[Ff];exact l)
 rwa [Ff,Vl h]at this
theorem oo{u:TypeId}{y:Operand}{c:Nat}(_hd:o.dst=some c)(w:o.op=.call {callee:=.builtin .append,args:=#[x,y],argTypes:=#[t,u]})(h:AQ ops o s)
 (B:AE s x=.d id)(r:s.mem id=some (.row n 1 e (.exact xs)))(C:AE s y=.v (.string (AB b)))
 (z:prog.underlying t=some (.slice e))(A:prog.underlying u=some .string)(j:DT prog e 1 1)(l:xs.length=n)(g:n+b.length<=140737488355328)(i:∀x∈b,x<256):
 Ev prog ops w0 o s ⟨.d c,[(c,.row (n+b.length) 1 e (.exact (xs++b.map b8)))],[id],[c],[id]⟩:=by
 have:=ot (w0:=w0) _hd w h B r C z A j l (by rw[Ff];exact g)
 rwa [Ff,Vl i]at this
end
end Go.Proofs.YtafbhakmkbehiaaGreatDoor
namespace Go.Vx
open Go.RowKit Go.Toll
section
variable{P:Program}{w0:World}{ops:Array Oper}{o:Oper}{s:VS}
theorem aP{t e:TypeId}{x y:Operand}{id k:Nat}{z:Value}(_hd:o.dst=some id)(J:o.op=.makeSlice t x y)(B:AQ ops o s)
 (L:AE s x=.v (.int .i64 (k:Nat)))(M:AE s y=.v (.int .i64 (k:Nat)))(K:P.underlying t=some (.slice e))(H:DT P e 1 1)(N:∀w,(zeroValue e).run P w=.ok z w)(C:z.cells=#[z])(F:k<=140737488355328):
 Ev P ops w0 o s ⟨.d id,[(id,.row k 1 e (.exact (List.replicate k z)))],[],[id],[]⟩:=
 ⟨by simp[Eff.ok],.inr ⟨B,λρ S w I V=>by
  obtain⟨i,R,hi,r,h,A,O⟩:=H.get;have e1:=AI s ρ x;rw[L]at e1;have u:=AI s ρ y;rw[M]at u;simp only[SV.c]at e1 u
  have E:z=R:=by
   have:=N w;simp[zeroValue,typeInfo,hi,r]at this;exact this.symm
  subst E
  have D:madeCells #[z] k=(List.replicate k z).toArray:=by
   apply Array.ext
   .simp[madeCells]
   .intro j T U;simp[madeCells,Nat.mod_one]
  have G:=run_make (P:=P) w t e i z K hi r .i64 .i64 (k:Int) (k:Int) (by omega) (by omega) (by rw[A];omega) (by omega);rw[h,C,Int.toNat_natCast,yQ,D]at G;refine .inl ⟨.slice (some ⟨w.heap.size,0,none⟩) k k,w.alloc (.cells (List.replicate k z).toArray e),?_,λj=>if j=id then⟨w.heap.size,.slice (some ⟨w.heap.size,0,none⟩) k k⟩else ρ j,λ_ _=>False,?_⟩
  .simp only[execOp,J,e1,u]
   rw[Sem.run_bind,G];rfl
  .have:=H6 (t:=s.mem) (ρ:=ρ) (S:=S) (val:=.d id) (rd:=[]) (id:=id) (n:=k) (size:=1) (ty:=e) (l:=List.replicate k z) (w:=w) (w':=w.alloc (.cells (List.replicate k z).toArray e)) (v:=.slice (some ⟨w.heap.size,0,none⟩) k k) (g:=w.heap.size) I.size
    ⟨rfl,rfl,rfl,by simp,λk F=>DM w _ F⟩ (by simp) (.inr ⟨0,k,(List.replicate k z).toArray,(0,0),rfl,yD _,L7 w _,.inl rfl,yD _,by simp only[maxLen];omega,by simp,by simp⟩)
   simpa[SV.c] using this⟩⟩
end
end Go.Vx
