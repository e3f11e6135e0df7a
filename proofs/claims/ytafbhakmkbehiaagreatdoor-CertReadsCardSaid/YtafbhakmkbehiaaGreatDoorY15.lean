import Derived.Lib.MakeNoZero
import Derived.Great.BuildSlice
import Derived.Test.YtafbhakmkbehiaaGreatDoorY5
import Derived.Test.YtafbhakmkbehiaaGreatDoorY12
import Derived.Test.YtafbhakmkbehiaaGreatDoorY13
open Go.Proofs.Tryz
set_option maxRecDepth 100000
namespace Go.Proofs.YtafbhakmkbehiaaGreatDoor
section
open Go.RowKit Go.Toll TollMont
def pl(x y:Nat):Nat:=(x+y) %18446744073709551616
def mi(x y:Nat):Nat:=(((x:Int)-(y:Int)) %18446744073709551616).toNat
def ltB(x y:Nat):Bool:=decide (x<y)
def eqB(x:Nat):Bool:=decide (x=1)
theorem QM{a b c:Nat}(ha:a<W)(hb:b<W)(hc:c≤1):pl (pl a b) c=(a+b+c) %W∧bn ((false||ltB (pl a b) a)||ltB (pl (pl a b) c) (pl a b))=(a+b+c)/W:=by
 unfold pl ltB bn;simp only[W]at*;refine⟨by omega,?_⟩
 by_cases h1:(a+b) %18446744073709551616<a<;>by_cases h2:((a+b) %18446744073709551616+c) %18446744073709551616<(a+b) %18446744073709551616<;>
  simp only[h1,h2,decide_true,decide_false,Bool.or_false,Bool.or_true,if_true,Bool.false_eq_true,if_false]<;>omega
theorem QN{a b c:Nat}(ha:a<W)(hb:b<W)(hc:c≤1):mi (mi a b) c=(a+W-b-c) %W∧bn ((false||ltB a b)||ltB (mi a b) c)=if a<b+c then 1 else 0:=by
 have e:mi a b=if a<b then a+W-b else a-b:=by unfold mi;simp only[W]at *; split<;>omega
 unfold ltB bn;rw[e];unfold mi;simp only[W]at*;refine⟨by split<;>omega,?_⟩;by_cases h1:a<b
 ·simp only[h1,decide_true,Bool.false_or,Bool.true_or,if_true];rw[if_pos (by omega)]
 ·simp only[h1,decide_false,Bool.false_or,if_false]
  by_cases h2:a-b<c
  ·simp only[h2,decide_true,if_true];rw[if_pos (by omega)]
  ·simp only[h2,decide_false,Bool.false_eq_true,if_false];rw[if_neg (by omega)]
theorem Xk(n m:Nat)(hn:n<R)(hm:m<R)(w:World):Calls prog 187 #[N n,N m] w fun e w'=>e= .returned (.tuple #[N (n+m),.bool (decide ((n+m)/R=1))])∧Gw w w':=by
 obtain⟨p0,q0⟩:=QM (AZ n 0) (AZ m 0) (Nat.zero_le 1);have l0:(lim n 0+lim m 0+0)/W≤1:=by have:=AZ n 0;have:=AZ m 0;simp only[W]at *; omega
 obtain⟨p1,q1⟩:=QM (AZ n 1) (AZ m 1) l0;have l1:(lim n 1+lim m 1+(lim n 0+lim m 0+0)/W)/W≤1:=by have:=AZ n 1;have:=AZ m 1;simp only[W]at *; omega
 obtain⟨p2,q2⟩:=QM (AZ n 2) (AZ m 2) l1;have l2:(lim n 2+lim m 2+(lim n 1+lim m 1+(lim n 0+lim m 0+0)/W)/W)/W≤1:=by have:=AZ n 2;have:=AZ m 2;simp only[W]at *; omega
 obtain⟨p3,q3⟩:=QM (AZ n 3) (AZ m 3) l2;have h:=kF pl ltB eqB (lim n 0) (lim n 1) (lim n 2) (lim n 3) (lim m 0) (lim m 1) (lim m 2) (lim m 3) w (fun x y p q w=>cN x y p q w) (fun x p q w=>cN x 0 p q w) (fun x y p q w=>IY x y p q w) (fun x p q w=>IY x 0 p q w) (fun x p q w=>rW x p q w);rw[q0,p0,q1,p1,q2,p2,q3,p3]at h;obtain⟨e0,e1,e2,e3,e4⟩:=cY n m hn hm _ _ _ _ _ _ _ _ (rfl:(lim n 0+lim m 0+0) %W=_) (rfl:(lim n 0+lim m 0+0)/W=_) rfl rfl rfl rfl rfl rfl;rw[e0,e1,e2,e3,e4]at h;exact h
theorem Sw(n m:Nat)(hn:n<R)(hm:m<R)(w:World):Calls prog 188 #[N n,N m] w fun e w'=>e= .returned (N (dif n m))∧Gw w w':=by
 have b1: ∀a b:Nat,(if a<b then 1 else 0:Nat)≤1:=fun a b=>by split<;>omega
 obtain⟨p0,q0⟩:=QN (AZ n 0) (AZ m 0) (Nat.zero_le 1);obtain⟨p1,q1⟩:=QN (AZ n 1) (AZ m 1) (b1 (lim n 0) (lim m 0+0));obtain⟨p2,q2⟩:=QN (AZ n 2) (AZ m 2) (b1 (lim n 1) (lim m 1+(if lim n 0<lim m 0+0 then 1 else 0)));obtain⟨p3,q3⟩:=QN (AZ n 3) (AZ m 3) (b1 (lim n 2) (lim m 2+(if lim n 1<lim m 1+(if lim n 0<lim m 0+0 then 1 else 0)then 1 else 0)));have h:=ll mi ltB (lim n 0) (lim n 1) (lim n 2) (lim n 3) (lim m 0) (lim m 1) (lim m 2) (lim m 3) w (fun x y p q w=>UY x y p q w) (fun x p q w=>UY x 0 p q w) (fun x y p q w=>IY x y p q w) (fun x p q w=>IY x 0 p q w);rw[q0,p0,q1,p1,q2,p2,p3]at h;obtain⟨e0,e1,e2,e3,e4⟩:=Vj n m hn hm _ _ _ _ _ _ _ _ rfl rfl rfl rfl rfl rfl rfl rfl;rw[e0,e1,e2,e3]at h;exact h
theorem Gm{x y:Nat}(h:x=y)(p q:Operand)(w:World):(do eqGuard .neq 49 p q (.int .u64 (x:Nat)) (.int .u64 (y:Nat));binOp .neq 49 (.int .u64 (x:Nat)) (.int .u64 (y:Nat)):Sem Value).run prog w= .ok (.bool false) w:=by
 have:=cL x y p q w;rw[decide_eq_true h]at this;exact this
theorem PM{x y:Nat}(h:x≠y)(p q:Operand)(w:World):(do eqGuard .neq 49 p q (.int .u64 (x:Nat)) (.int .u64 (y:Nat));binOp .neq 49 (.int .u64 (x:Nat)) (.int .u64 (y:Nat)):Sem Value).run prog w= .ok (.bool true) w:=by
 have:=cL x y p q w;rw[decide_eq_false h]at this;exact this
theorem Of(n m:Nat)(hn:n<R)(hm:m<R)(w:World):Calls prog 162 #[N n,N m] w fun e w'=>e= .returned (.bool (decide (n<m)))∧Gw w w':=by
 have hN:=Ek hn;have hM:=Ek hm;have n0:=AZ n 0;have n1:=AZ n 1;have n2:=AZ n 2;have n3:=AZ n 3;have m0:=AZ m 0;have m1:=AZ m 1;have m2:=AZ m 2;have m3:=AZ m 3;by_cases h3:lim n 3=lim m 3
 ·by_cases h2:lim n 2=lim m 2
  ·by_cases h1:lim n 1=lim m 1
   ·by_cases h0:lim n 0=lim m 0
    ·rw[decide_eq_false (show¬n<m by rw[hN,hM,h0,h1,h2,h3];omega)]
     exact gI _ _ _ _ _ _ _ _ w (Gm h3) (Gm h2) (Gm h1) (Gm h0)
    ·rw[show decide (n<m)=decide (lim n 0<lim m 0) from decide_eq_decide.2 (by
     generalize lim n 0=a0 at *; generalize lim n 1=a1 at *; generalize lim n 2=a2 at *; generalize lim n 3=a3 at*;generalize lim m 0=c0 at *; generalize lim m 1=c1 at *; generalize lim m 2=c2 at *; generalize lim m 3=c3 at*;subst h1 h2 h3 hN hM;clear hn hm;simp only[W]at *; omega)]
     exact gM _ _ _ _ _ _ _ _ _ w (Gm h3) (Gm h2) (Gm h1) (PM h0) (fun p q w=>IY _ _ p q w)
   ·rw[show decide (n<m)=decide (lim n 1<lim m 1) from decide_eq_decide.2 (by
     generalize lim n 0=a0 at *; generalize lim n 1=a1 at *; generalize lim n 2=a2 at *; generalize lim n 3=a3 at*;generalize lim m 0=c0 at *; generalize lim m 1=c1 at *; generalize lim m 2=c2 at *; generalize lim m 3=c3 at*;subst h3 h2 hN hM;clear hn hm;simp only[W]at *; omega)]
    exact gL _ _ _ _ _ _ _ _ _ w (Gm h3) (Gm h2) (PM h1) (fun p q w=>IY _ _ p q w)
  ·rw[show decide (n<m)=decide (lim n 2<lim m 2) from decide_eq_decide.2 (by
    generalize lim n 0=a0 at *; generalize lim n 1=a1 at *; generalize lim n 2=a2 at *; generalize lim n 3=a3 at*;generalize lim m 0=c0 at *; generalize lim m 1=c1 at *; generalize lim m 2=c2 at *; generalize lim m 3=c3 at*;subst h3 hN hM;clear hn hm;simp only[W]at *; omega)]
   exact gK _ _ _ _ _ _ _ _ _ w (Gm h3) (PM h2) (fun p q w=>IY _ _ p q w)
 ·rw[show decide (n<m)=decide (lim n 3<lim m 3) from decide_eq_decide.2 (by
   generalize lim n 0=a0 at *; generalize lim n 1=a1 at *; generalize lim n 2=a2 at *; generalize lim n 3=a3 at*;generalize lim m 0=c0 at *; generalize lim m 1=c1 at *; generalize lim m 2=c2 at *; generalize lim m 3=c3 at*;subst hN hM;clear hn hm;simp only[W]at *; omega)]
  exact gJ _ _ _ _ _ _ _ _ _ w (PM h3) (fun p q w=>IY _ _ p q w)
variable{m:Nat}
theorem L5(h:Md m){a b:Nat}(ha:a<m)(hb:b<m)(w:World):Calls prog 186 #[N a,N b,N m] w fun e w'=>e= .returned (N ((a+b) %m))∧Gw w w':=by
 have hm:=h.lt;have hr:=Nat.mod_lt (a+b) (show 0<R by decide);have A: ∀w',Gw w w'→Calls prog 187 #[N a,N b] w' fun e w''=>e= .returned (.tuple #[N (a+b),.bool (decide ((a+b)/R=1))])∧Gw w' w'':=fun w' _=>Xk a b (by omega) (by omega) w'
 have L: ∀w',Gw w w'→Calls prog 162 #[N (a+b),N m] w' fun e w''=>e= .returned (.bool (decide ((a+b) %R<m)))∧Gw w' w'':=fun w' _=>by
  have:=Of _ _ hr hm w';rw[JJ]at this;exact this
 have M: ∀w',Gw w w'→Calls prog 188 #[N (a+b),N m] w' fun e w''=>e= .returned (N (dif ((a+b) %R) m))∧Gw w' w'':=fun w' _=>by
  have:=Sw _ _ hr hm w';rw[JJ]at this;exact this
 by_cases ho:(a+b)/R=1
 ·rw[decide_eq_true ho]at A
  have e:dif ((a+b) %R) m=(a+b) %m:=by
   have:=Rn hm hr (.inr ho) (by rw[Nat.mod_add_div];omega);rw[if_neg (fun c=>by omega),Nat.mod_add_div]at this;exact this
  rw[e]at M;exact iY _ _ _ _ _ _ _ _ _ _ _ _ _ _ _ _ _ _ _ _ w A M
 ·rw[decide_eq_false ho]at A
  have hlt:a+b<R:=by simp only[R]at *; omega
  have em:(a+b) %R=a+b:=Nat.mod_eq_of_lt hlt;rw[em]at L M;by_cases hl:a+b<m
  ·rw[decide_eq_true hl]at L
   rw[Nat.mod_eq_of_lt hl];exact ia _ _ _ _ _ _ _ _ _ _ _ _ _ _ _ _ w A L
  ·rw[decide_eq_false hl]at L
   have e:dif (a+b) m=(a+b) %m:=by unfold dif;rw[if_neg hl,Nat.mod_eq_sub_mod (by omega),Nat.mod_eq_of_lt (by omega)]
   rw[e]at M;exact iZ _ _ _ _ _ _ _ _ _ _ _ _ _ _ _ _ _ _ _ _ w A L M
theorem Ys(x k:Nat)(hk:k<256):([.v (.int .u64 (lim x 0:Nat)),.v (.int .u64 (lim x 1:Nat)),.v (.int .u64 (lim x 2:Nat)),.v (.int .u64 (lim x 3:Nat))]:List SV)[k/64]? =some (.v (.int .u64 (lim x (k/64):Nat))):=by
 have hj:k/64=0∨k/64=1∨k/64=2∨k/64=3:=by omega
 rcases hj with hj|hj|hj|hj<;>rw[hj]<;>rfl
theorem am(k:Nat):((k+1:Nat):Int)-1=(k:Int):=by omega
theorem Z1(k:Nat)(hk:k<256)(p q:Operand)(w:World):(do eqGuard .quo 3 p q (.int .i64 (((k+1:Nat):Int)-1)) (.int .i64 64);binOp .quo 3 (.int .i64 (((k+1:Nat):Int)-1)) (.int .i64 64):Sem Value).run prog w= .ok (.int .i64 (k/64:Nat)) w:=by
 rw[am];exact cK k (by omega) p q w
theorem Z0(k:Nat)(p q:Operand)(w:World):(do eqGuard .rem 3 p q (.int .i64 (((k+1:Nat):Int)-1)) (.int .i64 64);binOp .rem 3 (.int .i64 (((k+1:Nat):Int)-1)) (.int .i64 64):Sem Value).run prog w= .ok (.int .i64 (k %64:Nat)) w:=by
 rw[am];exact cJ k p q w
theorem Lz(h:Md m){x:Nat}(hx:x<R)(w:World):Calls prog 185 #[N x,N m] w fun e w'=>e= .returned (N (x %m))∧Gw w w':=by
 have h0:0<m:=by have:=h.gt;omega
 refine fl lim x m (x %m) 0 w (fun k=>lim x (k/64)/2^(k %64) %2) (fun k=>k/64) (fun k=>lim x (k/64)) (fun k=>k %64) (fun k=>lim x (k/64)/2^(k %64)) (fun y=>(y+y) %m) (fun y=>((y+y) %m+1) %m) id
  (fun k y=>y=x/2^k %m) HM (fun k hk p q w=>Z1 k hk p q w) (fun k hk=>by omega) (fun k hk=>Ys x k hk) (fun k p q w=>Z0 k p q w) (fun k p q w=>UZ _ _ (Nat.mod_lt _ (by decide)) p q w) (fun k p q w=>cI _ p q w) ?_ ?_ ?_ ?_ ?_ ?_
 ·show 0=x/2^256 %m
  rw[VN hx,Nat.zero_mod]
 ·intro k y _ hy w' _
  have hl:y<m:=hy▸Nat.mod_lt _ h0;exact L5 h hl hl w'
 ·intro k y _ hy _ w' _
  have:=L5 h (Nat.mod_lt (y+y) h0) h.gt w';rw[Qo]at this;exact this
 ·intro k y _ hy hb
  have hb':x/2^k %2=1:=(Mg x k).symm.trans hb;have:=WI x m k;rw[hb',←show y=x/2^(k+1) %m from hy]at this;exact this
 ·intro k y _ hy hb
  have hb':x/2^k %2=0:=by have h1:x/2^k %2≠1:=fun c=>hb ((Mg x k).trans c);omega
  have:=WI x m k;rw[hb',←show y=x/2^(k+1) %m from hy,Nat.add_zero,Nat.mod_mod]at this;exact this
 ·intro y hy
  have:y=x %m:=by rw[show y=x/2^0 %m from hy,Nat.pow_zero,Nat.div_one]
  rw[this]
theorem gF(h:Md m){a e:Nat}(ha:a<R)(he:e<R)(w:World):Calls prog 163 #[N a,N e,N m] w fun en w'=>en= .returned (N (a*e %m))∧Gw w w':=by
 have h0:0<m:=by have:=h.gt;omega
 refine gG lim a e m (a %m) (a*e %m) 0 w (fun k=>lim e (k/64)/2^(k %64) %2) (fun k=>k/64) (fun k=>lim e (k/64)) (fun k=>k %64) (fun k=>lim e (k/64)/2^(k %64)) (fun y=>(y+y) %m) (fun y=>((y+y) %m+a %m) %m) id
  (fun k y=>y=a*(e/2^k) %m) HM (fun w' _=>Lz h ha w') (fun k hk p q w=>Z1 k hk p q w) (fun k hk=>by omega) (fun k hk=>Ys e k hk) (fun k p q w=>Z0 k p q w) (fun k p q w=>UZ _ _ (Nat.mod_lt _ (by decide)) p q w) (fun k p q w=>cI _ p q w) ?_ ?_ ?_ ?_ ?_ ?_
 ·show 0=a*(e/2^256) %m
  rw[VN he,Nat.mul_zero,Nat.zero_mod]
 ·intro k y _ hy w' _
  have hl:y<m:=hy▸Nat.mod_lt _ h0;exact L5 h hl hl w'
 ·intro k y _ hy _ w' _
  exact L5 h (Nat.mod_lt (y+y) h0) (Nat.mod_lt _ h0) w'
 ·intro k y _ hy hb
  have hb':e/2^k %2=1:=(Mg e k).symm.trans hb;have:=Yc a e m k;rw[hb',←show y=a*(e/2^(k+1)) %m from hy,Nat.mul_one]at this;exact this
 ·intro k y _ hy hb
  have hb':e/2^k %2=0:=by have h1:e/2^k %2≠1:=fun c=>hb ((Mg e k).trans c);omega
  have:=Yc a e m k;rw[hb',←show y=a*(e/2^(k+1)) %m from hy,Nat.mul_zero,Nat.zero_mod,Nat.add_zero,Nat.mod_mod]at this;exact this
 ·intro y hy
  have:y=a*e %m:=by rw[show y=a*(e/2^0) %m from hy,Nat.pow_zero,Nat.div_one]
  rw[this]
theorem jP(h:Md m){x y:Nat}(hx:x<R)(hy:y<R)(w:World):Calls prog 164 #[N x,N y,N m] w fun e w'=>e= .returned (N ((x+y) %m))∧Gw w w':=by
 have h0:0<m:=by have:=h.gt;omega
 refine jQ _ _ _ _ _ _ _ _ _ _ _ _ _ _ _ _ _ _ _ _ _ _ _ _ w (fun w' _=>Lz h hx w') (fun w' _=>Lz h hy w') (fun w' _=> ?_);have:=L5 h (Nat.mod_lt x h0) (Nat.mod_lt y h0) w';rw[←Nat.add_mod]at this;exact this
theorem i7(h:Md m){x y:Nat}(hx:x<R)(hy:y<R)(w:World):Calls prog 165 #[N x,N y,N m] w fun e w'=>e= .returned (N (Ce m x y))∧Gw w w':=by
 have h0:0<m:=by have:=h.gt;omega
 have lx:x %m<m:=Nat.mod_lt _ h0;have ly:y %m<m:=Nat.mod_lt _ h0;have hm:=h.lt;have A: ∀w',Gw w w'→Calls prog 185 #[N x,N m] w' fun e w''=>e= .returned (N (x %m))∧Gw w' w'':=fun w' _=>Lz h hx w'
 have B: ∀w',Gw w w'→Calls prog 185 #[N y,N m] w' fun e w''=>e= .returned (N (y %m))∧Gw w' w'':=fun w' _=>Lz h hy w'
 have L: ∀w',Gw w w'→Calls prog 162 #[N (x %m),N (y %m)] w' fun e w''=>e= .returned (.bool (decide (x %m<y %m)))∧Gw w' w'':=fun w' _=>Of _ _ (by omega) (by omega) w'
 by_cases hl:x %m<y %m
 ·rw[decide_eq_true hl]at L
  have e1:dif m (y %m)=m-y %m:=by unfold dif;rw[if_neg (by omega)]
  have e2:x %m+(m-y %m)=Ce m x y:=by unfold Ce;rw[Nat.mod_eq_of_lt (a:=x %m+m-y %m) (by omega)];omega
  have C: ∀w',Gw w w'→Calls prog 188 #[N m,N (y %m)] w' fun e w''=>e= .returned (N (m-y %m))∧Gw w' w'':=fun w' _=>by
   have:=Sw m (y %m) hm (by omega) w';rw[e1]at this;exact this
  have D: ∀w',Gw w w'→Calls prog 187 #[N (x %m),N (m-y %m)] w' fun e w''=>e= .returned (.tuple #[N (Ce m x y),.bool (decide ((x %m+(m-y %m))/R=1))])∧Gw w' w'':=fun w' _=>by
   have:=Xk (x %m) (m-y %m) (by omega) (by omega) w';rw[←e2];exact this
  exact i9 _ _ _ _ _ _ _ _ _ _ _ _ _ _ _ _ _ _ _ _ _ _ _ _ _ _ _ _ _ w A B L C D
 ·rw[decide_eq_false hl]at L
  have e:dif (x %m) (y %m)=Ce m x y:=by
   unfold dif Ce;rw[if_neg hl,show x %m+m-y %m=x %m-y %m+m by omega,Nat.add_mod_right];exact(Nat.mod_eq_of_lt (by omega)).symm
  refine jA _ _ _ _ _ _ _ _ _ _ _ _ _ _ _ _ _ _ _ _ _ _ _ _ w A B L (fun w' _=> ?_);have:=Sw (x %m) (y %m) (by omega) (by omega) w';rw[e]at this;exact this
end
end Go.Proofs.YtafbhakmkbehiaaGreatDoor
namespace Go.Vx
open Go.RowKit Go.Toll
variable{parts:Array (Nat×Operand)}{Q:Exit→VS→Prop}{f:FuncId}{ls:List (List SV)}{m':List (Nat×Blk)}{rd:List Nat}{fr ys:List SV}{news:List Value}{p q:List Value→Prop}{a b id k n size:Nat}{ρ:Nat→Nm}{x y:Operand}{hi lo:Option Operand}{e ty:TypeId}
section
variable{P:Program}{w0:World}{ops:Array Oper}{o:Oper}{s:VS}
def G4(p:List Value→Prop):Dat:=⟨fun xs _ _=>p xs,fun h _=>h⟩
theorem oG{t:TypeId}(_hd:o.dst=some id)(ho:o.op= .call {callee:= .value (.func f),args:= #[x],argTypes:= #[t]})(hgd:AQ ops o s)
 (hx:AE s x= .v (.int .i64 (n:Nat)))(_hn0:0<n)
 (hr: ∀w,∃cs:Array Value,(callFunc f #[.int .i64 (n:Nat)]).run P w= .ok (.value (.slice (some ⟨w.heap.size,0,none⟩) n cs.size)) (w.drew.drew.alloc (.cells cs e))∧n≤cs.size∧cs.size≤maxLen):
 Ev P ops w0 o s ⟨.d id,[(id,.row n 1 e (G4 fun _=>True))],[],[id],[]⟩:=
 ⟨by simp[Eff.ok],.inr ⟨hgd,fun ρ S w hb hR=>by
  have e1:=AI s ρ x;rw[hx]at e1;simp only[SV.c]at e1;obtain⟨cs,h1,h2,h3⟩:=hr w;refine .inl ⟨.slice (some ⟨w.heap.size,0,none⟩) n cs.size,w.drew.drew.alloc (.cells cs e),?_,fun j=>if j=id then⟨w.heap.size,.slice (some ⟨w.heap.size,0,none⟩) n cs.size⟩else ρ j,fun _ _=>False,?_⟩
  ·obtain⟨dst,op,type,pos,after,guard⟩:=o
   simp only at ho;subst ho;rw[execOp_call_go];simp only[List.map_toArray,List.map_cons,List.map_nil,e1];exact h1
  ·have hs:(w.drew.drew.alloc (.cells cs e)).heap[w.heap.size]? =some (.cells cs e):=heap_alloc_new w.drew.drew _
   have:=Cj (base:=w0.heap.size) (t:=s.mem) (ρ:=ρ) (S:=S) (w:=w) (w':=w.drew.drew.alloc (.cells cs e)) (val:= .d id) (rd:=[]) (up:=[]) (id:=id) (b:= .row n 1 e (G4 fun _=>True)) (m:=⟨w.heap.size,.slice (some ⟨w.heap.size,0,none⟩) n cs.size⟩) (S1:=fun _=>False)
    rfl rfl rfl (by simp) (fun k hk _=>heap_alloc_old w.drew.drew _ hk) (fun ρ' g1 g2=>by
     refine⟨cs.toList.take n,by simp;omega,True.intro,.inr ⟨0,cs.size,cs,(0,0),by rw[g1],by rw[g1];exact hb.size,by rw[g1];exact hs,.inl rfl,h2,h3,by omega,by simp⟩⟩) (fun _ h=>h.elim) (fun _=> .inr ⟨Nat.le_refl _,fun h=>h⟩)
   simpa[SV.c] using this⟩⟩
theorem oT{z:Operand}{id2:Nat}(_hd:o.dst=some id2)(ho:o.op= .slice ty x none (some y) (some z))(hgd:AQ ops o s)(hx:AE s x= .d id)(hm:s.mem id=some (.row n 1 e (G4 p)))
 (hu:P.underlying ty=some (.slice e))(hs: ∀w,(Go.sizeOf e).run P w= .ok 1 w)(hy:AE s y= .v (.int .i64 (n:Nat)))(hz:AE s z= .v (.int .i64 (n:Nat)))(hn0:0<n):
 Ev P ops w0 o s ⟨.d id2,[(id2,.row n 1 e (G4 p))],[id],[id2],[id]⟩:=by
 refine⟨by simp[Eff.ok],.inr ⟨hgd,fun ρ S w hb hR=> ?_⟩⟩;obtain⟨xs,g1,g2,g3⟩:=relon_get hR hm (by simp);have e1:=AI s ρ x;rw[hx]at e1;have e2:=AI s ρ y;rw[hy]at e2;have e3:=AI s ρ z;rw[hz]at e3;simp only[SV.c]at e1 e2 e3;rcases g3 with⟨_,h⟩|⟨off,cap,cur,fz,h1',h2',h3',h4',h5',h6',h7',h8'⟩
 ·omega
 ·have hbd: ∀(k m:Nat) (c:BoundsCode),k≤m→(Instr.sliceBound (.int .i64 (k:Nat)) m c).run P w= .ok k w:=by
   intro k m c hk;unfold Instr.sliceBound;rw[Sem.run_bind];simp only[asIntOf,Sem.run_pure,Result.andThen_ok];rw[if_pos ⟨by omega,by omega⟩];rfl
  have hrun:(execOp (s.act ρ).eval o).run P w= .ok (.value (.slice (some ⟨(ρ id).g,off,none⟩) n n)) w:=by
   rw[h1']at e1
   have key:(Instr.sliceBounds true n cap none (some (.int .i64 (n:Nat))) (some (.int .i64 (n:Nat)))).run P w= .ok (0,n,n) w:=by
    unfold Instr.sliceBounds;simp[hbd n cap _ h5',hbd n n _ (Nat.le_refl _)]
   simp[execOp,ho,e1,e2,e3,Instr.sliceAt,Instr.slice,run_underlying hu,hs,key,Addr.add];try omega
  refine .inl ⟨_,w,hrun,fun j=>if j=id2 then⟨(ρ id).g,.slice (some ⟨(ρ id).g,off,none⟩) n n⟩else ρ j,fun _ _=>False,?_⟩
  have:=Cj (base:=w0.heap.size) (t:=s.mem) (ρ:=ρ) (S:=S) (w:=w) (w':=w) (val:= .d id2) (rd:=[id]) (up:=[id]) (id:=id2) (b:= .row n 1 e (G4 p)) (m:=⟨(ρ id).g,.slice (some ⟨(ρ id).g,off,none⟩) n n⟩) (S1:=fun _=>False)
   rfl rfl rfl (Nat.le_refl _) (fun k hk _=>rfl) (fun ρ2 q1 _=>⟨xs,g1,g2,by rw[q1];exact .inr ⟨off,n,cur,fz,rfl,h2',h3',h4',Nat.le_refl _,by omega,by omega,h8'⟩⟩) (fun _ h=>h.elim)
   (fun hob=> .inl ⟨id,by simp,_,hm,by rw[Blk.owns,h1'];simp,rfl⟩)
  simpa[SV.c] using this
theorem pK{y:SV}(ho:o.op= .slice ty x lo hi none)(hx:AE s x=y)
 (hu:P.underlying ty=some (.slice e))(hs: ∀w,(Go.sizeOf e).run P w= .ok size w)(hr: ∀ρ S w,Bw w0 w→RelOn w0.heap.size ρ S w (restr rd s.mem)→ ∃ao cap,y.c ρ= .slice ao n cap∧n≤cap)
 (hlo:(match lo with|none=>SV.v (.int .i64 (0:Nat))|some z=>AE s z)= .v (.int .i64 (a:Nat)))(hhi:(match hi with|none=>SV.v (.int .i64 (n:Nat))|some z=>AE s z)= .v (.int .i64 (b:Nat)))(h1:a≤b)(h2:b≤n):
 ∀ρ S w,Bw w0 w→RelOn w0.heap.size ρ S w (restr rd s.mem)→(execOp (s.act ρ).eval o).run P w= .ok (.value ((SV.fn (Ay a b size) y).c ρ)) w:=fun ρ S w hb hR=>by
 have e1:=AI s ρ x;rw[hx]at e1;obtain⟨ao,cap,h3,h4⟩:=hr ρ S w hb hR;rw[h3]at e1
 have hbd: ∀(k m:Nat) (c:BoundsCode),k≤m→(Instr.sliceBound (.int .i64 (k:Nat)) m c).run P w= .ok k w:=by
  intro k m c hk;unfold Instr.sliceBound;rw[Sem.run_bind];simp only[asIntOf,Sem.run_pure,Result.andThen_ok];rw[if_pos ⟨by omega,by omega⟩];rfl
 have e2: ∀z,lo=some z→(s.act ρ).eval z= .int .i64 (a:Nat):=fun z hz=>by rw[AI];rw[hz]at hlo;simp only at hlo;rw[hlo];simp[SV.c]
 have e3: ∀z,hi=some z→(s.act ρ).eval z= .int .i64 (b:Nat):=fun z hz=>by rw[AI];rw[hz]at hhi;simp only at hhi;rw[hhi];simp[SV.c]
 have ea:lo=none→a=0:=fun hz=>by
  rw[hz]at hlo;simp only[SV.v.injEq,Value.int.injEq,true_and]at hlo;omega
 have eb:hi=none→b=n:=fun hz=>by
  rw[hz]at hhi;simp only[SV.v.injEq,Value.int.injEq,true_and]at hhi;omega
 have key:(Instr.sliceBounds true n cap (lo.map (s.act ρ).eval) (hi.map (s.act ρ).eval) none).run P w= .ok (a,b,cap) w:=by
  unfold Instr.sliceBounds;cases hi with
  |none=>
   have:=eb rfl;subst this;cases lo with
   |none=>have:=ea rfl;subst this;simp
   |some z=>simp[e2 z rfl,hbd a b _ h1]
  |some y'=>
   cases lo with
   |none=>have:=ea rfl;subst this;simp[e3 y' rfl,hbd b cap _ (by omega)]
   |some z=>simp[e2 z rfl,e3 y' rfl,hbd a b _ h1,hbd b cap _ (by omega)]
 simp[execOp,ho,e1,Instr.sliceAt,Instr.slice,run_underlying hu,hs,key,SV.c,h3,Ay]
theorem G2(ho:o.op= .slice ty x lo hi none)(hgd:AQ ops o s)(hx:AE s x= .d id)(hm:s.mem id=some (.row n 1 e (G4 p)))
 (hu:P.underlying ty=some (.slice e))(hs: ∀w,(Go.sizeOf e).run P w= .ok 1 w)(hn0:0<n)
 (hlo:(match lo with|none=>SV.v (.int .i64 (0:Nat))|some z=>AE s z)= .v (.int .i64 (a:Nat)))(hhi:(match hi with|none=>SV.v (.int .i64 (n:Nat))|some z=>AE s z)= .v (.int .i64 (b:Nat)))(h1:a≤b)(h2:b≤n):
 Ev P ops w0 o s ⟨.fn (Ay a b 1) (.d id),[],[],[],[id]⟩:=
 Ev.run _ _ hgd (pK ho hx hu hs (fun ρ S w _ hR=>by
  obtain⟨xs,g1,g2,g3⟩:=relon_get hR hm (by simp);rcases g3 with⟨_,h⟩|⟨off,cap,cur,fz,h1',h2',h3',h4',h5',_⟩
  ·omega
  ·exact⟨_,cap,h1',h5'⟩) hlo hhi h1 h2)
theorem L4{m:Mem}(hm:m id=some (.row n 1 e (G4 p)))(hp: ∀xs,p xs→xs.length=n→(xs.drop a).take (b-a)=news)(hab:a<b)(hbn:b≤n)(hk:b-a=k):
 Rdg w0 m [id] (.fn (Ay a b 1) (.d id)) k 1 news:=fun ρ S w _ hR=>by
 obtain⟨xs,g1,g2,g3⟩:=relon_get hR hm (by simp);rw[Nat.mul_one]at g1;rcases g3 with⟨_,h⟩|⟨off,cap,cur,fz,h1',h2',h3',h4',h5',h6',h7',h8'⟩
 ·omega
 ·subst hk
  have hx:=hp xs g2 g1;have hl:news.length=b-a:=by rw[←hx,List.length_take,List.length_drop];omega
  refine⟨fun k=>k=(ρ id).g,some ⟨(ρ id).g,off+a,none⟩,cap-a,?_,by omega,by omega,.inr ⟨_,rfl,rfl,fun i x hi=> ?_⟩⟩
  ·simp only[SV.c,h1',Ay]
   rw[if_neg (by omega)];simp[Addr.add];try omega
  ·have hi':i<b-a:=by
    have:=(List.getElem?_eq_some_iff.1 hi).1;omega
   rw[←hx,List.getElem?_take,if_pos hi',List.getElem?_drop,←h8',Nat.mul_one,List.getElem?_take,if_pos (by omega),List.getElem?_drop]at hi;have e:(Addr.add ⟨(ρ id).g,off+a,none⟩ i)=⟨(ρ id).g,off+a+i,none⟩:=by unfold Addr.add;split<;>simp_all
   rw[e];have hc:cur[off+a+i]? =some x:=by rw[←hi,←Array.getElem?_toList];congr 1;omega
   simp[World.cell?,h3',hc]
theorem LI{dT sT:TypeId}{sx sv:SV}(ho:o.op= .call {callee:= .builtin .copy,args:= #[x,y],argTypes:= #[dT,sT]})(hgd:AQ ops o s)
 (hx:AE s x=sx)(hsx:sx= .d id∧a=0∨sx= .fn (Ay a n 1) (.d id))(hm:s.mem id=some (.row n 1 e (G4 p)))(hy:AE s y=sv)(hr:Rdg w0 s.mem rd sv k 1 news)(hu:P.underlying dT=some (.slice e))(hs:(P.info? e).map (·.size)=some 1)
 (hkn:a+k≤n)(hk0:0<k)(h1:news.all (·.oneCell')=true)(hq: ∀xs,p xs→xs.length=n→q (xs.take a++news++xs.drop (a+k))):
 Ev P ops w0 o s ⟨.v (.int .i64 (k:Nat)),[(id,.row n 1 e (G4 q))],[id],[],id::rd⟩:=
 Ev.wrv id _ _ _ _ hgd hm (by simp) fun ρ S w hb hR=>by
  have e1:=AI s ρ x;rw[hx]at e1;have e2:=AI s ρ y;rw[hy]at e2;obtain⟨xs,hxl,hxe,hrow⟩:=relon_get hR hm (by simp)
  have hR2:RelOn w0.heap.size ρ S w (restr rd s.mem):=by
   have:=hR.restr rd
   have e:restr rd (restr (id::rd) s.mem)=restr rd s.mem:=by
    funext j;unfold restr
    by_cases h:j∈rd<;>simp[h]
   rwa [e]at this
  obtain⟨S1,ao,cp,h3,h4,h5,h6⟩:=hr ρ S w hb hR2;rw[Nat.mul_one]at h5 hxl;rcases h6 with h6|⟨ad,rfl,_,h6⟩
  ·exfalso;rw[h6]at h5;simp at h5;omega
  rcases hrow with⟨_,h⟩|⟨off,cap,cur,fz,h1',h2',h3',h4',h5',h6',h7',h8'⟩
  ·omega
  ·rw[h3]at e2
   have hdst: ∃cap',(s.act ρ).eval x= .slice (some ⟨(ρ id).g,off+a,none⟩) (n-a) cap':=by
    rw[e1];rcases hsx with⟨rfl,rfl⟩|rfl
    ·exact⟨cap,by simp only[SV.c,h1'];simp⟩
    ·refine⟨cap-a,?_⟩
     simp only[SV.c,h1',Ay];rw[if_neg (by omega)];simp[Addr.add];try omega
   obtain⟨cap',e1'⟩:=hdst;have hrun:=Vy (P:=P) w dT sT o.type e (ρ id).g (off+a) (n-a) cap' ad k cp cur e fz news hu hs h3' (NK h4') (by rw[h5];simp[Nat.min_def];omega) h6 (by rw[h5];omega) (fun u hu=>List.all_eq_true.1 h1 u hu);rw[h5]at hrun
   have hsz2:(cur.toList.take (off+a)++news++cur.toList.drop (off+a+k)).toArray.size=cur.size:=by
    simp only[List.size_toArray,List.length_append,List.length_take,List.length_drop,Array.length_toList,h5];omega
   refine⟨by simp only[Blk.owns];rw[h1'];simp,w.setRow (ρ id).g (cur.toList.take (off+a)++news++cur.toList.drop (off+a+k)).toArray,?_,⟨rfl,rfl,rfl,by simp,fun j hj=>setRow_other w _ j _ hj⟩,?_⟩
   ·unfold execOp
    simp only[ho,resolve,invoke,builtin,Sem.run_bind,Sem.run_pure,Result.andThen_ok,List.map_toArray,List.map_cons,List.map_nil,e1',e2,hrun,SV.c,goInt]
   ·refine⟨xs.take a++news++xs.drop (a+k),by simp only[List.length_append,List.length_take,List.length_drop,h5,hxl];omega,hq xs hxe hxl,.inr ⟨off,cap,_,fz,h1',h2',setRow_heap w (ρ id).g cur _ e _ h3',by rw[hsz2];exact h4',h5',h6',by rw[hsz2];exact h7',?_⟩⟩
    rw[Nat.mul_one]at h8'⊢;have hcl:cur.toList.length=cur.size:=Array.length_toList;apply List.ext_getElem?;intro i
    have hg: ∀j,j<n→cur.toList[off+j]? =xs[j]? :=fun j hj=>by
     rw[←h8',List.getElem?_take,if_pos hj,List.getElem?_drop]
    simp only[];rw[List.getElem?_take];by_cases hi:i<n
    ·rw[if_pos hi,List.getElem?_drop]
     by_cases c1:i<a
     ·rw[List.append_assoc,List.getElem?_append_left (by simp;omega),List.getElem?_take,if_pos (by omega),hg i hi,List.append_assoc,List.getElem?_append_left (by simp;omega),List.getElem?_take,if_pos c1]
     ·by_cases c2:i<a+k
      ·rw[List.append_assoc,List.getElem?_append_right (by simp;omega),List.getElem?_append_left (by simp;omega),List.append_assoc,List.getElem?_append_right (by simp;omega),List.getElem?_append_left (by simp;omega)]
       congr 1
       simp;omega
      ·rw[List.getElem?_append_right (by simp;omega),List.getElem?_drop,List.getElem?_append_right (by simp;omega),List.getElem?_drop]
       rw[show off+a+k+(off+i-(List.take (off+a) cur.toList++news).length)=off+i by simp;omega,show a+k+(i-(List.take a xs++news).length)=i by simp;omega];exact hg i hi
    ·rw[if_neg hi,List.getElem?_eq_none (by simp;omega)]
theorem gQ{w:World}{l:List Value}(hr:Rel w0 ρ s w)(hm:s.mem id=some (.row n 1 ty (G4 p)))(hp: ∀xs,p xs→xs.length=n→xs=l):BN w0 w (ρ id).val n 1 ty l:=by
 obtain⟨S,xs,h1,h2,h3⟩:=L2 hr hm;obtain rfl:=hp xs h2 (by simpa using h1);exact⟨(ρ id).g,h3⟩
theorem Vu(off:Nat): ∀(cs:List Value) (j:Nat) (l:List Value),off+j+cs.length≤l.length→
 (cs.zipIdx j).foldl (fun(a:Array Value) (x:Value×Nat)=>a.setIfInBounds (off+x.2) x.1) l.toArray=(l.take (off+j)++cs++l.drop (off+j+cs.length)).toArray
 | [],j,l,h=>by simp
 |c::cs,j,l,h=>by
  simp only[List.zipIdx_cons,List.foldl_cons,List.length_cons]at h⊢;rw[List.setIfInBounds_toArray,Vu off cs (j+1) _ (by simp;omega)];congr 1
  rw[List.take_set,List.drop_set,if_pos (by omega)]
  have e1:(l.take (off+(j+1))).set (off+j) c=l.take (off+j)++[c]:=by
   rw[show off+(j+1)=off+j+1 by omega,List.take_add_one,List.set_append_right _ _ (by simp;omega)];have:(l.take (off+j)).length=off+j:=by simp;omega
   rw[this,Nat.sub_self,List.getElem?_eq_getElem (by omega)];rfl
  rw[e1,show off+(j+1)+cs.length=off+j+(cs.length+1) by omega];simp
theorem aM(size:Nat): ∀(vs:List Value) (k:Nat) (pre rest:List Value),(∀v∈vs,v.cells.size=size)→pre.length=k*size→rest.length=vs.length*size→
 Instr.fill (fun i=>some (i*size,size)) (pre++rest).toArray ((vs.zipIdx k).map fun x=>(x.2,x.1))=some (pre++vs.flatMap (·.cells.toList)).toArray
 | [],k,pre,rest,_,_,hr=>by
   simp at hr;subst hr;simp[Instr.fill]
 |v::vs,k,pre,rest,hv,hp,hr=>by
  have hsz:=hv v (by simp);simp only[List.zipIdx_cons,List.map_cons,Instr.fill,List.length_cons,Nat.add_mul,Nat.one_mul]at hr⊢;rw[if_neg (by simp[hsz];omega)];have hf:=Vu (k*size) v.cells.toList 0 (pre++rest) (by simp[hsz];omega)
  have hz:Array.foldl (fun cs (x:Value×Nat)=>match x with|(c,j)=>cs.setIfInBounds (k*size+j) c) (pre++rest).toArray v.cells.zipIdx=(pre++v.cells.toList++rest.drop size).toArray:=by
   have e0:v.cells.zipIdx.toList=v.cells.toList.zipIdx 0:=by simp
   rw[←Array.foldl_toList,e0];refine Eq.trans ?_ (hf.trans ?_)
   ·rfl
   ·congr 1
    have hvl:v.cells.toList.length=size:=by rw[Array.length_toList];exact hsz
    rw[Nat.add_zero,←hp,List.take_left,hvl,List.drop_append,List.drop_of_length_le (by omega),List.nil_append,Nat.add_sub_cancel_left]
  rw[hz];have:=aM size vs (k+1) (pre++v.cells.toList) (rest.drop size) (fun u hu=>hv u (by simp[hu])) (by simp[hsz,hp,Nat.add_mul]) (by simp;omega);rw[this];simp
theorem NU{l:List SV}(rd:List Nat)(_hd:o.dst=some id)(ho:o.op= .buildSlice ty n parts)(hgd:AQ ops o s)
 (hp:parts.toList.map (·.1)=List.range' 0 n)(hx:parts.toList.map (fun p=>AE s p.2)=ys)(hls:ys.length=ls.length)
 (hc: ∀ρ S w,Bw w0 w→RelOn w0.heap.size ρ S w (restr rd s.mem)→ ∀(j:Nat) (y:SV) (lj:List SV),ys[j]? =some y→ls[j]? =some lj→(y.c ρ).cells.toList=SV.cs ρ lj)
 (hn: ∀lj∈ls,lj.length=size)(hl:ls.flatten=l)(hid:SV.hasL id l=false)
 (hu:P.underlying ty=some (.slice e))(hsz:(P.info? e).map (·.size)=some size)(hz:((P.info? e).bind (·.zero)).isSome=true)(hpos:0<n*size)(hsm:n*size≤2^24):
 Ev P ops w0 o s ⟨.s id 0 n n,[(id,.cells l e)],[],[id],rd⟩:=
 ⟨by simp[Eff.ok],.inr ⟨hgd,fun ρ S w hbw hR=>by
  have hyn:ys.length=n:=by
   have:=congrArg List.length hp;rw[List.length_map,List.length_range']at this;rw[←hx,List.length_map,this]
  have hvs: ∀v∈ys.map (SV.c ρ),v.cells.size=size:=by
   intro v hv;obtain⟨y,hy,rfl⟩:=List.mem_map.1 hv;obtain⟨j,hj,rfl⟩:=List.getElem_of_mem hy;have hjl:j<ls.length:=by omega
   have:=hc ρ S w hbw hR j ys[j] ls[j] (List.getElem?_eq_getElem hj) (List.getElem?_eq_getElem hjl);rw[←Array.length_toList,this,A8,List.length_map];exact hn _ (List.getElem_mem hjl)
  have hflat:(ys.map (SV.c ρ)).flatMap (·.cells.toList)=SV.cs ρ l:=by
   rw[←hl,A8,List.map_flatten];rw[List.flatMap_def,List.map_map];congr 1
   apply List.ext_getElem (by simp[hls]);intro j h1 h2;simp only[List.length_map]at h1 h2;have:=hc ρ S w hbw hR j ys[j] ls[j] (List.getElem?_eq_getElem h1) (List.getElem?_eq_getElem h2);simp[this,A8]
  have hparts:(parts.map fun(p:Nat×Operand)=>(p.1,(s.act ρ).eval p.2)).toList=((ys.map (SV.c ρ)).zipIdx 0).map fun x=>(x.2,x.1):=by
   apply List.ext_getElem?;intro j;have hpl:parts.toList.length=n:=by have:=congrArg List.length hp;simpa using this
   rw[Array.toList_map];by_cases hj:j<n
   ·have hjp:j<parts.toList.length:=by omega
    have h1:(parts.toList[j]).1=j:=by
     have h2:=congrArg (fun(q:List Nat)=>q[j]?) hp;simp only[List.getElem?_map,List.getElem?_eq_getElem hjp,Option.map_some]at h2;rw[List.getElem?_range' hj]at h2;simp at h2;simpa using h2
    have hjy:j<ys.length:=by omega
    have h3:AE s (parts.toList[j]).2=ys[j]:=by
     have h2:=congrArg (fun(q:List SV)=>q[j]?) hx;simp only[List.getElem?_map,List.getElem?_eq_getElem hjp,Option.map_some,List.getElem?_eq_getElem hjy,Option.some.injEq]at h2;exact h2
    rw[List.getElem?_map,List.getElem?_eq_getElem hjp,Option.map_some,List.getElem?_map,List.getElem?_zipIdx,List.getElem?_map,List.getElem?_eq_getElem hjy];simp only[Option.map_some,h1,AI,h3,Nat.zero_add]
   ·rw[List.getElem?_eq_none (by simp at hpl ⊢; omega),List.getElem?_eq_none (by simp;omega)]
  cases hie:P.info? e with
  |none=>simp[hie]at hsz
  |some ie=>
   have hsz':ie.size=size:=by simpa[hie] using hsz
   simp only[hie,Option.bind_some]at hz;obtain⟨z,hzz⟩:=Option.isSome_iff_exists.1 hz
   have hrun:=run_buildSlice (P:=P) w ty e n (parts.map fun(p:Nat×Operand)=>(p.1,(s.act ρ).eval p.2)) (SV.cs ρ l).toArray ie z hu hie hzz (by rw[hsz'];omega) (by rw[hsz'];omega) (by
    rw[hparts,hsz'];have:=aM size (ys.map (SV.c ρ)) 0 [] ((Array.range (n*size)).map (z.cells[· %z.cells.size]!)).toList hvs (by simp) (by simp[hyn]);rw[List.nil_append,Array.toArray_toList,List.nil_append,hflat]at this;exact this)
   refine .inl ⟨.slice (some ⟨w.heap.size,0,none⟩) n n,w.alloc (.cells (SV.cs ρ l).toArray e),?_,fun j=>if j=id then⟨w.heap.size,undef⟩else ρ j,fun _ _=>False,?_⟩
   ·simp only[execOp,ho]
    rw[Sem.run_bind,hrun];rfl
   ·have:=Cj (base:=w0.heap.size) (t:=s.mem) (ρ:=ρ) (S:=S) (w:=w) (w':=w.alloc (.cells (SV.cs ρ l).toArray e)) (val:= .s id 0 n n) (rd:=rd) (up:=[]) (id:=id) (b:= .cells l e) (m:=⟨w.heap.size,undef⟩) (S1:=fun _=>False)
     rfl rfl rfl (by simp) (fun k hk _=>heap_alloc_old w _ hk) (fun ρ' g1 g2=>by
      refine⟨by rw[g1];exact hbw.size,?_⟩;rw[g1];simp only[CP];rw[GI (nw:=[id]) (fun i hi=>g2 i (by simpa using hi)) (fun i hi=>by simp at hi;rw[hi];exact hid)];exact heap_alloc_new w _) (fun _ h=>h.elim) (fun _=> .inr ⟨Nat.le_refl _,fun h=>h⟩)
    simpa[SV.c] using this⟩⟩
theorem Ea{c:Code}{m:List (Nat×Blk)}{fr':(Nat→Value)→List SV}(keep:Nat→Bool)(drop:List Nat)(hf: ∀f,B0 keep f 0 fr=fr' f)(hm:BQ m drop=m')(h: ∀f,VOk P w0 ⟨fr' f,AJ m'⟩ c Q):VOk P w0 ⟨fr,AJ m⟩ c Q:=
 Jw keep drop fun f=>by rw[hf,hm];exact h f
end
end Go.Vx
