import Derived.Test.YtefpajmkaaielaaGreatDoorW23
import Derived.Test.YtefpajmkaaielaaGreatDoorW27
import Derived.Test.YtefpajmkaaielaaGreatDoorW28
import Derived.Test.YtefpajmkaaielaaGreatDoorW29
import Derived.Test.YtefpajmkaaielaaGreatDoorW30
import Derived.Test.YtefpajmkaaielaaGreatDoorW31
open Go.Proofs.Tryz
set_option maxHeartbeats 4000000
set_option maxRecDepth 100000
namespace Go.Proofs.YtefpajmkaaielaaGreatDoor
open Go.RowKit Go.Vx
variable(w:World){ops:Array Oper}{x z:Int}{Bs:List (List Nat)}{b ky rb rd:List Nat}{d i n now nw r' t' u:Nat}{r t:Nat→Nat}{S:Nat→Nat→Prop}{ρ:Nat→Nm}{P:Program}
open TollMont
open Go.Toll (Gw)
open TollEc (F pp cb Jp Pt AZ add base nn neg)
open TollSha (sha Ap)
def mky:Nat→List Nat
 |0=>Bm
 |1=>Ao
 |2=>Ay
 |3=>BB
 |4=>BA
 |5=>A9
 |_=>Cj
def mse(n:Nat):Nat:=904625697166532776746648320380374280103671755200316906558262375061821325312+n
def mcs(now u i:Nat):Crt:=mC (98+i) (97+i) now now (decide (0<i)) (i-1) (if i=0 then u else u+2) (mky i)
def mrc(n:Nat):Crt:=mC (97+n) (97+n) 0 1000 true (min (n-1) 5) 2 (mky n)
theorem Ik(h:n≤6)(w:World)(hL:Laid w):Calls prog 11 #[.int .u8 (n:Nat)] w fun e w'=> ∃v,e= .returned (.tuple #[B32 (mse n),v])∧BJ w w' v (mky n).length 1 5 ((mky n).map b8)∧Bw w w':=by
 have hl:(mky n).length=65:=by
  unfold mky;split<;>exact kr _ _
 rw[hl];rcases(by omega:n=0∨n=1∨n=2∨n=3∨n=4∨n=5∨n=6)with rfl|rfl|rfl|rfl|rfl|rfl|rfl
 ·exact k7 w hL
 ·exact Vj w hL
 ·exact Vi w hL
 ·exact k6 w hL
 ·exact k5 w hL
 ·exact kz w hL
 ·exact kx w hL
theorem KY(h:n≤6)(w:World):CBy 8 #[.int .u8 (n:Nat)] w (.string (AI [110,97+n])):=by
 rcases(by omega:n=0∨n=1∨n=2∨n=3∨n=4∨n=5∨n=6)with rfl|rfl|rfl|rfl|rfl|rfl|rfl
 ·exact Ud w
 ·exact Uc w
 ·exact Pg w
 ·exact gK w
 ·exact gJ w
 ·exact gI w
 ·exact gH w
structure Made(c:Crt)(d:Nat)(ky:List Nat)(r t:Nat):Prop where
 rR:r<R
 tR:t<R
 kn:Known c d r t
 ok:Bh ky (BK c) r t=0
theorem iS(hu:u=5∨u=9)(h:now<1000)(hi:i<6): ∃r t,Made (mcs now u i) (mse (i+1)) (mky (i+1)) r t:=by
 rcases hu with rfl|rfl
 ·rcases(by omega:i=0∨i=1∨i=2∨i=3∨i=4∨i=5)with rfl|rfl|rfl|rfl|rfl|rfl
  ·obtain⟨r,t,h1,h2,h3,h4⟩:=jr now h
   exact⟨r,t,h1,h2,h3,h4⟩
  ·obtain⟨r,t,h1,h2,h3,h4⟩:=jf now h
   exact⟨r,t,h1,h2,h3,h4⟩
  ·obtain⟨r,t,h1,h2,h3,h4⟩:=jT now h
   exact⟨r,t,h1,h2,h3,h4⟩
  ·obtain⟨r,t,h1,h2,h3,h4⟩:=jH now h
   exact⟨r,t,h1,h2,h3,h4⟩
  ·obtain⟨r,t,h1,h2,h3,h4⟩:=iy now h
   exact⟨r,t,h1,h2,h3,h4⟩
  ·obtain⟨r,t,h1,h2,h3,h4⟩:=ig now h
   exact⟨r,t,h1,h2,h3,h4⟩
 ·rcases(by omega:i=0∨i=1∨i=2∨i=3∨i=4∨i=5)with rfl|rfl|rfl|rfl|rfl|rfl
  ·obtain⟨r,t,h1,h2,h3,h4⟩:=jl now h
   exact⟨r,t,h1,h2,h3,h4⟩
  ·obtain⟨r,t,h1,h2,h3,h4⟩:=jZ now h
   exact⟨r,t,h1,h2,h3,h4⟩
  ·obtain⟨r,t,h1,h2,h3,h4⟩:=jN now h
   exact⟨r,t,h1,h2,h3,h4⟩
  ·obtain⟨r,t,h1,h2,h3,h4⟩:=jB now h
   exact⟨r,t,h1,h2,h3,h4⟩
  ·obtain⟨r,t,h1,h2,h3,h4⟩:=iq now h
   exact⟨r,t,h1,h2,h3,h4⟩
  ·obtain⟨r,t,h1,h2,h3,h4⟩:=iX now h
   exact⟨r,t,h1,h2,h3,h4⟩
theorem U8(hu:u=5∨u=9)(h:now<1000): ∃r t:Nat→Nat,∀i,i<6→Made (mcs now u i) (mse (i+1)) (mky (i+1)) (r i) (t i):=by
 have k:=fun i (hi:i<6)=>iS hu h hi
 refine⟨fun i=>if h:i<6 then(k i h).choose else 0,fun i=>if h:i<6 then(k i h).choose_spec.choose else 0,fun i hi=> ?_⟩;simp only[dif_pos hi];exact(k i hi).choose_spec.choose_spec
theorem gu(h1:1≤n)(h6:n≤6): ∃r t,Made (mrc n) (mse n) (mky n) r t:=by
 rcases(by omega:n=1∨n=2∨n=3∨n=4∨n=5∨n=6)with rfl|rfl|rfl|rfl|rfl|rfl
 ·obtain⟨r,t,h1,h2,h3,h4⟩:=iJ
  exact⟨r,t,h1,h2,h3,h4⟩
 ·obtain⟨r,t,h1,h2,h3,h4⟩:=iG
  exact⟨r,t,h1,h2,h3,h4⟩
 ·obtain⟨r,t,h1,h2,h3,h4⟩:=iB
  exact⟨r,t,h1,h2,h3,h4⟩
 ·obtain⟨r,t,h1,h2,h3,h4⟩:=hJ
  exact⟨r,t,h1,h2,h3,h4⟩
 ·obtain⟨r,t,h1,h2,h3,h4⟩:=g8
  exact⟨r,t,h1,h2,h3,h4⟩
 ·obtain⟨r,t,h1,h2,h3,h4⟩:=gy
  exact⟨r,t,h1,h2,h3,h4⟩
def mlv(now u i:Nat):List Value:=[.int .u8 (i:Nat),.int .u8 ((i+1:Nat):Int),.int .u8 ((i+1:Nat):Int),.int .i64 (now:Nat),.int .i64 (now:Nat),.bool (decide (0<i)),.int .i64 ((i-1:Nat):Int),.int .i64 (u:Nat)]
def mrv(n:Nat):List Value:=[.int .u8 (n:Nat),.int .u8 (n:Nat),.int .u8 (n:Nat),.int .i64 ((0:Nat):Int),.int .i64 ((1000:Nat):Int),.bool true,.int .i64 ((min (n-1) 5:Nat):Int),.int .i64 ((0:Nat):Int)]
theorem iP(hu:u=5∨u=9)(h:now<1000)(hi:i<6):mF (98+i) (97+i) now now (decide (0<i)) (i-1) (if i=0 then u else u+2) (mky i):=by
 rcases hu with rfl|rfl
 ·rcases(by omega:i=0∨i=1∨i=2∨i=3∨i=4∨i=5)with rfl|rfl|rfl|rfl|rfl|rfl
  ·exact VL now h
  ·exact VJ now h
  ·exact VH now h
  ·exact VF now h
  ·exact VC now h
  ·exact VA now h
 ·rcases(by omega:i=0∨i=1∨i=2∨i=3∨i=4∨i=5)with rfl|rfl|rfl|rfl|rfl|rfl
  ·exact VK now h
  ·exact VI now h
  ·exact VG now h
  ·exact VD now h
  ·exact VB now h
  ·exact U9 now h
theorem gv(h1:1≤n)(h6:n≤6):mF (97+n) (97+n) 0 1000 true (min (n-1) 5) 2 (mky n):=by
 rcases(by omega:n=1∨n=2∨n=3∨n=4∨n=5∨n=6)with rfl|rfl|rfl|rfl|rfl|rfl
 ·exact U5
 ·exact U4
 ·exact U3
 ·exact U2
 ·exact U1
 ·exact U0
noncomputable abbrev mby(c:Crt)(r t:Nat):List Nat:=(wrT (c.whole r t)).1
theorem gX(hu:u=5∨u=9)(h:now<1000)(hi:i<6){r t:Nat}(hm:Made (mcs now u i) (mse (i+1)) (mky (i+1)) r t)(w:World)(hL:Laid w)(hK:Au w)(hH:BD w)(hb1:8<w.heap.size):
 Calls prog 6 #[.agg (mlv now u i).toArray] w fun e w'=> ∃v,e= .returned v∧BJ w w' v (mby (mcs now u i) r t).length 1 5 ((mby (mcs now u i) r t).map b8)∧Bw w w':=by
 have hus:mUs u:= .inr hu;have hf:=iP hu h hi;have hk:=hm.kn;unfold mcs at hk;unfold mby mcs mlv
 have e1: ∀w,CBy 8 #[.int .u8 ((i+1:Nat):Int)] w (.string (AI [110,98+i])):=fun w=>by
  have:=KY (n:=i+1) (by omega) w;rw[show 97+(i+1)=98+i by omega]at this;exact this
 rcases Nat.eq_zero_or_pos i with h0|h0
 ·subst h0
  exact gZ w hL hK hH hb1 hf hk (Ik (n:=0) (by decide)) (Ik (n:=1) (by decide)) e1 (KY (n:=0) (by decide)) hus
 ·rw[decide_eq_true h0,if_neg (by omega: ¬i=0)]at hf hk⊢
  exact Uq w hL hK hH hb1 hf hk (Ik (by omega)) (Ik (n:=i+1) (by omega)) e1 (KY (by omega)) hus
theorem gT(h1:1≤n)(h6:n≤6){r t:Nat}(hm:Made (mrc n) (mse n) (mky n) r t)(w:World)(hL:Laid w)(hK:Au w)(hH:BD w)(hb1:8<w.heap.size):
 Calls prog 6 #[.agg (mrv n).toArray] w fun e w'=> ∃v,e= .returned v∧BJ w w' v (mby (mrc n) r t).length 1 5 ((mby (mrc n) r t).map b8)∧Bw w w':=by
 have hk:=hm.kn;unfold mrc at hk;unfold mby mrc mrv;exact Uq (u:=0) w hL hK hH hb1 (gv h1 h6) hk (Ik h6) (Ik h6) (KY h6) (KY h6) (.inl rfl)
theorem Pv{c:Crt}{r t:Nat}(h:Made c d ky r t): ∀x∈mby c r t,x<256:=FT (G1 h.kn.fit _ _)
theorem Pu{c:Crt}{r t:Nat}:(mby c r t).length≤1048576:=by have:=EW (c.whole r t);show(wrT (c.whole r t)).1.length≤1048576;omega
theorem Uj{c:Crt}{r t:Nat}(h:Made c d ky r t):DK (mby c r t) ky=0:=by
 unfold DK mby;rw[h.kn.rd];exact h.ok
theorem Ux{use:Nat}(hu:(u=5∧use=4)∨(u=9∧use=8))(hn:now<1000)(hm: ∀i,i<6→Made (mcs now u i) (mse (i+1)) (mky (i+1)) (r i) (t i))(h1:1≤n)(h5:n≤5)(hr:Made (mrc n) (mse n) (mky n) r' t'):
 Chn now use n (mcs now u) (fun i=>mby (mcs now u i) (r i) (t i)) [mby (mrc n) r' t'] where
 n0:=h1
 n5:=h5
 rd i hi:=⟨r i,t i,(hm i (by omega)).kn.rd⟩
 b8 i hi:=Pv (hm i (by omega))
 bl i _:=Pu
 t1 i _:=decide_eq_false (show¬((now:Nat):Int)<(now:Nat) by omega)
 t2 i _:=decide_eq_false (show¬((now:Nat):Int)>(now:Nat) by omega)
 ca i hi _:=⟨decide_eq_true hi,decide_eq_true (show(((i-1:Nat):Int))≥(i:Int)-1 by omega)⟩
 us:=by
  rcases hu with⟨rfl,rfl⟩|⟨rfl,rfl⟩
  ·exact⟨1,4,fun _ _ _=>by kernel_rfl,fun _ _ _=>by kernel_rfl,rfl,rfl⟩
  ·exact⟨1,8,fun _ _ _=>by kernel_rfl,fun _ _ _=>by kernel_rfl,rfl,rfl⟩
 lk i hi:=⟨by show [110,97+(i+1)]=[110,98+i];rw[show 97+(i+1)=98+i by omega],Uj (hm i (by omega))⟩
 rt:=by
  rw[List.any_cons,List.any_nil,Bool.or_false];unfold rok;have e:=hr.kn.rd;simp only[mby]at e⊢;rw[e]
  have e2:DK (wrT ((mcs now u (n-1)).whole (r (n-1)) (t (n-1)))).1 (mky n)=0:=by
   have:=Uj (hm (n-1) (by omega));rw[show n-1+1=n by omega]at this;exact this
  show(true && !decide (((min (n-1) 5:Nat):Int)<((n-1:Nat):Int)) && !decide (((now:Nat):Int)<0) && !decide (((now:Nat):Int)>1000) && !decide ([110,97+n]≠[110,98+(n-1)]) && decide (DK _ (mky n)=0))=true;rw[e2,decide_eq_false (by omega: ¬((min (n-1) 5:Nat):Int)<((n-1:Nat):Int)),decide_eq_false (by omega: ¬((now:Nat):Int)<0),decide_eq_false (by omega: ¬((now:Nat):Int)>1000),show 98+(n-1)=97+n by omega];simp
def unM(x:Int):Nat:=(IntKind.u64.wrap x).toNat
theorem Mg(x:Int)(w:World):(convert 3 22 (.int .i64 x)).run prog w= .ok (.int .u64 ((unM x:Nat):Int)) w:=by
 go_simp
 have h:IntKind.u64.wrap x=x %18446744073709551616:=by simp[IntKind.wrap,IntKind.bits,IntKind.signed]
 unfold unM;rw[h];omega
theorem Mf(h:n<9223372036854775808)(w:World):(convert 22 3 (.int .u64 (n:Nat))).run prog w= .ok (.int .i64 (n:Nat)) w:=by
 go_simp
 exact Af (by omega) (by omega)
theorem Pl(n m:Nat)(h:0<m):BOy .rem 22 (.int .u64 (n:Nat)) (.int .u64 (m:Nat)) (.int .u64 ((n %m:Nat):Int)):=by
 intro p q w
 go_simp
 rw[if_neg (by omega),Int.tmod_eq_emod_of_nonneg (by omega)]
theorem Uw(h:n≤6)(w:World):(convert 3 5 (.int .i64 (n:Nat))).run prog w= .ok (.int .u8 (n:Nat)) w:=by
 rcases(by omega:n=0∨n=1∨n=2∨n=3∨n=4∨n=5∨n=6)with rfl|rfl|rfl|rfl|rfl|rfl|rfl<;>kernel_rfl
theorem Yg(a b c f g p u:Int)(q:Bool):prog.built 25 [(0,.int .u8 a),(1,.int .u8 b),(2,.int .u8 c),(3,.int .i64 f),(4,.int .i64 g),(5,.bool q),(6,.int .i64 p),(7,.int .i64 u)]=some #[.int .u8 a,.int .u8 b,.int .u8 c,.int .i64 f,.int .i64 g,.bool q,.int .i64 p,.int .i64 u]:=by kernel_rfl
theorem Yf(a b c p:Int):prog.built 25 [(0,.int .u8 a),(1,.int .u8 b),(2,.int .u8 c),(4,.int .i64 1000),(5,.bool true),(6,.int .i64 p)]=some #[.int .u8 a,.int .u8 b,.int .u8 c,.int .i64 0,.int .i64 1000,.bool true,.int .i64 p,.int .i64 0]:=by kernel_rfl
theorem elM:C2 prog 25 8 48:=by unfold C2;kernel_rfl
theorem XD{w0:World}{o:Oper}{s:VS}{t:Array TypeId}{x y:Operand}{a:Nat}(ho:o.op= .call {callee:= .builtin .max,args:= #[x,y],argTypes:=t})(hgd:AR ops o s)(hx:AC s x= .v (.int .i64 ((a:Int)-1)))(hy:AC s y= .v (.int .i64 0)):
 Ev P ops w0 o s ⟨.v (.int .i64 ((a-1:Nat):Int)),[],[],[],[]⟩:=
 Ev.run _ _ hgd fun ρ S w hb hR=>by
  have e1:=AH s ρ x;rw[hx]at e1;have e2:=AH s ρ y;rw[hy]at e2;simp only[SV.c]at e1 e2;unfold execOp;simp only[ho,resolve,invoke,builtin,Sem.run_bind,Sem.run_pure,Result.andThen_ok,List.map_toArray,List.map_cons,List.map_nil,e1,e2,SV.c];by_cases h:a=0
  ·subst h;simp[Builtin.max_,Builtin.max2]
  ·have h2:((a-1:Nat):Int)=(a:Int)-1:=by omega
   rw[h2];simp[Builtin.max_,Builtin.max2];intro hh;omega
def mls(now u:Nat):Nat→List Value
 |0=>[]
 |n+1=>mls now u n++mlv now u n
theorem Un(now u i:Nat):(mlv now u i).length=8:=rfl
theorem Ij(now u:Nat): ∀n,(mls now u n).length=n*8
 |0=>rfl
 |n+1=>by rw[mls,List.length_append,Ij now u n,Un];omega
theorem Up(now u:Nat){i:Nat}: ∀{n:Nat},i<n→((mls now u n).drop (i*8)).take 8=mlv now u i
 |n+1,h=>by
  rw[mls];rcases Nat.lt_or_ge i n with h1|h1
  ·have hl:=Ij now u n
   rw[List.drop_append_of_le_length (by omega),List.take_append_of_le_length (by rw[List.length_drop];omega)];exact Up now u h1
  ·have e:i=n:=by omega
   subst e;rw[List.drop_append,List.drop_eq_nil_of_le (by rw[Ij];omega),Ij,Nat.sub_self,List.nil_append,List.drop_zero,List.take_of_length_le (by rw[Un];omega)]
theorem Uo(now u i:Nat):(mlv now u i).all (·.oneCell')=true:=rfl
noncomputable def mbs(now u:Nat)(r t:Nat→Nat)(n:Nat):List (List Nat):=(List.range n).map fun i=>mby (mcs now u i) (r i) (t i)
theorem KZ(now u:Nat)(r t:Nat→Nat)(n:Nat):(mbs now u r t n).length=n:=by rw[mbs,List.length_map,List.length_range]
theorem gf(h:(mbs now u r t n)[i]? =some b):i<n∧b=mby (mcs now u i) (r i) (t i):=by
 rw[mbs,List.getElem?_map]at h;rcases Nat.lt_or_ge i n with h1|h1
 ·rw[List.getElem?_range h1]at h
  simp only[Option.map_some,Option.some.injEq]at h;exact⟨h1,h.symm⟩
 ·rw[List.getElem?_eq_none (by rw[List.length_range];exact h1)]at h
  cases h
theorem Uy(h:i<n):(mbs now u r t n)[i]? =some (mby (mcs now u i) (r i) (t i)):=by
 rw[mbs,List.getElem?_map,List.getElem?_range h];rfl
theorem Uk(hu:u=5∨u=9)(h:now<1000)(hm: ∀i,i<6→Made (mcs now u i) (mse (i+1)) (mky (i+1)) (r i) (t i))(h6:n≤6){lv:Value}{F:Nat→Prop}(w:World)(hL:Laid w)(hK:Au w)(hH:BD w)(hb1:8<w.heap.size)(hv:AJ w lv n 8 (mls now u n) F):
 CDy 5 #[lv,.int .i64 9] w (FN (mbs now u r t n)):=by
 have hl:=KZ now u r t n;refine cX (ls:=mls now u n) (m:=9) w (by omega) (by omega) (by rw[hl];exact hv) fun i b hb=> ?_
 obtain⟨h1,rfl⟩:=gf hb;rw[Up now u h1];exact⟨rfl,fun w' hw=>gX hu h (by omega) (hm i (by omega)) w' (hL.bw hw) (hK.bw hw) (hH.bw hw) (Nat.lt_of_lt_of_le hb1 hw.size)⟩
theorem Mh{w:World}{base:Nat}{m:Mem}(hR:RelOn base ρ S w (restr rd m))(i63:63∈rd)(i65:65∈rd)(i66:66∈rd)(h63:m 63=some (.dat (FN Bs)))(h65:m 65=some (.row rb.length 1 5 (.exact (rb.map b8))))(h66:m 66=some (.cells [.d 65] 26)):
 ∃vs F G,AJ w (ρ 63).val Bs.length 1 vs F∧BZ w F Bs vs∧AJ w (SV.c ρ (.s 66 0 1 1)) 1 1 [(ρ 65).val] G∧BZ w G [rb] [(ρ 65).val]:=by
 obtain⟨v,e,vs,h1,h2⟩:=Fb hR i63 h63;simp only[List.cons.injEq,and_true]at e;subst e;have h3:=LC hR i66 h66;have h4:=Dq hR i65 h65;exact⟨vs,S 63,fun k=>k=(ρ 66).g∨k=(ρ 65).g,h1,h2,Fa (fun k hk=>Or.inl hk) h3,Fa (fun k hk=>Or.inr hk) h4,trivial⟩
theorem qY{base:Nat}{m:Mem}(hL:Laid w)(hK:Au w)(hH:BD w)(_hE:EE w)(hb1:8<w.heap.size)(hR:RelOn base ρ S w (restr rd m))(i63:63∈rd)(i65:65∈rd)(i66:66∈rd)(h63:m 63=some (.dat (FN (mbs now 5 r t n))))(h65:m 65=some (.row (mby (mrc n) r' t').length 1 5 (.exact ((mby (mrc n) r' t').map b8))))(h66:m 66=some (.cells [.d 65] 26))(hn:now<1000)(hm: ∀i,i<6→Made (mcs now 5 i) (mse (i+1)) (mky (i+1)) (r i) (t i))(h1:1≤n)(h5:n≤5)(hr:Made (mrc n) (mse n) (mky n) r' t'):
 Calls prog 4 (SV.cs ρ [.d 63,.s 66 0 1 1,.v (.int .i64 (now:Nat)),.v (.int .i64 4)]).toArray w fun e w'=> ∃u,e= .returned (.tuple #[u,.int .i64 0,.int .i64 0])∧BO w w' u (Bg (mcs now 5 0))∧Bw w w':=by
 obtain⟨vs,F,G,k1,k2,k3,k4⟩:=Mh hR i63 i65 i66 h63 h65 h66;rw[KZ]at k1;have hc:=Ux (u:=5) (use:=4) (by decide) hn hm h1 h5 hr;exact qK (vs:=vs) (F:=F) (F':=F) w hL hK hH hb1 hc k1 (fun i hi=>k2.get (Uy hi)) k3 k4 (Nat.le_of_ble_eq_true rfl) (fun b hb=>by rcases List.mem_singleton.1 hb with rfl;exact⟨Pv hr,Pu⟩)
theorem qU{base:Nat}{m:Mem}(hL:Laid w)(hK:Au w)(hH:BD w)(_hE:EE w)(hb1:8<w.heap.size)(hR:RelOn base ρ S w (restr rd m))(i63:63∈rd)(i65:65∈rd)(i66:66∈rd)(h63:m 63=some (.dat (FN (mbs now 9 r t n))))(h65:m 65=some (.row (mby (mrc n) r' t').length 1 5 (.exact ((mby (mrc n) r' t').map b8))))(h66:m 66=some (.cells [.d 65] 26))(hn:now<1000)(hm: ∀i,i<6→Made (mcs now 9 i) (mse (i+1)) (mky (i+1)) (r i) (t i))(h1:1≤n)(h5:n≤5)(hr:Made (mrc n) (mse n) (mky n) r' t'):
 Calls prog 4 (SV.cs ρ [.d 63,.s 66 0 1 1,.v (.int .i64 (now:Nat)),.v (.int .i64 8)]).toArray w fun e w'=> ∃u,e= .returned (.tuple #[u,.int .i64 0,.int .i64 0])∧BO w w' u (Bg (mcs now 9 0))∧Bw w w':=by
 obtain⟨vs,F,G,k1,k2,k3,k4⟩:=Mh hR i63 i65 i66 h63 h65 h66;rw[KZ]at k1;have hc:=Ux (u:=9) (use:=8) (by decide) hn hm h1 h5 hr;exact qJ (vs:=vs) (F:=F) (F':=F) w hL hK hH hb1 hc k1 (fun i hi=>k2.get (Uy hi)) k3 k4 (Nat.le_of_ble_eq_true rfl) (fun b hb=>by rcases List.mem_singleton.1 hb with rfl;exact⟨Pv hr,Pu⟩)
theorem qX{base:Nat}{m:Mem}(hR:RelOn base ρ S w (restr rd m))(i63:63∈rd)(i65:65∈rd)(i66:66∈rd)(h63:m 63=some (.dat (FN (mbs now 5 r t n))))(h65:m 65=some (.row (mby (mrc n) r' t').length 1 5 (.exact ((mby (mrc n) r' t').map b8))))(h66:m 66=some (.cells [.d 65] 26))(h6:n=6)(use:Int):
 CBy 4 (SV.cs ρ [.d 63,.s 66 0 1 1,.v (.int .i64 (now:Nat)),.v (.int .i64 use)]).toArray w (.tuple #[CZ,.int .i64 0,.int .i64 1]):=by
 obtain⟨vs,F,G,k1,k2,k3,k4⟩:=Mh hR i63 i65 i66 h63 h65 h66;rw[KZ,h6]at k1;exact YP w k1
theorem qV{base:Nat}{m:Mem}(hR:RelOn base ρ S w (restr rd m))(i63:63∈rd)(i65:65∈rd)(i66:66∈rd)(h63:m 63=some (.dat (FN (mbs now 9 r t n))))(h65:m 65=some (.row (mby (mrc n) r' t').length 1 5 (.exact ((mby (mrc n) r' t').map b8))))(h66:m 66=some (.cells [.d 65] 26))(h6:n=6)(use:Int):
 CBy 4 (SV.cs ρ [.d 63,.s 66 0 1 1,.v (.int .i64 (now:Nat)),.v (.int .i64 use)]).toArray w (.tuple #[CZ,.int .i64 0,.int .i64 1]):=by
 obtain⟨vs,F,G,k1,k2,k3,k4⟩:=Mh hR i63 i65 i66 h63 h65 h66;rw[KZ,h6]at k1;exact YP w k1
theorem gi{m:Nat}(hL:Laid w)(hK:Au w)(hH:BD w)(hE:EE w)(hb1:8<w.heap.size)(hm:unM x %6=m)(hn:m+1=n)(hn6:n≤6)(hv:unM z %1000=nw)(hnw:nw<1000)(hM: ∀i,i<6→Made (mcs nw 5 i) (mse (i+1)) (mky (i+1)) (r i) (t i))(hr':Made (mrc n) (mse n) (mky n) r' t'):CBy 3 #[.int .i64 x,.int .i64 z,.bool false] w (.bool true):=by
 go_enter func3,ntmps3
 refine AO ?_;iterate 7 refine AA ?_
 refine AB (by exact A5 (c:= .int .u64 ((unM x:Nat):Int)) rfl gg rfl (fun w=>Mg _ w)) ?_;refine AB (by exact AN (c:= .int .u64 ((m:Nat):Int)) rfl gg rfl rfl (fun w=>by have h:=Pl (unM x) 6 (by decide);rw[hm]at h;exact h _ _ w)) ?_;refine AB (by exact A5 (c:= .int .i64 ((m:Nat):Int)) rfl gg rfl (fun w=>Mf (by omega) w)) ?_;refine AB (by exact A2 (c:=((n:Nat):Int)) rfl gg rfl rfl (by rw[Af (by omega) (by omega)];omega)) ?_;iterate 5 refine AA ?_
 refine AB (by exact A5 (c:= .int .u64 ((unM z:Nat):Int)) rfl gg rfl (fun w=>Mg _ w)) ?_;refine Xe ?_;refine AB (by exact A5 (c:= .int .i64 ((nw:Nat):Int)) rfl gg rfl (fun w=>Mf (by omega) w)) ?_;iterate 24 refine AA ?_
 refine B7 (α:={i:Nat // i≤n}) (fun(x:{i:Nat // i≤n}) f=>⟨.v (f 0):: .v (.int .i64 (nw:Nat)):: .v (f 2):: .v (f 3):: .v (f 4):: .v (f 5):: .v (f 6):: .v (.int .i64 (n:Nat)):: .v (.int .i64 4):: .v (.int .i64 5):: .d 900:: .v (.int .i64 (x.1:Nat))::fv f 87 12 [],AK [(900,.row x.1 8 25 (.exact (mls nw 5 x.1)))]⟩) (fun x=>n-x.1) ?_ (⟨0,Nat.zero_le _⟩) ?_
 ·rintro⟨i,hi⟩ f
  rcases Nat.lt_or_ge i n with hlt|hge
  ·skip
   change VOk _ _ _ _ _;simp only[fv,Nat.reduceAdd];iterate 5 refine AA ?_
   refine NV ?_;iterate 8 refine AA ?_
   refine Gm ?_;refine AA ?_;refine Fc ?_;refine NW ?_;refine AA ?_;refine Fc ?_;refine NW ?_;iterate 3 refine AA ?_
   refine AB (by exact Bf (p:=decide (0<i)) rfl gg rfl rfl (by by_cases h:0<i<;>simp[h])) ?_;refine AA ?_;refine AB (by exact CF (c:=((i:Nat):Int)-1) rfl gg rfl rfl (by rw[Af (by omega) (by omega)])) ?_;refine AB (by exact XD (a:=i) rfl gg rfl rfl) ?_;refine AA ?_;refine AB (by exact Ar (cells:= #[(.int .u8 (i:Nat)),(.int .u8 ((i+1:Nat):Int)),(.int .u8 ((i+1:Nat):Int)),(.int .i64 (nw:Nat)),(.int .i64 (nw:Nat)),(.bool (decide (0<i))),(.int .i64 ((i-1:Nat):Int)),(.int .i64 5)]) rfl gg rfl (Yg _ _ _ _ _ _ _ _)) ?_;refine AB (by exact JH (ys:=[.v (.agg #[(.int .u8 (i:Nat)),(.int .u8 ((i+1:Nat):Int)),(.int .u8 ((i+1:Nat):Int)),(.int .i64 (nw:Nat)),(.int .i64 (nw:Nat)),(.bool (decide (0<i))),(.int .i64 ((i-1:Nat):Int)),(.int .i64 5)])]) (size:=8) (l:=[(.v (.int .u8 (i:Nat))),(.v (.int .u8 ((i+1:Nat):Int))),(.v (.int .u8 ((i+1:Nat):Int))),(.v (.int .i64 (nw:Nat))),(.v (.int .i64 (nw:Nat))),(.v (.bool (decide (0<i)))),(.v (.int .i64 ((i-1:Nat):Int))),(.v (.int .i64 5))]) (ls:=[[(.v (.int .u8 (i:Nat))),(.v (.int .u8 ((i+1:Nat):Int))),(.v (.int .u8 ((i+1:Nat):Int))),(.v (.int .i64 (nw:Nat))),(.v (.int .i64 (nw:Nat))),(.v (.bool (decide (0<i)))),(.v (.int .i64 ((i-1:Nat):Int))),(.v (.int .i64 5))]]) [] rfl rfl gg rfl rfl rfl (fun ρ S w' hb hR j y lj hy hl=>by rcases j with _|j<;>simp only[List.getElem?_cons_zero,List.getElem?_cons_succ,List.getElem?_nil,Option.some.injEq,reduceCtorEq]at hy hl<;>(subst hy hl;rfl)) (by simp) rfl rfl underlying23 (by kernel_rfl) (by kernel_rfl) (by decide) (by decide)) ?_;refine AB (by exact C1 (id:=900) (n:=i) (k:=1) (xs:=mls nw 5 i) (news:=mlv nw 5 i) rfl rfl gg rfl rfl rfl (GK (id:=49) rfl rfl rfl (by decide)) underlying23 elM (by decide) (Ij _ _ _) (Uo _ _ _) (by simp only[maxLen];omega) (by omega) rfl) ?_;iterate 4 refine AA ?_
   refine Fc ?_;iterate 2 refine AA ?_
   refine⟨⟨i+1,by omega⟩,by show n-(i+1)<n-i;omega,?_⟩;exact(Al (fun i=>i==1||i==7||i==8||i==9||i==10||i==11) [49]).trans2 (fun f=>DI 50 900 (by decide) rfl)
  ·have e:i=n:=by omega
   subst e;change VOk _ _ _ _ _;simp only[fv,Nat.reduceAdd];iterate 5 refine AA ?_
   refine LA ?_;iterate 2 refine k_g ?_
   refine Aq ?_;change VOk _ _ _ _ _;iterate 3 refine AA ?_
   refine Gm ?_;refine AA ?_;refine Gm ?_;refine AA ?_;refine Gm ?_;refine AA ?_;refine AB (by exact CF (c:=((i-1:Nat):Int)) rfl gg rfl rfl (by rw[Af (by omega) (by omega)];omega)) ?_;refine AB (by exact Hk (a:=i-1) (b:=5) (c:=min (i-1) 5) rfl gg rfl rfl rfl) ?_;refine AB (by exact Ar (cells:=(mrv i).toArray) rfl gg rfl (Yf _ _ _ _)) ?_;refine AB (by exact Bq rfl rfl gg zeroValue25) ?_;refine AB (by exact Be rfl gg rfl rfl rfl sizeOf25 rfl (by simp) rfl) ?_;iterate 2 refine k_g ?_
   rcases(by omega:i≤5∨i=6)with h5|h6
   ·skip
    iterate 2 refine AA ?_
    refine Xk ?_;refine AA ?_;refine e_7 ?_;refine NX ?_;iterate 2 refine AA ?_
    refine AB (by exact Cg (D:=Bg (mcs nw 5 0)) (ys:=[.int .i64 0,.int .i64 0]) [63,66,65] rfl rfl gg rfl (eo func4) (fun ρ S w' hw hR=>qY w' (hL.bw hw) (hK.bw hw) (hH.bw hw) (hE.bw hb1 hw) (Nat.lt_of_lt_of_le hb1 (Below.size hw)) hR (by simp) (by simp) (by simp) rfl rfl rfl hnw hM (by omega) h5 hr')) ?_;iterate 5 refine AA ?_
    refine AB (by exact Az (vl:=[.v (.int .i64 (mcs nw 5 0).se),.v (.string (AI (mcs nw 5 0).is)),.v (.string (AI (mcs nw 5 0).su)),.v (.int .i64 (mcs nw 5 0).fr),.v (.int .i64 (mcs nw 5 0).to),.fn (AU 5) (.d 69),.v (.bool (mcs nw 5 0).ca),.v (.int .i64 (mcs nw 5 0).pa),.v (.int .i64 (mcs nw 5 0).us)]) [69,13] rfl gg rfl rfl rfl sizeOf28 rfl (fun ρ S w' _ hR=>by obtain⟨kv,e,h⟩:=Ca (id:=69) hR (by simp) rfl;exact Ch e h) rfl (by simp)) ?_;iterate 7 refine AA ?_
    refine AB (by exact Bf (p:=false) rfl gg rfl rfl (decide_eq_false (by omega))) ?_;iterate 5 refine k_g ?_
    refine NY ?_;iterate 2 refine AA ?_
    refine GM ?_;iterate 2 refine AA ?_
    refine GM ?_;iterate 3 refine AA ?_
    refine Xf ?_;refine Xg ?_;refine k_9 ?_;iterate 2 refine AA ?_
    exact AG (AD (AM results3 (AE rfl)) fun _ _ hr=>⟨rfl,hr.1⟩)
   ·skip
    iterate 2 refine AA ?_
    refine Xk ?_;refine AA ?_;refine e_7 ?_;refine NX ?_;iterate 2 refine AA ?_
    refine AB (by exact Aj (v:= .tuple #[CZ,.int .i64 0,.int .i64 1]) [63,66,65] rfl gg rfl (eo func4) (fun ρ S w' hw hR=>qX w' hR (by simp) (by simp) (by simp) rfl rfl rfl h6 _)) ?_;iterate 5 refine AA ?_
    refine AB (by exact Be rfl gg rfl rfl rfl sizeOf28 rfl (by simp) rfl) ?_;iterate 7 refine AA ?_
    refine AB (by exact Bf (p:=true) rfl gg rfl rfl (decide_eq_true (by omega))) ?_;iterate 4 refine k_g ?_
    refine NY ?_;iterate 2 refine AA ?_
    refine GM ?_;iterate 2 refine AA ?_
    refine GM ?_;iterate 2 refine AA ?_
    exact AG (AD (AM results3 (AE rfl)) fun _ _ hr=>⟨rfl,hr.1⟩)
 ·refine(Al (fun i=>i==1||i==7||i==8||i==9||i==10||i==11) []).trans2 (fun f=> ?_)
  refine(Jc 900 8 25 (.exact []) (fun w=>rfl) (m':=[]) rfl rfl (fun ρ hv=> ?_) (fun ρ hv=> ?_))
  ·simp[fv,CC,SV.cs,SV.c,hv,Bb]
  ·simp[GW,BS]
theorem gh{m:Nat}(hL:Laid w)(hK:Au w)(hH:BD w)(hE:EE w)(hb1:8<w.heap.size)(hm:unM x %6=m)(hn:m+1=n)(hn6:n≤6)(hv:unM z %1000=nw)(hnw:nw<1000)(hM: ∀i,i<6→Made (mcs nw 9 i) (mse (i+1)) (mky (i+1)) (r i) (t i))(hr':Made (mrc n) (mse n) (mky n) r' t'):CBy 3 #[.int .i64 x,.int .i64 z,.bool true] w (.bool true):=by
 go_enter func3,ntmps3
 refine AO ?_;iterate 7 refine AA ?_
 refine AB (by exact A5 (c:= .int .u64 ((unM x:Nat):Int)) rfl gg rfl (fun w=>Mg _ w)) ?_;refine AB (by exact AN (c:= .int .u64 ((m:Nat):Int)) rfl gg rfl rfl (fun w=>by have h:=Pl (unM x) 6 (by decide);rw[hm]at h;exact h _ _ w)) ?_;refine AB (by exact A5 (c:= .int .i64 ((m:Nat):Int)) rfl gg rfl (fun w=>Mf (by omega) w)) ?_;refine AB (by exact A2 (c:=((n:Nat):Int)) rfl gg rfl rfl (by rw[Af (by omega) (by omega)];omega)) ?_;iterate 5 refine AA ?_
 refine AB (by exact A5 (c:= .int .u64 ((unM z:Nat):Int)) rfl gg rfl (fun w=>Mg _ w)) ?_;refine Xe ?_;refine AB (by exact A5 (c:= .int .i64 ((nw:Nat):Int)) rfl gg rfl (fun w=>Mf (by omega) w)) ?_;iterate 27 refine AA ?_
 refine B7 (α:={i:Nat // i≤n}) (fun(x:{i:Nat // i≤n}) f=>⟨.v (f 0):: .v (.int .i64 (nw:Nat)):: .v (f 2):: .v (f 3):: .v (f 4):: .v (f 5):: .v (f 6):: .v (.int .i64 (n:Nat)):: .v (.int .i64 8):: .v (.int .i64 9):: .d 900:: .v (.int .i64 (x.1:Nat))::fv f 87 12 [],AK [(900,.row x.1 8 25 (.exact (mls nw 9 x.1)))]⟩) (fun x=>n-x.1) ?_ (⟨0,Nat.zero_le _⟩) ?_
 ·rintro⟨i,hi⟩ f
  rcases Nat.lt_or_ge i n with hlt|hge
  ·skip
   change VOk _ _ _ _ _;simp only[fv,Nat.reduceAdd];iterate 5 refine AA ?_
   refine NV ?_;iterate 8 refine AA ?_
   refine Gm ?_;refine AA ?_;refine Fc ?_;refine NW ?_;refine AA ?_;refine Fc ?_;refine NW ?_;iterate 3 refine AA ?_
   refine AB (by exact Bf (p:=decide (0<i)) rfl gg rfl rfl (by by_cases h:0<i<;>simp[h])) ?_;refine AA ?_;refine AB (by exact CF (c:=((i:Nat):Int)-1) rfl gg rfl rfl (by rw[Af (by omega) (by omega)])) ?_;refine AB (by exact XD (a:=i) rfl gg rfl rfl) ?_;refine AA ?_;refine AB (by exact Ar (cells:= #[(.int .u8 (i:Nat)),(.int .u8 ((i+1:Nat):Int)),(.int .u8 ((i+1:Nat):Int)),(.int .i64 (nw:Nat)),(.int .i64 (nw:Nat)),(.bool (decide (0<i))),(.int .i64 ((i-1:Nat):Int)),(.int .i64 9)]) rfl gg rfl (Yg _ _ _ _ _ _ _ _)) ?_;refine AB (by exact JH (ys:=[.v (.agg #[(.int .u8 (i:Nat)),(.int .u8 ((i+1:Nat):Int)),(.int .u8 ((i+1:Nat):Int)),(.int .i64 (nw:Nat)),(.int .i64 (nw:Nat)),(.bool (decide (0<i))),(.int .i64 ((i-1:Nat):Int)),(.int .i64 9)])]) (size:=8) (l:=[(.v (.int .u8 (i:Nat))),(.v (.int .u8 ((i+1:Nat):Int))),(.v (.int .u8 ((i+1:Nat):Int))),(.v (.int .i64 (nw:Nat))),(.v (.int .i64 (nw:Nat))),(.v (.bool (decide (0<i)))),(.v (.int .i64 ((i-1:Nat):Int))),(.v (.int .i64 9))]) (ls:=[[(.v (.int .u8 (i:Nat))),(.v (.int .u8 ((i+1:Nat):Int))),(.v (.int .u8 ((i+1:Nat):Int))),(.v (.int .i64 (nw:Nat))),(.v (.int .i64 (nw:Nat))),(.v (.bool (decide (0<i)))),(.v (.int .i64 ((i-1:Nat):Int))),(.v (.int .i64 9))]]) [] rfl rfl gg rfl rfl rfl (fun ρ S w' hb hR j y lj hy hl=>by rcases j with _|j<;>simp only[List.getElem?_cons_zero,List.getElem?_cons_succ,List.getElem?_nil,Option.some.injEq,reduceCtorEq]at hy hl<;>(subst hy hl;rfl)) (by simp) rfl rfl underlying23 (by kernel_rfl) (by kernel_rfl) (by decide) (by decide)) ?_;refine AB (by exact C1 (id:=900) (n:=i) (k:=1) (xs:=mls nw 9 i) (news:=mlv nw 9 i) rfl rfl gg rfl rfl rfl (GK (id:=49) rfl rfl rfl (by decide)) underlying23 elM (by decide) (Ij _ _ _) (Uo _ _ _) (by simp only[maxLen];omega) (by omega) rfl) ?_;iterate 4 refine AA ?_
   refine Fc ?_;iterate 2 refine AA ?_
   refine⟨⟨i+1,by omega⟩,by show n-(i+1)<n-i;omega,?_⟩;exact(Al (fun i=>i==1||i==7||i==8||i==9||i==10||i==11) [49]).trans2 (fun f=>DI 50 900 (by decide) rfl)
  ·have e:i=n:=by omega
   subst e;change VOk _ _ _ _ _;simp only[fv,Nat.reduceAdd];iterate 5 refine AA ?_
   refine LA ?_;iterate 2 refine k_g ?_
   refine Aq ?_;change VOk _ _ _ _ _;iterate 3 refine AA ?_
   refine Gm ?_;refine AA ?_;refine Gm ?_;refine AA ?_;refine Gm ?_;refine AA ?_;refine AB (by exact CF (c:=((i-1:Nat):Int)) rfl gg rfl rfl (by rw[Af (by omega) (by omega)];omega)) ?_;refine AB (by exact Hk (a:=i-1) (b:=5) (c:=min (i-1) 5) rfl gg rfl rfl rfl) ?_;refine AB (by exact Ar (cells:=(mrv i).toArray) rfl gg rfl (Yf _ _ _ _)) ?_;refine AB (by exact Bq rfl rfl gg zeroValue25) ?_;refine AB (by exact Be rfl gg rfl rfl rfl sizeOf25 rfl (by simp) rfl) ?_;iterate 2 refine k_g ?_
   rcases(by omega:i≤5∨i=6)with h5|h6
   ·skip
    iterate 2 refine AA ?_
    refine Xj ?_;refine AA ?_;refine e_7 ?_;refine NX ?_;iterate 2 refine AA ?_
    refine AB (by exact Cg (D:=Bg (mcs nw 9 0)) (ys:=[.int .i64 0,.int .i64 0]) [63,66,65] rfl rfl gg rfl (eo func4) (fun ρ S w' hw hR=>qU w' (hL.bw hw) (hK.bw hw) (hH.bw hw) (hE.bw hb1 hw) (Nat.lt_of_lt_of_le hb1 (Below.size hw)) hR (by simp) (by simp) (by simp) rfl rfl rfl hnw hM (by omega) h5 hr')) ?_;iterate 5 refine AA ?_
    refine AB (by exact Az (vl:=[.v (.int .i64 (mcs nw 9 0).se),.v (.string (AI (mcs nw 9 0).is)),.v (.string (AI (mcs nw 9 0).su)),.v (.int .i64 (mcs nw 9 0).fr),.v (.int .i64 (mcs nw 9 0).to),.fn (AU 5) (.d 69),.v (.bool (mcs nw 9 0).ca),.v (.int .i64 (mcs nw 9 0).pa),.v (.int .i64 (mcs nw 9 0).us)]) [69,13] rfl gg rfl rfl rfl sizeOf28 rfl (fun ρ S w' _ hR=>by obtain⟨kv,e,h⟩:=Ca (id:=69) hR (by simp) rfl;exact Ch e h) rfl (by simp)) ?_;iterate 7 refine AA ?_
    refine AB (by exact Bf (p:=false) rfl gg rfl rfl (decide_eq_false (by omega))) ?_;iterate 5 refine k_g ?_
    refine NY ?_;iterate 2 refine AA ?_
    refine GM ?_;iterate 2 refine AA ?_
    refine GM ?_;iterate 3 refine AA ?_
    refine Xf ?_;refine Xg ?_;refine k_9 ?_;iterate 2 refine AA ?_
    exact AG (AD (AM results3 (AE rfl)) fun _ _ hr=>⟨rfl,hr.1⟩)
   ·skip
    iterate 2 refine AA ?_
    refine Xj ?_;refine AA ?_;refine e_7 ?_;refine NX ?_;iterate 2 refine AA ?_
    refine AB (by exact Aj (v:= .tuple #[CZ,.int .i64 0,.int .i64 1]) [63,66,65] rfl gg rfl (eo func4) (fun ρ S w' hw hR=>qV w' hR (by simp) (by simp) (by simp) rfl rfl rfl h6 _)) ?_;iterate 5 refine AA ?_
    refine AB (by exact Be rfl gg rfl rfl rfl sizeOf28 rfl (by simp) rfl) ?_;iterate 7 refine AA ?_
    refine AB (by exact Bf (p:=true) rfl gg rfl rfl (decide_eq_true (by omega))) ?_;iterate 4 refine k_g ?_
    refine NY ?_;iterate 2 refine AA ?_
    refine GM ?_;iterate 2 refine AA ?_
    refine GM ?_;iterate 2 refine AA ?_
    exact AG (AD (AM results3 (AE rfl)) fun _ _ hr=>⟨rfl,hr.1⟩)
 ·refine(Al (fun i=>i==1||i==7||i==8||i==9||i==10||i==11) []).trans2 (fun f=> ?_)
  refine(Jc 900 8 25 (.exact []) (fun w=>rfl) (m':=[]) rfl rfl (fun ρ hv=> ?_) (fun ρ hv=> ?_))
  ·simp[fv,CC,SV.cs,SV.c,hv,Bb]
  ·simp[GW,BS]
theorem gj{q:Bool}(hL:Laid w)(hK:Au w)(hH:BD w)(hE:EE w)(hb1:8<w.heap.size):CBy 3 #[.int .i64 x,.int .i64 z,.bool q] w (.bool true):=by
 obtain⟨m,hm⟩: ∃m,unM x %6=m:=⟨_,rfl⟩
 obtain⟨nw,hv⟩: ∃m,unM z %1000=m:=⟨_,rfl⟩
 have hm6:m<6:=by omega
 have hnw:nw<1000:=by omega
 obtain⟨r',t',hr⟩:=gu (n:=m+1) (by omega) (by omega);cases q
 ·obtain⟨r,t,hM⟩:=U8 (u:=5) (.inl rfl) hnw
  exact gi w hL hK hH hE hb1 hm rfl (by omega) hv hnw hM hr
 ·obtain⟨r,t,hM⟩:=U8 (u:=9) (.inr rfl) hnw
  exact gh w hL hK hH hE hb1 hm rfl (by omega) hv hnw hM hr
end Go.Proofs.YtefpajmkaaielaaGreatDoor
