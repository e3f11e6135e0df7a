import Derived.Shelf.Bits.Mul64
import Derived.Test.YtefpajmkaaielaaGreatDoorW1
open Go.Proofs.Tryz
set_option maxHeartbeats 4000000
set_option maxRecDepth 100000
namespace TollNt
variable{a b n p q:Nat}{α:Type}
def Prm(p:Nat):Prop:=2≤p∧ ∀d,d∣p→d=1∨d=p
theorem NL(n:Nat):2≤n→ ∃q,Prm q∧q∣n:=by
 induction n using Nat.strongRecOn with
 |_ n ih=>
  intro hn;by_cases h: ∀d,d∣n→d=1∨d=n
  ·exact⟨n,⟨hn,h⟩,Nat.dvd_refl _⟩
  ·have: ∃d,d∣n∧d≠1∧d≠n:=by
    apply Classical.byContradiction;intro hc;apply h;intro d hd;apply Classical.byContradiction;intro hx;exact hc ⟨d,hd,fun e=>hx (.inl e),fun e=>hx (.inr e)⟩
   obtain⟨d,hd,h1,h2⟩:=this;have hle:d≤n:=Nat.le_of_dvd (by omega) hd;have h0:d≠0:=by rintro rfl;have:=Nat.eq_zero_of_zero_dvd hd;omega
   obtain⟨q,hq,hqd⟩:=ih d (by omega) (by omega);exact⟨q,hq,Nat.dvd_trans hqd hd⟩
theorem Prm.coprime(hp:Prm p)(h: ¬p∣a):Nat.Coprime a p:=by
 rcases hp.2 _ (Nat.gcd_dvd_right a p)with h1|h1
 ·exact h1
 ·exact absurd (h1▸Nat.gcd_dvd_left a p) h
theorem Prm.dvd_mul(hp:Prm p)(h:p∣a*b):p∣a∨p∣b:=by
 by_cases ha:p∣a
 ·exact .inl ha
 ·exact .inr (Nat.Coprime.dvd_of_dvd_mul_left (hp.coprime ha).symm h)
theorem eX[DecidableEq α](l:List α): ∀m:List α,l.Nodup→l⊆m→m.length≤l.length→l.Perm m:=by
 induction l with
 |nil=>intro m _ _ hl;have:m=[]:=List.eq_nil_of_length_eq_zero (by simpa using hl);rw[this]
 |cons a l ih=>
  intro m hn hs hl;have ha:a∈m:=hs (by simp);have hp:=List.perm_cons_erase ha;rw[List.nodup_cons]at hn;refine(List.Perm.cons a (ih (m.erase a) hn.2 ?_ ?_)).trans hp.symm
  ·intro x hx
   have hxm:x∈m:=hs (by simp[hx]);have hne:x≠a:=by rintro rfl;exact hn.1 hx
   exact(List.mem_erase_of_ne hne).2 hxm
  ·have:=List.length_erase_of_mem ha
   simp at hl;omega
def C7(l:List Nat):Nat:=l.foldr (· * ·) 1
theorem du{l m:List Nat}(h:l.Perm m):C7 l=C7 m:=by
 induction h with
 |nil=>rfl
 |cons a _ ih=>simp only[C7,List.foldr]at *; rw[ih]
 |swap a b l=>simp only[C7,List.foldr];rw[←Nat.mul_assoc,←Nat.mul_assoc,Nat.mul_comm a b]
 |trans _ _ h1 h2=>exact h1.trans h2
theorem dv(a p:Nat)(l:List Nat):C7 (l.map fun i=>a*i %p) %p=a^l.length*C7 l %p:=by
 induction l with
 |nil=>simp[C7]
 |cons x l ih=>
  have e1:C7 (List.map (fun i=>a*i %p) (x::l))=(a*x %p)*C7 (l.map fun i=>a*i %p):=rfl;have e2:C7 (x::l)=x*C7 l:=rfl;rw[e1,e2,List.length_cons,Nat.mul_mod,ih,←Nat.mul_mod,Nat.mod_mul_mod];congr 1
  rw[Nat.pow_succ];simp only[Nat.mul_assoc,Nat.mul_comm,Nat.mul_left_comm]
theorem pz(hp:Prm p): ∀l:List Nat,(∀x∈l,¬p∣x)→ ¬p∣C7 l:=by
 intro l
 induction l with
 |nil=>intro _ h;have h1:p∣1:=h;have:=Nat.le_of_dvd (by omega) h1;have:=hp.1;omega
 |cons x l ih=>
  intro h hd;rcases hp.dvd_mul (show p∣x*C7 l from hd)with h1|h1
  ·exact h x (by simp) h1
  ·exact ih (fun y hy=>h y (by simp[hy])) h1
theorem UO{β:Type}(f:α→β): ∀l:List α,l.Nodup→(∀x∈l,∀y∈l,f x=f y→x=y)→(l.map f).Nodup:=by
 intro l
 induction l with
 |nil=>intro _ _;simp
 |cons a l ih=>
  intro hn hi;rw[List.nodup_cons]at hn;rw[List.map_cons,List.nodup_cons];refine⟨?_,ih hn.2 fun x hx y hy=>hi x (by simp[hx]) y (by simp[hy])⟩;intro hm;obtain⟨y,hy,he⟩:=List.mem_map.1 hm;have:=hi y (by simp[hy]) a (by simp) he;exact hn.1 (this▸hy)
theorem Qs(h:a %p=b %p)(hb:b≤a):p∣a-b:=by
 have h1:=Nat.div_add_mod a p;have h2:=Nat.div_add_mod b p;refine⟨a/p-b/p,?_⟩;rw[Nat.mul_sub];omega
theorem Ug{x y:Nat}(hp:Prm p)(ha: ¬p∣a)(h:a*x %p=a*y %p):x %p=y %p:=by
 have key: ∀x y,y≤x→a*x %p=a*y %p→x %p=y %p:=by
  intro x y hle h;have h1:p∣a*x-a*y:=Qs h (Nat.mul_le_mul_left _ hle);rw[←Nat.mul_sub]at h1;rcases hp.dvd_mul h1 with h2|h2
  ·exact absurd h2 ha
  ·obtain⟨c,hc⟩:=h2
   have:x=y+p*c:=by omega
   rw[this,Nat.add_mul_mod_self_left]
 rcases Nat.le_total y x with hle|hle
 ·exact key x y hle h
 ·exact(key y x hle h.symm).symm
theorem fermat(hp:Prm p)(ha: ¬p∣a):a^(p-1) %p=1:=by
 have hp2:=hp.1
 let l:=List.range' 1 (p-1)
 have hl:l.length=p-1:=by simp[l]
 have hmem: ∀x,x∈l↔1≤x∧x<p:=by intro x;simp[l,List.mem_range'_1];omega
 have hnd:l.Nodup:=List.nodup_range'
 have hnotdvd: ∀x∈l,¬p∣x:=by
  intro x hx hd;have:=(hmem x).1 hx;have:=Nat.le_of_dvd (by omega) hd;omega
 have hperm:(l.map fun i=>a*i %p).Perm l:=by
  refine eX _ _ ?_ ?_ (by simp)
  ·refine UO _ _ hnd ?_
   intro x hx y hy h;have:=Ug hp ha h;rw[Nat.mod_eq_of_lt ((hmem x).1 hx).2,Nat.mod_eq_of_lt ((hmem y).1 hy).2]at this;exact this
  ·intro y hy
   obtain⟨x,hx,rfl⟩:=List.mem_map.1 hy;rw[hmem];refine⟨?_,Nat.mod_lt _ (by omega)⟩;apply Classical.byContradiction;intro hc;have:a*x %p=0:=by omega
   rcases hp.dvd_mul (Nat.dvd_of_mod_eq_zero this)with h|h
   ·exact ha h
   ·exact hnotdvd x hx h
 have h1:C7 l %p=a^(p-1)*C7 l %p:=by
  have:=dv a p l;rw[du hperm,hl]at this;exact this
 have h2:C7 l*a^(p-1) %p=C7 l*1 %p:=by rw[Nat.mul_comm,←h1,Nat.mul_one]
 have:=Ug hp (pz hp l hnotdvd) h2;rw[this,Nat.mod_eq_of_lt (by omega)]
theorem Ty{m:Nat}(h:a^m %n=1 %n)(k:Nat):a^(m*k) %n=1 %n:=by
 rw[Nat.pow_mul,Nat.pow_mod,h,←Nat.pow_mod,Nat.one_pow]
theorem eM(m k:Nat):a^m %n=1 %n→a^k %n=1 %n→a^(Nat.gcd m k) %n=1 %n:=by
 induction m,k using Nat.gcd.induction with
 |H0 k=>intro _ h;simpa using h
 |H1 m k hm ih=>
  intro h1 h2;rw[Nat.gcd_rec];refine ih ?_ h1;have e:a^k=a^(m*(k/m))*a^(k %m):=by rw[←Nat.pow_add,Nat.div_add_mod]
  rw[e,Nat.mul_mod,Ty h1,←Nat.mul_mod,Nat.one_mul]at h2;exact h2
def pw(m:Nat):Nat→Nat→Nat→Nat
 |0,_,_=>1 %m
 |f+1,a,e=>let r:=pw m f (a*a %m) (e/2);if e %2=1 then r*a %m else r
theorem Ts(m:Nat): ∀f a e,e<2^f→pw m f a e=a^e %m:=by
 intro f
 induction f with
 |zero=>intro a e h;have:e=0:=by simpa using h
        subst this;simp[pw]
 |succ f ih=>
  intro a e h;have he:e/2<2^f:=by rw[Nat.pow_succ]at h;omega
  have h2:(a*a %m)^(e/2) %m=a^(2*(e/2)) %m:=by
   rw[←Nat.pow_mod,Nat.pow_mul,Nat.pow_two]
  simp only[pw,ih _ _ he,h2];split
  ·rename_i h1
   have:e=2*(e/2)+1:=by omega
   conv=>rhs;rw[this,Nat.pow_succ,Nat.mul_mod]
   rw[Nat.mod_mul_mod,←Nat.mul_mod]
  ·rename_i h1
   have:e=2*(e/2):=by omega
   conv=>rhs;rw[this]
def LO(N f q a:Nat):Bool:=
 decide ((N-1) %q=0) && decide (pw N f a (N-1)=1) && decide (Nat.gcd (pw N f a ((N-1)/q)+(N-1)) N=1)
theorem Q7{N f:Nat}(hN:2≤N)(hf:N<2^f)(hq:Prm q)(h:LO N f q a=true){d:Nat}(hd:Prm d)(hdN:d∣N):q∣d-1:=by
 simp only[LO,Bool.and_eq_true,decide_eq_true_eq]at h;obtain⟨⟨h1,h2⟩,h3⟩:=h;rw[Ts _ _ _ _ (by omega)]at h2;rw[Ts _ _ _ _ (Nat.lt_of_le_of_lt (Nat.div_le_self _ _) (by omega))]at h3;have hd2:=hd.1
 have hmodd: ∀x y:Nat,x %N=y %N→x %d=y %d:=by
  intro x y hxy;rw[←Nat.mod_mod_of_dvd x hdN,hxy,Nat.mod_mod_of_dvd y hdN]
 have ha: ¬d∣a:=by
  intro hda
  have h4:d∣a^(N-1):=by
   rw[show N-1=(N-2)+1 by omega,Nat.pow_succ];exact Nat.dvd_trans hda (Nat.dvd_mul_left _ _)
  have h5:a^(N-1) %d=1 %d:=hmodd _ _ (by rw[h2,Nat.mod_eq_of_lt (by omega)]);rw[Nat.mod_eq_zero_of_dvd h4,Nat.mod_eq_of_lt (by omega)]at h5;omega
 have hfer:=fermat hd ha;have e1:a^(N-1) %d=1 %d:=hmodd _ _ (by rw[h2,Nat.mod_eq_of_lt (by omega)]);have e2:a^(d-1) %d=1 %d:=by rw[hfer,Nat.mod_eq_of_lt (by omega)]
 have hg:=eM _ _ e2 e1;apply Classical.byContradiction;intro hc;obtain⟨r,hr⟩:=Nat.dvd_of_mod_eq_zero h1;have hq0:0<q:=by have:=hq.1;omega
 have EO:(N-1)/q=r:=by rw[hr,Nat.mul_div_cancel_left _ hq0]
 have hcop:Nat.Coprime (Nat.gcd (d-1) (N-1)) q:=by
  have:Nat.Coprime (d-1) q:=hq.coprime hc;exact Nat.Coprime.coprime_dvd_left (Nat.gcd_dvd_left _ _) this
 have hdr:Nat.gcd (d-1) (N-1)∣r:=by
  have:Nat.gcd (d-1) (N-1)∣q*r:=by rw[←hr];exact Nat.gcd_dvd_right _ _
  exact Nat.Coprime.dvd_of_dvd_mul_left hcop this
 obtain⟨s,hs⟩:=hdr;have e3:a^r %d=1 %d:=by rw[hs];exact Ty hg s
 rw[EO]at h3
 have e4:(a^r %N+(N-1)) %d=0:=by
  have:(a^r %N) %d=1 %d:=by rw[Nat.mod_mod_of_dvd _ hdN,e3]
  have hN1:d∣1+(N-1):=by rw[show 1+(N-1)=N by omega];exact hdN
  rw[Nat.add_mod,this,←Nat.add_mod];exact Nat.mod_eq_zero_of_dvd hN1
 have e5:d∣1:=by rw[←h3];exact Nat.dvd_gcd (Nat.dvd_of_mod_eq_zero e4) hdN
 have:=Nat.le_of_dvd (by omega) e5;omega
theorem Tw{N F:Nat}(hN:2≤N)(hF:N<(F+1)*(F+1))(h: ∀d,Prm d→d∣N→F∣d-1):Prm N:=by
 refine⟨hN,?_⟩;intro d hd;apply Classical.byContradiction;intro hc;have h1:d≠1:=fun e=>hc (.inl e)
 have h2:d≠N:=fun e=>hc (.inr e)
 obtain⟨e,he⟩:=hd;have hd0:d≠0:=by rintro rfl;omega
 have he0:e≠0:=by rintro rfl;omega
 have he1:e≠1:=by rintro rfl;omega
 obtain⟨p1,hp1,hpd⟩:=NL d (by omega);obtain⟨p2,hp2,hpe⟩:=NL e (by omega);have k1:=h p1 hp1 (Nat.dvd_trans hpd ⟨e,he⟩);have k2:=h p2 hp2 (Nat.dvd_trans hpe ⟨d,by rw[he,Nat.mul_comm]⟩);have:=hp1.1;have:=hp2.1;have l1:=Nat.le_of_dvd (by omega) k1;have l2:=Nat.le_of_dvd (by omega) k2;have l3:=Nat.le_of_dvd (by omega) hpd;have l4:=Nat.le_of_dvd (by omega) hpe;have:(F+1)*(F+1)≤d*e:=Nat.mul_le_mul (by omega) (by omega);omega
theorem IX{N:Nat}(f:Nat)(hq:Prm q)(h:(decide (2≤N) && decide (N<2^f) && decide (N<(q+1)*(q+1)) && LO N f q a)=true):Prm N:=by
 simp only[Bool.and_eq_true,decide_eq_true_eq]at h;obtain⟨⟨⟨h1,h2⟩,h3⟩,h4⟩:=h;exact Tw h1 h3 fun d hd hdN=>Q7 h1 h2 hq h4 hd hdN
theorem KC{N r:Nat}(f:Nat)(hq:Prm q)(hr:Prm r)(h:(decide (2≤N) && decide (N<2^f) && decide (N<(q*r+1)*(q*r+1)) && decide (Nat.gcd q r=1) && LO N f q a && LO N f r b)=true):Prm N:=by
 simp only[Bool.and_eq_true,decide_eq_true_eq]at h;obtain⟨⟨⟨⟨⟨h1,h2⟩,h3⟩,h5⟩,h4⟩,h6⟩:=h;exact Tw h1 h3 fun d hd hdN=>Nat.Coprime.mul_dvd_of_dvd_of_dvd h5 (Q7 h1 h2 hq h4 hd hdN) (Q7 h1 h2 hr h6 hd hdN)
def Lj(n:Nat):Nat→Nat→Bool
 |0,_=>true
 |f+1,d=>decide (n %d≠0) && Lj n f (d+1)
theorem aK(n:Nat): ∀f d,Lj n f d=true→ ∀k,d≤k→k<d+f→ ¬k∣n:=by
 intro f
 induction f with
 |zero=>intro d _ k h1 h2;omega
 |succ f ih=>
  intro d h k h1 h2 hk;simp only[Lj,Bool.and_eq_true,decide_eq_true_eq]at h;by_cases e:k=d
  ·subst e;exact h.1 (Nat.mod_eq_zero_of_dvd hk)
  ·exact ih (d+1) h.2 k (by omega) (by omega) hk
theorem HP(f:Nat)(h:(decide (2≤n) && decide (n<(f+2)*(f+2)) && Lj n f 2)=true):Prm n:=by
 simp only[Bool.and_eq_true,decide_eq_true_eq]at h;obtain⟨⟨h1,h2⟩,h3⟩:=h
 have hno: ∀q,Prm q→q∣n→f+2≤q:=by
  intro q hq hqn;apply Classical.byContradiction;intro hc;exact aK n f 2 h3 q hq.1 (by omega) hqn
 refine⟨h1,?_⟩;intro d hd;apply Classical.byContradiction;intro hc;have hd1:d≠1:=fun e=>hc (.inl e)
 have hd2:d≠n:=fun e=>hc (.inr e)
 obtain⟨e,he⟩:=hd;have hd0:d≠0:=by rintro rfl;omega
 have he0:e≠0:=by rintro rfl;omega
 have he1:e≠1:=by rintro rfl;omega
 obtain⟨p1,hp1,hpd⟩:=NL d (by omega);obtain⟨p2,hp2,hpe⟩:=NL e (by omega);have l1:=hno p1 hp1 (Nat.dvd_trans hpd ⟨e,he⟩);have l2:=hno p2 hp2 (Nat.dvd_trans hpe ⟨d,by rw[he,Nat.mul_comm]⟩);have l3:=Nat.le_of_dvd (by omega) hpd;have l4:=Nat.le_of_dvd (by omega) hpe;have:(f+2)*(f+2)≤d*e:=Nat.mul_le_mul (by omega) (by omega);omega
end TollNt
namespace TollMont
variable{T a b c1 c2 c3 d k m0 n q t t0 t1 t2 t3 t4 u u0 u1 u2 u3 u4 u5 v v0 v1 v2 v3 v4' w x y:Nat}
open TollNt
abbrev W:Nat:=18446744073709551616
abbrev R:Nat:=115792089237316195423570985008687907853269984665640564039457584007913129639936
def lim(n i:Nat):Nat:=n/W^i %W
theorem Ae(n i:Nat):lim n i<W:=Nat.mod_lt _ (by decide)
theorem GZ(n:Nat):lim n 0=n %W:=by simp[lim]
theorem FD(n i:Nat):lim n (i+1)=lim (n/W) i:=by
 unfold lim;rw[Nat.pow_succ,Nat.mul_comm,Nat.div_div_eq_div_mul]
theorem I3(h:a<W):(a+W*b) %W=a:=by rw[Nat.add_mul_mod_self_left];exact Nat.mod_eq_of_lt h
theorem EO(h:a<W):(a+W*b)/W=b:=by
 rw[Nat.add_mul_div_left _ _ (by decide),Nat.div_eq_of_lt h,Nat.zero_add]
theorem Io(a b c d e:Nat)(ha:a<W)(hb:b<W)(hc:c<W)(hd:d<W):
 lim (a+W*(b+W*(c+W*(d+W*e)))) 0=a∧lim (a+W*(b+W*(c+W*(d+W*e)))) 1=b∧lim (a+W*(b+W*(c+W*(d+W*e)))) 2=c∧
  lim (a+W*(b+W*(c+W*(d+W*e)))) 3=d∧(a+W*(b+W*(c+W*(d+W*e))))/R=e:=by
 refine⟨?_,?_,?_,?_,?_⟩
 ·rw[GZ,I3 ha]
 ·rw[FD,EO ha,GZ,I3 hb]
 ·rw[FD,EO ha,FD,EO hb,GZ,I3 hc]
 ·rw[FD,EO ha,FD,EO hb,FD,EO hc,GZ,I3 hd]
 ·rw[show R=W*(W*(W*W)) by decide,←Nat.div_div_eq_div_mul,EO ha,←Nat.div_div_eq_div_mul,EO hb,←Nat.div_div_eq_div_mul,EO hc,EO hd]
theorem VQ(n:Nat):n=lim n 0+W*(lim n 1+W*(lim n 2+W*(lim n 3+W*(n/R)))):=by
 have e: ∀x:Nat,x=x %W+W*(x/W):=fun x=>(Nat.mod_add_div x W).symm
 rw[show R=W*(W*(W*W)) by decide,←Nat.div_div_eq_div_mul,←Nat.div_div_eq_div_mul,←Nat.div_div_eq_div_mul];simp only[FD,GZ];rw[←e,←e,←e,←e]
theorem FC(h:n<R):n=lim n 0+W*(lim n 1+W*(lim n 2+W*lim n 3)):=by
 have:=VQ n;rw[Nat.div_eq_of_lt h]at this;simpa using this
theorem Ip(ha:a<R)(hb:b<R)(h0:lim a 0=lim b 0)(h1:lim a 1=lim b 1)(h2:lim a 2=lim b 2)(h3:lim a 3=lim b 3):a=b:=by
 rw[FC ha,FC hb,h0,h1,h2,h3]
theorem tt(n m:Nat)(hn:n<R)(hm:m<R)(s0 c0 s1 c1 s2 c2 s3 c3:Nat)
 (e0:s0=(lim n 0+lim m 0) %W)(f0:c0=(lim n 0+lim m 0)/W)
 (e1:s1=(lim n 1+lim m 1+c0) %W)(f1:c1=(lim n 1+lim m 1+c0)/W)
 (e2:s2=(lim n 2+lim m 2+c1) %W)(f2:c2=(lim n 2+lim m 2+c1)/W)
 (e3:s3=(lim n 3+lim m 3+c2) %W)(f3:c3=(lim n 3+lim m 3+c2)/W):
 s0=lim (n+m) 0∧s1=lim (n+m) 1∧s2=lim (n+m) 2∧s3=lim (n+m) 3∧c3=(n+m)/R:=by
 have hN:=FC hn;have hM:=FC hm;generalize lim n 0=n0 at *; generalize lim n 1=n1 at *; generalize lim n 2=n2 at *; generalize lim n 3=n3 at*;generalize lim m 0=m0 at *; generalize lim m 1=m1 at *; generalize lim m 2=m2 at *; generalize lim m 3=m3 at*;have l0:s0<W:=e0▸Nat.mod_lt _ (by decide);have l1:s1<W:=e1▸Nat.mod_lt _ (by decide);have l2:s2<W:=e2▸Nat.mod_lt _ (by decide);have l3:s3<W:=e3▸Nat.mod_lt _ (by decide);have k0:n0+m0=s0+W*c0:=by rw[e0,f0,Nat.mod_add_div]
 have k1:n1+m1+c0=s1+W*c1:=by rw[e1,f1,Nat.mod_add_div]
 have k2:n2+m2+c1=s2+W*c2:=by rw[e2,f2,Nat.mod_add_div]
 have k3:n3+m3+c2=s3+W*c3:=by rw[e3,f3,Nat.mod_add_div]
 have key:n+m=s0+W*(s1+W*(s2+W*(s3+W*c3))):=by
  clear e0 e1 e2 e3 f0 f1 f2 f3 l0 l1 l2 l3 hn hm;simp only[W]at *; omega
 rw[key];obtain⟨h0,h1,h2,h3,h4⟩:=Io s0 s1 s2 s3 c3 l0 l1 l2 l3;exact⟨h0.symm,h1.symm,h2.symm,h3.symm,h4.symm⟩
def dif(n m:Nat):Nat:=if n<m then n+R-m else n-m
theorem pE{m:Nat}(hn:n<R)(hm:m<R):dif n m<R:=by unfold dif;split<;>omega
theorem L4{c s:Nat}(ha:a<W)(hb:b<W)(hc:c≤1)(e:s=(a+W-b-c) %W)(f:d=if a<b+c then 1 else 0):a+W*d=b+s+c∧d≤1:=by
 simp only[W]at*;split at f<;>omega
theorem bR(n m:Nat)(hn:n<R)(hm:m<R)(s0 c0 s1 c1 s2 c2 s3 c3:Nat)
 (e0:s0=(lim n 0+W-lim m 0-0) %W)(f0:c0=if lim n 0<lim m 0+0 then 1 else 0)
 (e1:s1=(lim n 1+W-lim m 1-c0) %W)(f1:c1=if lim n 1<lim m 1+c0 then 1 else 0)
 (e2:s2=(lim n 2+W-lim m 2-c1) %W)(f2:c2=if lim n 2<lim m 2+c1 then 1 else 0)
 (e3:s3=(lim n 3+W-lim m 3-c2) %W)(f3:c3=if lim n 3<lim m 3+c2 then 1 else 0):
 s0=lim (dif n m) 0∧s1=lim (dif n m) 1∧s2=lim (dif n m) 2∧s3=lim (dif n m) 3∧c3=if n<m then 1 else 0:=by
 have hN:=FC hn;have hM:=FC hm;obtain⟨k0,g0⟩:=L4 (Ae n 0) (Ae m 0) (Nat.zero_le _) e0 f0;obtain⟨k1,g1⟩:=L4 (Ae n 1) (Ae m 1) g0 e1 f1;obtain⟨k2,g2⟩:=L4 (Ae n 2) (Ae m 2) g1 e2 f2;obtain⟨k3,g3⟩:=L4 (Ae n 3) (Ae m 3) g2 e3 f3;generalize lim n 0=n0 at *; generalize lim n 1=n1 at *; generalize lim n 2=n2 at *; generalize lim n 3=n3 at*;generalize lim m 0=m0 at *; generalize lim m 1=m1 at *; generalize lim m 2=m2 at *; generalize lim m 3=m3 at*;have l0:s0<W:=e0▸Nat.mod_lt _ (by decide);have l1:s1<W:=e1▸Nat.mod_lt _ (by decide);have l2:s2<W:=e2▸Nat.mod_lt _ (by decide);have l3:s3<W:=e3▸Nat.mod_lt _ (by decide);clear e0 e1 e2 e3 f0 f1 f2 f3
 have key:n+R*c3=m+(s0+W*(s1+W*(s2+W*s3))):=by
  clear l0 l1 l2 l3 hn hm;simp only[W,R]at *; omega
 have hS:s0+W*(s1+W*(s2+W*s3))<R:=by
  clear key k0 k1 k2 k3 hN hM;simp only[W,R]at *; omega
 generalize hs:s0+W*(s1+W*(s2+W*s3))=s at*
 have hd:dif n m=s∧c3=if n<m then 1 else 0:=by
  clear k0 k1 k2 k3 hN hM hs l0 l1 l2 l3;unfold dif;simp only[R]at*;have:c3=0∨c3=1:=by omega
  rcases this with h|h<;>subst h<;>constructor<;>split<;>omega
 obtain⟨h0,h1,h2,h3,h4⟩:=Io s0 s1 s2 s3 0 l0 l1 l2 l3;simp only[Nat.mul_zero,Nat.add_zero,hs]at h0 h1 h2 h3;rw[hd.1];exact⟨h0.symm,h1.symm,h2.symm,h3.symm,hd.2⟩
theorem gm{c:Nat}(hx:x<W)(hy:y<W)(ht:t<W)(hc:c<W):
 ((x*y %W+t) %W+c) %W=(x*y+t+c) %W∧((x*y/W+(x*y %W+t)/W) %W+((x*y %W+t) %W+c)/W) %W=(x*y+t+c)/W:=by
 have hp:x*y≤(W-1)*(W-1):=Nat.mul_le_mul (by omega) (by omega);generalize x*y=p at*;simp only[W]at*;constructor<;>omega
def v5(a b c d e:Nat):Nat:=a+W*(b+W*(c+W*(d+W*e)))
def v4(a b c d:Nat):Nat:=a+W*(b+W*(c+W*d))
theorem ce{a0 a1 a2 a3 c4:Nat}
 (e0:u0=(x*a0+t0+0) %W)(f0:c1=(x*a0+t0+0)/W)
 (e1:u1=(x*a1+t1+c1) %W)(f1:c2=(x*a1+t1+c1)/W)
 (e2:u2=(x*a2+t2+c2) %W)(f2:c3=(x*a2+t2+c2)/W)
 (e3:u3=(x*a3+t3+c3) %W)(f3:c4=(x*a3+t3+c3)/W)
 (e4:u4=(t4+c4) %W)(f4:u5=(t4+c4)/W):
 v5 t0 t1 t2 t3 t4+x*v4 a0 a1 a2 a3=u0+W*(u1+W*(u2+W*(u3+W*(u4+W*u5)))):=by
 have k0:x*a0+t0+0=u0+W*c1:=by rw[e0,f0,Nat.mod_add_div]
 have k1:x*a1+t1+c1=u1+W*c2:=by rw[e1,f1,Nat.mod_add_div]
 have k2:x*a2+t2+c2=u2+W*c3:=by rw[e2,f2,Nat.mod_add_div]
 have k3:x*a3+t3+c3=u3+W*c4:=by rw[e3,f3,Nat.mod_add_div]
 have k4:t4+c4=u4+W*u5:=by rw[e4,f4,Nat.mod_add_div]
 clear e0 e1 e2 e3 e4 f0 f1 f2 f3 f4;unfold v5 v4
 have hd:x*(a0+W*(a1+W*(a2+W*a3)))=x*a0+W*(x*a1+W*(x*a2+W*(x*a3))):=by
  simp only[Nat.mul_add,Nat.mul_left_comm]
 rw[hd];generalize x*a0=p0 at *; generalize x*a1=p1 at *; generalize x*a2=p2 at *; generalize x*a3=p3 at*;simp only[W]at *; omega
theorem cZ{m1 m2 m3 c4:Nat}(hq:(q*m0+u0) %W=0)
 (f0:c1=(q*m0+u0)/W)
 (e1:v0=(q*m1+u1+c1) %W)(f1:c2=(q*m1+u1+c1)/W)
 (e2:v1=(q*m2+u2+c2) %W)(f2:c3=(q*m2+u2+c2)/W)
 (e3:v2=(q*m3+u3+c3) %W)(f3:c4=(q*m3+u3+c3)/W)
 (e4:v3=(u4+c4) %W)(f4:k=(u4+c4)/W)(e5:v4'=u5+k):
 u0+W*(u1+W*(u2+W*(u3+W*(u4+W*u5))))+q*v4 m0 m1 m2 m3=W*v5 v0 v1 v2 v3 v4':=by
 have k0:q*m0+u0=W*c1:=by have:=Nat.mod_add_div (q*m0+u0) W;rw[hq,←f0]at this;omega
 have k1:q*m1+u1+c1=v0+W*c2:=by rw[e1,f1,Nat.mod_add_div]
 have k2:q*m2+u2+c2=v1+W*c3:=by rw[e2,f2,Nat.mod_add_div]
 have k3:q*m3+u3+c3=v2+W*c4:=by rw[e3,f3,Nat.mod_add_div]
 have k4:u4+c4=v3+W*k:=by rw[e4,f4,Nat.mod_add_div]
 clear hq e1 e2 e3 e4 f0 f1 f2 f3 f4;unfold v5 v4
 have hd:q*(m0+W*(m1+W*(m2+W*m3)))=q*m0+W*(q*m1+W*(q*m2+W*(q*m3))):=by
  simp only[Nat.mul_add,Nat.mul_left_comm]
 rw[hd];generalize q*m0=p0 at *; generalize q*m1=p1 at *; generalize q*m2=p2 at *; generalize q*m3=p3 at*;simp only[W]at *; omega
theorem dm{neg:Nat}(hneg:(neg*m0+1) %W=0):((u*neg %W)*m0+u) %W=0:=by
 have h1:((u*neg %W)*m0+u) %W=(u*(neg*m0+1)) %W:=by
  rw[Nat.add_mod,Nat.mod_mul_mod,←Nat.add_mod,Nat.mul_add,Nat.mul_one,Nat.mul_assoc]
 rw[h1,Nat.mul_mod,hneg,Nat.mul_zero,Nat.zero_mod]
theorem Z7{c e:Nat}(h:v5 a b c d e<2*R):e≤1:=by
 unfold v5 at h;simp only[W,R]at h;omega
theorem cd{T' m:Nat}(hx:x<W)(hq:q<W)(hT:T<a+m)(h:T+x*a+q*m=W*T'):T'<a+m:=by
 have h1:x*a≤(W-1)*a:=Nat.mul_le_mul_right _ (by omega);have h2:q*m≤(W-1)*m:=Nat.mul_le_mul_right _ (by omega);generalize x*a=p at *; generalize q*m=r at*;simp only[W]at *; omega
def Hf(m:Nat):Nat:=(m+1)/2
def Ec(m a b:Nat):Nat:=a*b*Hf m^256 %m
theorem nE{m:Nat}(hm:m %2=1)(h1:1<m):Hf m*2 %m=1:=by
 have:Hf m*2=1+m*1:=by unfold Hf;omega
 rw[this,Nat.add_mul_mod_self_left,Nat.mod_eq_of_lt h1]
theorem nH{m:Nat}(hm:m %2=1)(h1:1<m):R*Hf m^256 %m=1:=by
 rw[show R=2^256 by decide,←Nat.mul_pow,Nat.pow_mod,Nat.mul_comm 2,nE hm h1,Nat.one_pow,Nat.mod_eq_of_lt h1]
theorem gN{m:Nat}(hm:m %2=1)(h1:1<m)(h:x*R %m=y %m):x %m=y*Hf m^256 %m:=by
 have e:x*R*Hf m^256 %m=x %m:=by
  rw[Nat.mul_assoc,Nat.mul_mod,nH hm h1,Nat.mul_one,Nat.mod_mod]
 rw[←e,Nat.mul_mod,h,←Nat.mul_mod]
theorem Mb{m r:Nat}(hm:m %2=1)(h1:1<m)(hr:r<m)(h:r*R %m=a*b %m):r=Ec m a b:=by
 have:=gN hm h1 h
 rwa [Nat.mod_eq_of_lt hr]at this
theorem dJ{m Q:Nat}(hm:m %2=1)(h1:1<m)(ha:a<R)(hb:b<R)(hab:a<m∨b<m)(hQ:Q<R)(h:T*R=a*b+m*Q):
 T<2*m∧T %m=Ec m a b:=by
 have hlt:a*b<m*R:=by
  rcases hab with g|g
  ·exact Nat.mul_lt_mul_of_lt_of_le g (Nat.le_of_lt hb) (by omega)
  ·rw[Nat.mul_comm];exact Nat.mul_lt_mul_of_lt_of_le g (Nat.le_of_lt ha) (by omega)
 have hmq:m*Q<m*R:=Nat.mul_lt_mul_of_pos_left hQ (by omega);refine⟨?_,?_⟩
 ·have:T*R<(2*m)*R:=by rw[h,Nat.mul_assoc,Nat.two_mul];omega
  exact Nat.lt_of_mul_lt_mul_right this
 ·refine Mb hm h1 (Nat.mod_lt _ (by omega)) ?_
  rw[Nat.mod_mul_mod,h,Nat.add_mul_mod_self_left]
section
variable{m:Nat}(hm:m %2=1)(h1:1<m)
include hm h1
theorem Ul(a:Nat):Ec m a (R*R %m)=a*R %m:=by
 refine(Mb hm h1 (Nat.mod_lt _ (by omega)) ?_).symm;rw[Nat.mod_mul_mod,Nat.mul_mod_mod,Nat.mul_assoc]
theorem gU(a:Nat):Ec m (a*R %m) 1=a %m:=by
 refine(Mb hm h1 (Nat.mod_lt _ (by omega)) ?_).symm;rw[Nat.mod_mul_mod,Nat.mul_one,Nat.mod_mod]
theorem gV(a b:Nat):Ec m (a*R %m) (b %m)=a*b %m:=by
 refine(Mb hm h1 (Nat.mod_lt _ (by omega)) ?_).symm;rw[Nat.mod_mul_mod,Nat.mod_mul_mod,Nat.mul_mod_mod,Nat.mul_assoc,Nat.mul_assoc,Nat.mul_comm b]
end
theorem fw{a x y K w e j v:Int}(he:a*x-1=K*e)(hj:y=x*(2-a*x)+w*j)(hw:w=K*K*v):
 a*y-1=K*K*(-(e*e)+a*v*j):=by
 have hax:a*x=1+K*e:=by grind
 have:a*y-1=(a*x)*(2-(a*x))-1+a*(w*j):=by grind
 rw[this,hax,hw]
 grind
theorem fu{x z y w g1 g2 g3 ax r:Int}(t1:r+w*g1=ax)(t2:z+w*g2=2+w-r)(t3:y+w*g3=x*z):
 y=x*(2-ax)+w*(x*(1+g1-g2)-g3):=by
 have z1:z=2-ax+w*(1+g1-g2):=by grind
 rw[z1]at t3
 grind
theorem Um:(a %k=1 %k)↔(k:Int)∣(a:Int)-1:=by
 constructor
 ·intro h
  have h':((a %k:Nat):Int)=((1 %k:Nat):Int):=by rw[h]
  rw[Int.natCast_emod,Int.natCast_emod]at h';exact Int.dvd_of_emod_eq_zero (Int.emod_eq_emod_iff_emod_sub_eq_zero.1 h')
 ·intro h
  have h':=Int.emod_eq_emod_iff_emod_sub_eq_zero.2 (Int.emod_eq_zero_of_dvd h);refine Int.natCast_inj.1 ?_;rw[Int.natCast_emod,Int.natCast_emod];exact h'
theorem Ig{K:Nat}(hw:0<w)(hk:K*K∣w)(h:a*x %K=1 %K):
 a*(x*((2+w-a*x %w) %w) %w) %(K*K)=1 %(K*K):=by
 have he:=Um.1 h;obtain⟨e,he⟩:=he;obtain⟨v,hv⟩:=hk;have hlt:a*x %w<w:=Nat.mod_lt _ hw;have d1:=Nat.mod_add_div (a*x) w;have d2:=Nat.mod_add_div (2+w-a*x %w) w;have d3:=Nat.mod_add_div (x*((2+w-a*x %w) %w)) w;generalize a*x/w=g1 at*;generalize (2+w-a*x %w)/w=g2 at*;generalize (2+w-a*x %w) %w=z at*;generalize x*z/w=g3 at*;generalize x*z %w=y at*;generalize a*x %w=r at*;have t2':z+w*g2+r=2+w:=by omega
 have hy:=fu (x:=x) (z:=z) (y:=y) (w:=w) (g1:=g1) (g2:=g2) (g3:=g3) (ax:=a*x) (r:=r)
  (by exact_mod_cast d1) (by have:((z+w*g2+r:Nat):Int)=((2+w:Nat):Int):=by rw[t2']
                             push_cast at this;omega) (by exact_mod_cast d3)
 have:=fw (a:=a) (x:=x) (y:=y) (K:=K) (w:=w) (e:=e) (v:=v) (by push_cast at he;exact he) hy (by exact_mod_cast hv);refine Um.2 ⟨-(e*e)+ ↑a* ↑v*(↑x*(1+ ↑g1- ↑g2)- ↑g3),?_⟩
 push_cast
 exact this
def CL(a:Nat):Nat→Nat
 |0=>1
 |i+1=>CL a i*((2+W-a*CL a i %W) %W) %W
theorem Wk(ha:a %2=1):a*CL a 6 %W=1:=by
 have s0:a*CL a 0 %2=1 %2:=by simp only[CL];omega
 have s1:=Ig (K:=2) (w:=W) (by decide) (by decide) s0;have s2:=Ig (K:=4) (w:=W) (by decide) (by decide) (show a*CL a 1 %4=1 %4 from s1);have s3:=Ig (K:=16) (w:=W) (by decide) (by decide) (show a*CL a 2 %16=1 %16 from s2);have s4:=Ig (K:=256) (w:=W) (by decide) (by decide) (show a*CL a 3 %256=1 %256 from s3);have s5:=Ig (K:=65536) (w:=W) (by decide) (by decide) (show a*CL a 4 %65536=1 %65536 from s4);have s6:=Ig (K:=4294967296) (w:=W) (by decide) (by decide) (show a*CL a 5 %4294967296=1 %4294967296 from s5);exact s6
def E9(a:Nat):Nat:=W-CL a 6
theorem Wl(a i:Nat):CL a i<W:=by
 cases i with
 |zero=>simp only[CL];decide
 |succ i=>simp only[CL];exact Nat.mod_lt _ (by decide)
theorem mf(ha:a %2=1):0<CL a 6:=by
 have h:=Wk ha;apply Nat.pos_of_ne_zero;intro h0;rw[h0,Nat.mul_zero,Nat.zero_mod]at h;exact absurd h (by decide)
theorem gA(hx:x≤w)(h:a*x %w=1 %w):((w-x)*a+1) %w=0:=by
 have h1:(w-x)*a+a*x=w*a:=by rw[Nat.mul_comm a x,←Nat.add_mul,Nat.sub_add_cancel hx]
 have h2:((w-x)*a+1) %w=((w-x)*a+a*x) %w:=by rw[Nat.add_mod,←h,←Nat.add_mod]
 rw[h2,h1,Nat.mul_mod_right]
theorem gB(ha:a %2=1):(E9 a*a+1) %W=0:=
 gA (Nat.le_of_lt (Wl a 6)) (Wk ha)
def halve(m x:Nat):Nat:=if x %2=0 then x/2 else(x+m)/2
def DJ(m x y:Nat):Nat:=(x %m+m-y %m) %m
structure InvAt(m a u v x y:Nat):Prop where
 vodd:v %2=1
 vle:v≤m
 ule:u<m
 xlt:x<m
 ylt:y<m
 xu:x*a %m=u %m
 yv:y*a %m=v %m
 gcd:Nat.gcd u v=Nat.gcd a m
theorem InvAt.start{m:Nat}(hm:m %2=1)(h1:1<m):InvAt m a (a %m) m 1 0:=
 ⟨hm,Nat.le_refl _,Nat.mod_lt _ (by omega),h1,by omega,by simp,by simp,by rw[Nat.gcd_comm a m,Nat.gcd_rec m a]⟩
theorem Z9{m:Nat}(hm:m %2=1)(h:2*a %m=2*b %m):a %m=b %m:=by
 have key: ∀a b,b≤a→2*a %m=2*b %m→a %m=b %m:=by
  intro a b hle h;have h1:m∣2*a-2*b:=Qs h (by omega);rw[←Nat.mul_sub]at h1
  have hc:Nat.Coprime m 2:=by
   unfold Nat.Coprime;rw[Nat.gcd_comm,Nat.gcd_rec,hm];rfl
  obtain⟨c,hc⟩:=Nat.Coprime.dvd_of_dvd_mul_left hc h1;have:a=b+m*c:=by omega
  rw[this,Nat.add_mul_mod_self_left]
 rcases Nat.le_total b a with hle|hle
 ·exact key a b hle h
 ·exact(key b a hle h.symm).symm
theorem nB{m:Nat}(hx:x<m):halve m x<m:=by unfold halve;split<;>omega
theorem m9{m:Nat}(hm:m %2=1):2*halve m x %m=x %m:=by
 unfold halve;split
 ·rename_i h;rw[show 2*(x/2)=x by omega]
 ·rename_i h;rw[show 2*((x+m)/2)=x+m by omega,Nat.add_mod_right]
theorem nL(hu:u %2=0)(hv:v %2=1):Nat.gcd (u/2) v=Nat.gcd u v:=by
 have hu2:u=2*(u/2):=by omega
 have hc:Nat.Coprime v 2:=by
  unfold Nat.Coprime;rw[Nat.gcd_comm,Nat.gcd_rec,hv];rfl
 conv=>rhs;rw[hu2,Nat.mul_comm]
 exact(Nat.Coprime.gcd_mul_right_cancel (u/2) hc.symm).symm
theorem InvAt.halved{m:Nat}(hm:m %2=1)(h:InvAt m a u v x y)(hu:u %2=0):InvAt m a (u/2) v (halve m x) y:=by
 refine⟨h.vodd,h.vle,by have:=h.ule;omega,nB h.xlt,h.ylt,?_,h.yv,by rw[nL hu h.vodd,h.gcd]⟩;refine Z9 hm ?_;rw[show 2*(u/2)=u by omega,←h.xu,←Nat.mul_assoc,Nat.mul_mod,m9 hm,←Nat.mul_mod]
theorem Sx{m:Nat}(hm:1<m):DJ m x y<m:=Nat.mod_lt _ (by omega)
theorem bP{m:Nat}(hm:0<m):(DJ m x y+y) %m=x %m:=by
 unfold DJ;have hy:=Nat.mod_lt y hm;rw[Nat.mod_add_mod,←Nat.add_mod_mod (x %m+m-y %m),Nat.sub_add_cancel (by omega),Nat.add_mod_right,Nat.mod_mod]
theorem uA{m c:Nat}(h:(a+c) %m=(b+c) %m):a %m=b %m:=by
 have key: ∀a b,b≤a→(a+c) %m=(b+c) %m→a %m=b %m:=by
  intro a b hle h;obtain⟨k,hk⟩:=Qs h (by omega);have:a=b+m*k:=by omega
  rw[this,Nat.add_mul_mod_self_left]
 rcases Nat.le_total b a with hle|hle
 ·exact key a b hle h
 ·exact(key b a hle h.symm).symm
theorem Sw{m:Nat}(hm:1<m)(hvu:v≤u)(hx:x*a %m=u %m)(hy:y*a %m=v %m):DJ m x y*a %m=(u-v) %m:=by
 refine uA (c:=v) ?_;rw[Nat.sub_add_cancel hvu,←hx];have e:(DJ m x y+y)*a %m=x*a %m:=by rw[Nat.mul_mod,bP (by omega),←Nat.mul_mod]
 rw[←e,Nat.add_mul,Nat.add_mod,←hy,←Nat.add_mod]
theorem Wy(h:v≤u):Nat.gcd (u-v) v=Nat.gcd u v:=by
 conv=>rhs;rw[show u=(u-v)+v by omega]
 exact(Nat.gcd_add_self_left v (u-v)).symm
theorem InvAt.less{m:Nat}(hm:1<m)(h:InvAt m a u v x y)(hvu:v≤u):InvAt m a (u-v) v (DJ m x y) y:=
 ⟨h.vodd,h.vle,by have:=h.ule;omega,Sx hm,h.ylt,Sw hm hvu h.xu h.yv,h.yv,by rw[Wy hvu,h.gcd]⟩
theorem InvAt.swap{m:Nat}(hm:1<m)(h:InvAt m a u v x y)(hu:u %2=1)(huv:u<v):InvAt m a (v-u) u (DJ m y x) x:=
 ⟨hu,Nat.le_of_lt h.ule,by have:=h.vle;omega,Sx hm,h.xlt,Sw hm (Nat.le_of_lt huv) h.yv h.xu,h.xu,by rw[Wy (Nat.le_of_lt huv),Nat.gcd_comm,h.gcd]⟩
noncomputable def Me(m a:Nat):Nat:=open Classical in if h: ∃y,y<m∧y*a %m=1 then Classical.choose h else 0
theorem ma{m z:Nat}(hy:y<m)(hz:z<m)(h1:y*a %m=1)(h2:z*a %m=1):y=z:=by
 have e1:y*(z*a) %m=y %m:=by rw[Nat.mul_mod,h2,Nat.mul_one,Nat.mod_mod]
 have e2:z*(y*a) %m=z %m:=by rw[Nat.mul_mod,h1,Nat.mul_one,Nat.mod_mod]
 rw[Nat.mul_left_comm,e2,Nat.mod_eq_of_lt hz,Nat.mod_eq_of_lt hy]at e1;exact e1.symm
theorem Pn{m:Nat}(hy:y<m)(h:y*a %m=1):Me m a=y:=by
 have hex: ∃y,y<m∧y*a %m=1:=⟨y,hy,h⟩
 unfold Me;rw[dif_pos hex];have:=Classical.choose_spec hex;exact ma this.1 hy this.2 h
theorem InvAt.done{m:Nat}(h1:1<m)(h:InvAt m a 0 v x y):(v=1↔Nat.gcd a m=1)∧(v=1→y=Me m a∧y*a %m=1):=by
 have hg:=h.gcd;rw[Nat.gcd_zero_left]at hg;refine⟨by rw[hg],?_⟩;rintro rfl;have:=h.yv;rw[Nat.mod_eq_of_lt h1]at this;exact⟨(Pn h.ylt this).symm,this⟩
def Fh(x y t c:Nat):Nat:=(x*y+t+c) %W
def EK(x y t c:Nat):Nat:=(x*y+t+c)/W
theorem Ee(x y t c:Nat):Fh x y t c<W:=Nat.mod_lt _ (by decide)
theorem Du{c:Nat}(hx:x<W)(hy:y<W)(ht:t<W)(hc:c<W):EK x y t c<W:=by
 have hp:x*y≤(W-1)*(W-1):=Nat.mul_le_mul (by omega) (by omega);unfold EK;generalize x*y=p at*;simp only[W]at*;omega
structure RedAt(m a c k t0 t1 t2 t3 t4:Nat):Prop where
 b0:t0<W
 b1:t1<W
 b2:t2<W
 b3:t3<W
 b4:t4<W
 lt:v5 t0 t1 t2 t3 t4<a+m
 eq: ∃Q,Q<W^k∧v5 t0 t1 t2 t3 t4*W^k=a*(c %W^k)+m*Q
theorem RedAt.start{m c:Nat}(hm:0<m):RedAt m a c 0 0 0 0 0 0:=
 ⟨by decide,by decide,by decide,by decide,by decide,by simp only[v5];omega,0,by simp,by simp[v5,Nat.mod_one]⟩
theorem gW(c k:Nat):c %W^(k+1)=c %W^k+W^k*lim c k:=by
 unfold lim;rw[Nat.pow_succ,Nat.mod_mul]
theorem RedAt.step{m c ng c4 d1 d2 d3 d4 e:Nat}(ha:a<R)(hmR:m<R)(hneg:(ng*lim m 0+1) %W=0)
 (h:RedAt m a c k t0 t1 t2 t3 t4)(hx:x=lim c k)
 (e0:u0=Fh x (lim a 0) t0 0)(f0:c1=EK x (lim a 0) t0 0)(e1:u1=Fh x (lim a 1) t1 c1)(f1:c2=EK x (lim a 1) t1 c1)
 (e2:u2=Fh x (lim a 2) t2 c2)(f2:c3=EK x (lim a 2) t2 c2)(e3:u3=Fh x (lim a 3) t3 c3)(f3:c4=EK x (lim a 3) t3 c3)
 (e4:u4=(t4+c4) %W)(f4:u5=(t4+c4)/W)(hq:q=u0*ng %W)
 (g0:d1=EK q (lim m 0) u0 0)(g1:v0=Fh q (lim m 1) u1 d1)(i1:d2=EK q (lim m 1) u1 d1)(g2:v1=Fh q (lim m 2) u2 d2)(i2:d3=EK q (lim m 2) u2 d2)
 (g3:v2=Fh q (lim m 3) u3 d3)(i3:d4=EK q (lim m 3) u3 d3)(g4:v3=(u4+d4) %W)(i4:e=(u4+d4)/W)(hv:v4'=(u5+e) %W):
 RedAt m a c (k+1) v0 v1 v2 v3 v4':=by
 have hxW:x<W:=by rw[hx];exact Ae _ _
 have hqW:q<W:=by rw[hq];exact Nat.mod_lt _ (by decide)
 have l1:c1<W:=by rw[f0];exact Du hxW (Ae _ _) h.b0 (by decide)
 have l2:c2<W:=by rw[f1];exact Du hxW (Ae _ _) h.b1 l1
 have l3:c3<W:=by rw[f2];exact Du hxW (Ae _ _) h.b2 l2
 have l4:c4<W:=by rw[f3];exact Du hxW (Ae _ _) h.b3 l3
 have r1:d1<W:=by rw[g0];exact Du hqW (Ae _ _) (by rw[e0];exact Ee _ _ _ _) (by decide)
 have r2:d2<W:=by rw[i1];exact Du hqW (Ae _ _) (by rw[e1];exact Ee _ _ _ _) r1
 have r3:d3<W:=by rw[i2];exact Du hqW (Ae _ _) (by rw[e2];exact Ee _ _ _ _) r2
 have r4:d4<W:=by rw[i3];exact Du hqW (Ae _ _) (by rw[e3];exact Ee _ _ _ _) r3
 have hu4:u4<W:=by rw[e4];exact Nat.mod_lt _ (by decide)
 have hu5:u5≤1:=by have:=h.b4;rw[f4];simp only[W]at *; omega
 have he:e≤1:=by rw[i4];simp only[W]at *; omega
 have hv4:v4'=u5+e:=by rw[hv];exact Nat.mod_eq_of_lt (by simp only[W];omega)
 have A:=ce (x:=x) (a0:=lim a 0) (a1:=lim a 1) (a2:=lim a 2) (a3:=lim a 3) (t0:=t0) (t1:=t1) (t2:=t2) (t3:=t3) (t4:=t4) e0 f0 e1 f1 e2 f2 e3 f3 e4 f4;have B:=cZ (q:=q) (m0:=lim m 0) (m1:=lim m 1) (m2:=lim m 2) (m3:=lim m 3) (u0:=u0) (u1:=u1) (u2:=u2) (u3:=u3) (u4:=u4) (u5:=u5) (by rw[hq];exact dm hneg) g0 g1 i1 g2 i2 g3 i3 g4 i4 hv4;rw[←A]at B;have hA:v4 (lim a 0) (lim a 1) (lim a 2) (lim a 3)=a:=(FC ha).symm;have hM:v4 (lim m 0) (lim m 1) (lim m 2) (lim m 3)=m:=(FC hmR).symm;rw[hA,hM]at B;obtain⟨Q,hQ,hE⟩:=h.eq;refine⟨by rw[g1];exact Ee _ _ _ _,by rw[g2];exact Ee _ _ _ _,by rw[g3];exact Ee _ _ _ _,by rw[g4];exact Nat.mod_lt _ (by decide),by rw[hv];exact Nat.mod_lt _ (by decide),cd hxW hqW h.lt B,Q+W^k*q,?_,?_⟩
 ·have:W^k*q≤W^k*(W-1):=Nat.mul_le_mul_left _ (by omega)
  have h2:W^(k+1)=W^k+W^k*(W-1):=by
   rw[Nat.pow_succ];have:W^k*W=W^k*(1+(W-1)):=by congr 1
   rw[this,Nat.mul_add,Nat.mul_one]
  omega
 ·rw[gW,←hx,Nat.pow_succ,Nat.mul_comm (W^k) W,←Nat.mul_assoc,Nat.mul_comm _ W,←B]
  have:(v5 t0 t1 t2 t3 t4+x*a+q*m)*W^k=v5 t0 t1 t2 t3 t4*W^k+x*a*W^k+q*m*W^k:=by rw[Nat.add_mul,Nat.add_mul]
  rw[this,hE]
  grind
end TollMont
namespace Go.Proofs
open Go.Shelf
def lays264_ren:Go.Shelf.Ren:=⟨fun|264=>105|n=>n,fun|53=>22|46=>172|n=>n,fun|n=>n⟩
theorem lays264:Go.Proofs.Lays.n264 prog lays264_ren:={
 mixed:=by kernel_rfl
 f264:=func105.trans (congrArg some (by kernel_rfl))
 t46:=underlying172
 a46:=isAgg172
 z46:=sizeOf172
 v46:=zeroValue172
 t53:=underlying22
 a53:=isAgg22
 z53:=sizeOf22
 v53:=zeroValue22}
open Go.RowKit Go.Lib in
theorem bits_Mul64(x y:Nat)(hx:x<18446744073709551616)(hy:y<18446744073709551616)(w:World):
 Calls prog 105 #[.int .u64 x,.int .u64 y] w fun e w'=>e= .returned (.tuple #[.int .u64 ((x*y/18446744073709551616:Nat):Int),.int .u64 ((x*y %18446744073709551616:Nat):Int)])∧w'=w:=Any.bits_Mul64 lays264 x y hx hy w
end Go.Proofs
namespace Go.Proofs.YtefpajmkaaielaaGreatDoor
open Go.RowKit Go.Toll
theorem nG(lo sh up:Nat→Nat)(orr:Nat→Nat→Nat)(a0 a1 a2 a3:Nat)(c:Nat)(w:World)
 (hlo: ∀(x:Nat) (p q:Operand) (w:World),(do eqGuard .and 22 p q (.int .u64 (x:Nat)) (.int .u64 1);binOp .and 22 (.int .u64 (x:Nat)) (.int .u64 1):Sem Value).run prog w= .ok (.int .u64 (lo x:Nat)) w)
 (hsh: ∀(x:Nat) (p q:Operand) (w:World),(do eqGuard .shr 22 p q (.int .u64 (x:Nat)) (.int .u64 1);binOp .shr 22 (.int .u64 (x:Nat)) (.int .u64 1):Sem Value).run prog w= .ok (.int .u64 (sh x:Nat)) w)
 (hup: ∀(x:Nat) (p q:Operand) (w:World),(do eqGuard .shl 22 p q (.int .u64 (x:Nat)) (.int .u64 63);binOp .shl 22 (.int .u64 (x:Nat)) (.int .u64 63):Sem Value).run prog w= .ok (.int .u64 (up x:Nat)) w)
 (hor: ∀(x y:Nat) (p q:Operand) (w:World),(do eqGuard .or 22 p q (.int .u64 (x:Nat)) (.int .u64 (y:Nat));binOp .or 22 (.int .u64 (x:Nat)) (.int .u64 (y:Nat)):Sem Value).run prog w= .ok (.int .u64 (orr x y:Nat)) w):
 CGy 73 #[A4y a0 a1 a2 a3,.int .u64 (c:Nat)] w (.agg #[.int .u64 (orr (sh a0) (up (lo a1)):Nat),.int .u64 (orr (sh a1) (up (lo a2)):Nat),.int .u64 (orr (sh a2) (up (lo a3)):Nat),.int .u64 (orr (sh a3) (up c):Nat)]):=by
 go_enter func73,ntmps73
 refine EZ ?_
 refine E2 ?_;iterate 7 refine t_k ?_
 refine Ce 5 ?_
 iterate 3
  refine Ci ?_
  refine t_1 ?_;iterate 20 refine t_k ?_
  refine Ez ?_
  refine t_1 ?_;refine t_8 ?_;refine t_4 ?_;refine t_s (by exact AN rfl gg rfl rfl (fun w=>hlo _ _ _ w)) ?_;iterate 5 refine t_k ?_
  refine t_8 ?_;refine t_4 ?_;refine t_s (by exact AN rfl gg rfl rfl (fun w=>hsh _ _ _ w)) ?_;refine t_k ?_;refine t_s (by exact AN rfl gg rfl rfl (fun w=>hup _ _ _ w)) ?_;refine t_s (by exact AN rfl gg rfl rfl (fun w=>hor _ _ _ _ w)) ?_;refine t_8 ?_;refine GC ?_;iterate 2 refine t_k ?_
  refine E1 ?_
 refine Ci ?_
 refine Dz ?_
 iterate 2
  iterate 5 refine t_k ?_
 iterate 4 refine t_k ?_
 refine Dz ?_
 refine t_8 ?_;refine t_4 ?_;refine t_s (by exact AN rfl gg rfl rfl (fun w=>hsh _ _ _ w)) ?_;refine t_k ?_;refine t_s (by exact AN rfl gg rfl rfl (fun w=>hup _ _ _ w)) ?_;refine t_s (by exact AN rfl gg rfl rfl (fun w=>hor _ _ _ _ w)) ?_;refine t_8 ?_;refine GC ?_;iterate 2 refine t_k ?_
 refine Ez ?_
 refine FW ?_
 refine Aq ?_;refine Ci ?_
 refine t_3 ?_;refine Dd ?_;refine AD (AM results73 (Ad rfl rfl underlying96 rfl sizeOf96 rfl rfl)) ?_;intro w' hg;exact⟨rfl,hg⟩
theorem nD(b:Nat)(a0 a1 a2 a3 y0 y1 y2 y3:Nat)(w:World)
 (hz: ∀(_x:Nat) (p q:Operand) (w:World),(do eqGuard .and 22 p q (.int .u64 (a0:Nat)) (.int .u64 1);binOp .and 22 (.int .u64 (a0:Nat)) (.int .u64 1):Sem Value).run prog w= .ok (.int .u64 0) w)(h1: ∀w',Gw w w'→CGy 73 #[A4y a0 a1 a2 a3,.int .u64 0] w' (A4y y0 y1 y2 y3)):
 CGy 74 #[.pointer (some ⟨b,0,none⟩),A4y a0 a1 a2 a3] w (A4y y0 y1 y2 y3):=by
 go_enter func74,ntmps74
 refine EZ ?_
 refine Jl ?_
 refine t_8 ?_;refine t_4 ?_;refine t_s (by exact AN rfl gg rfl rfl (fun w=>hz 0 _ _ w)) ?_;refine Ez ?_
 refine t_3 ?_;refine t_s (by exact AS rfl gg rfl (eo func73) h1) ?_;refine Dd ?_;refine AD (AM results74 (Ad rfl rfl underlying96 rfl sizeOf96 rfl rfl)) ?_;intro w' hg;exact⟨rfl,hg⟩
theorem nC(b:Nat)(a0 a1 a2 a3 m0 m1 m2 m3 s0 s1 s2 s3 y0 y1 y2 y3:Nat)(c:Nat)(w:World)(hm: ∀(j:Nat) (v:Value),[.int .u64 (m0:Nat),.int .u64 (m1:Nat),.int .u64 (m2:Nat),.int .u64 (m3:Nat)][j]? =some v→w.cell? ⟨b,0+j,none⟩=some v)
 (hz: ∀(_x:Nat) (p q:Operand) (w:World),(do eqGuard .and 22 p q (.int .u64 (a0:Nat)) (.int .u64 1);binOp .and 22 (.int .u64 (a0:Nat)) (.int .u64 1):Sem Value).run prog w= .ok (.int .u64 1) w)(h1: ∀w',Gw w w'→CGy 77 #[A4y a0 a1 a2 a3,A4y m0 m1 m2 m3] w' (.tuple #[A4y s0 s1 s2 s3,.int .u64 (c:Nat)]))(h2: ∀w',Gw w w'→CGy 73 #[A4y s0 s1 s2 s3,.int .u64 (c:Nat)] w' (A4y y0 y1 y2 y3)):
 CGy 74 #[.pointer (some ⟨b,0,none⟩),A4y a0 a1 a2 a3] w (A4y y0 y1 y2 y3):=by
 go_enter func74,ntmps74
 refine EZ ?_
 refine Jl ?_
 refine t_8 ?_;refine t_4 ?_;refine t_s (by exact AN rfl gg rfl rfl (fun w=>hz 0 _ _ w)) ?_;refine G7 ?_
 refine t_3 ?_;iterate 2 refine t_k ?_
 refine D2 ?_;refine t_3 ?_;refine t_s (by exact AS rfl gg rfl (eo func77) h1) ?_;iterate 3 refine t_k ?_
 refine GB ?_;iterate 4 refine t_k ?_
 refine t_3 ?_;refine t_k ?_;refine t_s (by exact AS rfl gg rfl (eo func73) h2) ?_;refine Dd ?_;refine AD (AM results74 (Ad rfl rfl underlying96 rfl sizeOf96 rfl rfl)) ?_;intro w' hg;exact⟨rfl,hg⟩
theorem mb(b:Nat)(l:Nat→Nat→Nat)(x u0 m one zr:Nat)(w:World)(hm: ∀(j:Nat) (v:Value),[.int .u64 (l m 0:Nat),.int .u64 (l m 1:Nat),.int .u64 (l m 2:Nat),.int .u64 (l m 3:Nat)][j]? =some v→w.cell? ⟨b,0+j,none⟩=some v)(nz n1:Nat→Bool)(par:Nat→Nat)(hf hv:Nat→Nat)(lt:Nat→Nat→Bool)(sb bo ms:Nat→Nat→Nat)(R:Nat→Nat→Nat→Nat→Prop)
 (hone:l one 0=1∧l one 1=0∧l one 2=0∧l one 3=0)(hzero:l zr 0=0∧l zr 1=0∧l zr 2=0∧l zr 3=0)
 (h1: ∀w',Gw w w'→CGy 40 #[.pointer (some ⟨b,0,none⟩),q4y l x] w' (q4y l u0))
 (hR:R u0 m one zr)
 (hnz: ∀(u:Nat) (p q:Operand) (w:World),(do eqGuard .neq 96 p q (q4y l u) (.agg #[.int .u64 0,.int .u64 0,.int .u64 0,.int .u64 0]);binOp .neq 96 (q4y l u) (.agg #[.int .u64 0,.int .u64 0,.int .u64 0,.int .u64 0]):Sem Value).run prog w= .ok (.bool (nz u)) w)
 (hn1: ∀(u:Nat) (p q:Operand) (w:World),(do eqGuard .neq 96 p q (q4y l u) (.agg #[.int .u64 1,.int .u64 0,.int .u64 0,.int .u64 0]);binOp .neq 96 (q4y l u) (.agg #[.int .u64 1,.int .u64 0,.int .u64 0,.int .u64 0]):Sem Value).run prog w= .ok (.bool (n1 u)) w)
 (hpar: ∀(u:Nat) (p q:Operand) (w:World),(do eqGuard .and 22 p q (.int .u64 (l u 0:Nat)) (.int .u64 1);binOp .and 22 (.int .u64 (l u 0:Nat)) (.int .u64 1):Sem Value).run prog w= .ok (.int .u64 (par u:Nat)) w)
 (hhf: ∀u v a d:Nat,R u v a d→nz u=true→par u=0→ ∀w',Gw w w'→CGy 73 #[q4y l u,.int .u64 0] w' (q4y l (hf u)))
 (hhv: ∀u v a d:Nat,R u v a d→nz u=true→par u=0→ ∀w',Gw w w'→CGy 74 #[.pointer (some ⟨b,0,none⟩),q4y l a] w' (q4y l (hv a)))
 (hlt: ∀u v a d:Nat,R u v a d→nz u=true→par u≠0→ ∀w',Gw w w'→CGy 58 #[q4y l u,q4y l v] w' (.bool (lt u v)))
 (hsb: ∀u v a d:Nat,R u v a d→nz u=true→par u≠0→lt u v=false→ ∀w',Gw w w'→CGy 75 #[q4y l u,q4y l v] w' (.tuple #[q4y l (sb u v),.int .u64 (bo u v:Nat)]))
 (hsw: ∀u v a d:Nat,R u v a d→nz u=true→par u≠0→lt u v=true→ ∀w',Gw w w'→CGy 75 #[q4y l v,q4y l u] w' (.tuple #[q4y l (sb v u),.int .u64 (bo v u:Nat)]))
 (hms: ∀u v a d:Nat,R u v a d→nz u=true→par u≠0→lt u v=false→ ∀w',Gw w w'→CGy 76 #[.pointer (some ⟨b,0,none⟩),q4y l a,q4y l d] w' (q4y l (ms a d)))
 (hmw: ∀u v a d:Nat,R u v a d→nz u=true→par u≠0→lt u v=true→ ∀w',Gw w w'→CGy 76 #[.pointer (some ⟨b,0,none⟩),q4y l d,q4y l a] w' (q4y l (ms d a)))
 (se: ∀u v a d:Nat,R u v a d→nz u=true→par u=0→R (hf u) v (hv a) d∧hf u+v<u+v)
 (sg: ∀u v a d:Nat,R u v a d→nz u=true→par u≠0→lt u v=false→R (sb u v) v (ms a d) d∧sb u v+v<u+v)
 (sl: ∀u v a d:Nat,R u v a d→nz u=true→par u≠0→lt u v=true→R (sb v u) u (ms d a) a∧sb v u+u<u+v):
 Calls prog 42 #[.pointer (some ⟨b,0,none⟩),q4y l x] w fun e w'=>(∃u v a d,R u v a d∧nz u=false∧((n1 v=true∧e= .returned (.tuple #[.agg #[.int .u64 0,.int .u64 0,.int .u64 0,.int .u64 0],.int .i64 1]))∨(n1 v=false∧e= .returned (.tuple #[q4y l d,.int .i64 0]))))∧Gw w w':=by
 go_enter func42,ntmps42
 refine EZ ?_
 refine E2 ?_;iterate 6 refine t_k ?_
 refine Dz ?_
 refine t_3 ?_;refine t_s (by exact AS rfl gg rfl (eo func40) (h1)) ?_;iterate 2 refine t_k ?_
 refine D2 ?_;refine t_3 ?_;iterate 2 refine E2 ?_
 iterate 2 refine t_9 ?_
 iterate 3 refine t_k ?_
 iterate 2 refine t_1 ?_
 iterate 2 refine E2 ?_
 iterate 2 refine t_9 ?_
 iterate 3 refine t_k ?_
 refine Lf (fun n s=> ∃(u v a d:Nat),n=u+v∧R u v a d∧s.fr=[.v (.pointer (some ⟨b,0,none⟩)),.v (q4y l x),.v undef,.p 3 0,.p 4 0,.v (.int .i64 0),.p 6 0,.p 7 0,.p 8 0,.p 9 0,s.fr.getD 10 default,s.fr.getD 11 default,s.fr.getD 12 default,s.fr.getD 13 default,s.fr.getD 14 default,s.fr.getD 15 default,s.fr.getD 16 default,s.fr.getD 17 default,s.fr.getD 18 default,s.fr.getD 19 default,s.fr.getD 20 default,s.fr.getD 21 default,s.fr.getD 22 default,s.fr.getD 23 default,s.fr.getD 24 default,s.fr.getD 25 default,s.fr.getD 26 default,s.fr.getD 27 default,s.fr.getD 28 default,s.fr.getD 29 default,s.fr.getD 30 default,s.fr.getD 31 default,s.fr.getD 32 default,s.fr.getD 33 default,s.fr.getD 34 default,s.fr.getD 35 default,s.fr.getD 36 default,s.fr.getD 37 default,s.fr.getD 38 default,s.fr.getD 39 default,s.fr.getD 40 default,s.fr.getD 41 default,s.fr.getD 42 default,s.fr.getD 43 default,s.fr.getD 44 default,s.fr.getD 45 default,s.fr.getD 46 default,s.fr.getD 47 default,s.fr.getD 48 default,s.fr.getD 49 default,s.fr.getD 50 default,s.fr.getD 51 default,s.fr.getD 52 default,s.fr.getD 53 default,s.fr.getD 54 default,s.fr.getD 55 default,s.fr.getD 56 default,s.fr.getD 57 default]∧s.mem=AK [(9,([.v (.int .u64 (l d 0:Nat)),.v (.int .u64 (l d 1:Nat)),.v (.int .u64 (l d 2:Nat)),.v (.int .u64 (l d 3:Nat))],96)),(8,([.v (.int .u64 (l a 0:Nat)),.v (.int .u64 (l a 1:Nat)),.v (.int .u64 (l a 2:Nat)),.v (.int .u64 (l a 3:Nat))],96)),(7,([.v (.int .u64 (l v 0:Nat)),.v (.int .u64 (l v 1:Nat)),.v (.int .u64 (l v 2:Nat)),.v (.int .u64 (l v 3:Nat))],96)),(6,([.v (.int .u64 (l u 0:Nat)),.v (.int .u64 (l u 1:Nat)),.v (.int .u64 (l u 2:Nat)),.v (.int .u64 (l u 3:Nat))],96)),(4,([.v (.int .u64 0),.v (.int .u64 0),.v (.int .u64 0),.v (.int .u64 0)],96)),(3,([.v (.int .u64 (l x 0:Nat)),.v (.int .u64 (l x 1:Nat)),.v (.int .u64 (l x 2:Nat)),.v (.int .u64 (l x 3:Nat))],96))]) ?_ (u0+m) ?_;rotate_left
 ·exact⟨u0,m,one,zr,rfl,hR,rfl,by simp only[hone,hzero];rfl⟩
 rintro n ⟨fr,mm⟩ ⟨u,v,a,d,hn,hRn,hfr,hmm⟩;obtain⟨f,hf⟩: ∃f:Nat→SV,fr=[.v (.pointer (some ⟨b,0,none⟩)),.v (q4y l x),.v undef,.p 3 0,.p 4 0,.v (.int .i64 0),.p 6 0,.p 7 0,.p 8 0,.p 9 0,f 10,f 11,f 12,f 13,f 14,f 15,f 16,f 17,f 18,f 19,f 20,f 21,f 22,f 23,f 24,f 25,f 26,f 27,f 28,f 29,f 30,f 31,f 32,f 33,f 34,f 35,f 36,f 37,f 38,f 39,f 40,f 41,f 42,f 43,f 44,f 45,f 46,f 47,f 48,f 49,f 50,f 51,f 52,f 53,f 54,f 55,f 56,f 57]:=⟨fun i=>fr.getD i default,hfr⟩
 clear hfr;simp only at hmm;subst hf hmm;by_cases hz:nz u=true
 ·by_cases hp:par u=0
  ·have he:decide (((par u:Nat):Int)=0)=true:=decide_eq_true (by omega)
   iterate 3 refine t_k ?_
   refine t_3 ?_;refine t_1 ?_;refine Lw ?_;iterate 8 refine t_k ?_
   refine t_8 ?_;refine t_4 ?_;refine t_s (by exact AN rfl gg rfl rfl (fun w=>hpar _ _ _ w)) ?_;refine t_s (by exact Ax (p:=true) rfl gg rfl rfl he) ?_;iterate 5 refine t_k ?_
   refine t_3 ?_;refine t_s (by exact AS rfl gg rfl (eo func73) (hhf _ _ _ _ hRn hz hp)) ?_;refine t_k ?_;refine t_3 ?_;refine t_s (by exact AS rfl gg rfl (eo func74) (hhv _ _ _ _ hRn hz hp)) ?_;iterate 2 refine t_9 ?_
   refine t_k ?_;refine Aq ?_;exact⟨_,by have:=(se _ _ _ _ hRn hz hp).2;omega,_,_,_,_,rfl,(se _ _ _ _ hRn hz hp).1,rfl,rfl⟩
  ·have he:decide (((par u:Nat):Int)=0)=false:=decide_eq_false (by omega)
   cases hl:lt u v
   ·skip
    iterate 3 refine t_k ?_
    refine t_3 ?_;refine t_1 ?_;refine Lw ?_;iterate 8 refine t_k ?_
    refine t_8 ?_;refine t_4 ?_;refine t_s (by exact AN rfl gg rfl rfl (fun w=>hpar _ _ _ w)) ?_;refine t_s (by exact Ax (p:=false) rfl gg rfl rfl he) ?_;iterate 5 refine t_k ?_
    iterate 2 refine t_3 ?_
    refine t_s (by exact AS (v:= .bool false) rfl gg rfl (eo func58) (fun w' hw'=>by rw[←hl];exact hlt _ _ _ _ hRn hz hp w' hw')) ?_;iterate 6 refine t_k ?_
    iterate 2 refine t_3 ?_
    refine t_s (by exact AS rfl gg rfl (eo func75) (hsb _ _ _ _ hRn hz hp hl)) ?_;iterate 3 refine t_k ?_
    refine t_9 ?_;iterate 3 refine t_k ?_
    iterate 2 refine t_3 ?_
    refine t_s (by exact AS rfl gg rfl (eo func76) (hms _ _ _ _ hRn hz hp hl)) ?_;refine t_9 ?_;refine t_k ?_;exact⟨_,by have:=(sg _ _ _ _ hRn hz hp hl).2;omega,_,_,_,_,rfl,(sg _ _ _ _ hRn hz hp hl).1,rfl,rfl⟩
   ·skip
    iterate 3 refine t_k ?_
    refine t_3 ?_;refine t_1 ?_;refine Lw ?_;iterate 8 refine t_k ?_
    refine t_8 ?_;refine t_4 ?_;refine t_s (by exact AN rfl gg rfl rfl (fun w=>hpar _ _ _ w)) ?_;refine t_s (by exact Ax (p:=false) rfl gg rfl rfl he) ?_;iterate 5 refine t_k ?_
    iterate 2 refine t_3 ?_
    refine t_s (by exact AS (v:= .bool true) rfl gg rfl (eo func58) (fun w' hw'=>by rw[←hl];exact hlt _ _ _ _ hRn hz hp w' hw')) ?_;iterate 4 refine t_k ?_
    iterate 4 refine t_3 ?_
    iterate 4 refine t_9 ?_
    iterate 3 refine t_k ?_
    iterate 2 refine t_3 ?_
    refine t_s (by exact AS rfl gg rfl (eo func75) (hsw _ _ _ _ hRn hz hp hl)) ?_;iterate 3 refine t_k ?_
    refine t_9 ?_;iterate 3 refine t_k ?_
    iterate 2 refine t_3 ?_
    refine t_s (by exact AS rfl gg rfl (eo func76) (hmw _ _ _ _ hRn hz hp hl)) ?_;refine t_9 ?_;refine t_k ?_;exact⟨_,by have:=(sl _ _ _ _ hRn hz hp hl).2;omega,_,_,_,_,rfl,(sl _ _ _ _ hRn hz hp hl).1,rfl,rfl⟩
 ·replace hz:nz u=false:=by simpa using hz
  iterate 3 refine t_k ?_
  refine t_3 ?_;refine t_1 ?_;refine Lw ?_;iterate 2 refine t_k ?_
  refine Aq ?_;change VOk _ _ _ _ _;cases h1v:n1 v
  ·skip
   iterate 3 refine t_k ?_
   refine t_3 ?_;refine t_1 ?_;refine t_s (by exact AN rfl gg rfl rfl (fun w=>(hn1 _ _ _ w).trans (by rw[h1v]))) ?_;iterate 5 refine t_k ?_
   refine t_3 ?_;refine IC ?_
   refine AG ?_;refine AD (Av results42 (Ad rfl rfl underlying96 rfl sizeOf96 rfl rfl) (AE rfl)) ?_;intro w' hg;exact⟨⟨_,_,_,_,hRn,hz,.inr ⟨h1v,rfl⟩⟩,hg⟩
  ·skip
   iterate 3 refine t_k ?_
   refine t_3 ?_;refine t_1 ?_;refine t_s (by exact AN rfl gg rfl rfl (fun w=>(hn1 _ _ _ w).trans (by rw[h1v]))) ?_;iterate 4 refine t_k ?_
   refine t_1 ?_;refine IC ?_
   refine AG ?_;refine AD (Av results42 (Ad rfl rfl underlying96 rfl sizeOf96 rfl rfl) (AE rfl)) ?_;intro w' hg;exact⟨⟨_,_,_,_,hRn,hz,.inl ⟨h1v,rfl⟩⟩,hg⟩
theorem fy(l:Nat→Nat→Nat)(m x0 zr ng:Nat)(w:World)(mu s2:Nat→Nat)(mm:Nat→Nat→Nat)(sm cy dbl:Nat→Nat)(R:Nat→Nat→Nat→Prop)(hzero:l zr 0=0∧l zr 1=0∧l zr 2=0∧l zr 3=0)
 (hand: ∀(p q:Operand) (w:World),(do eqGuard .and 22 p q (.int .u64 ((l m 0):Nat)) (.int .u64 1);binOp .and 22 (.int .u64 ((l m 0):Nat)) (.int .u64 1):Sem Value).run prog w= .ok (.int .u64 1) w)(hone: ∀(p q:Operand) (w:World),(do eqGuard .eql 96 p q (q4y l m) (.agg #[.int .u64 1,.int .u64 0,.int .u64 0,.int .u64 0]);binOp .eql 96 (q4y l m) (.agg #[.int .u64 1,.int .u64 0,.int .u64 0,.int .u64 0]):Sem Value).run prog w= .ok (.bool false) w)
 (hmu: ∀(x:Nat) (p q:Operand) (w:World),(do eqGuard .mul 22 p q (.int .u64 ((l m 0):Nat)) (.int .u64 (x:Nat));binOp .mul 22 (.int .u64 ((l m 0):Nat)) (.int .u64 (x:Nat)):Sem Value).run prog w= .ok (.int .u64 (mu x:Nat)) w)
 (_hmu1: ∀(p q:Operand) (w:World),(do eqGuard .mul 22 p q (.int .u64 ((l m 0):Nat)) (.int .u64 1);binOp .mul 22 (.int .u64 ((l m 0):Nat)) (.int .u64 1):Sem Value).run prog w= .ok (.int .u64 (mu 1:Nat)) w)
 (hs2b: ∀(x:Nat) (p q:Operand) (w:World),(do eqGuard .sub 22 p q (.int .u64 2) (.int .u64 (x:Nat));binOp .sub 22 (.int .u64 2) (.int .u64 (x:Nat)):Sem Value).run prog w= .ok (.int .u64 (s2 x:Nat)) w)
 (hmm: ∀(x y:Nat) (p q:Operand) (w:World),(do eqGuard .mul 22 p q (.int .u64 (x:Nat)) (.int .u64 (y:Nat));binOp .mul 22 (.int .u64 (x:Nat)) (.int .u64 (y:Nat)):Sem Value).run prog w= .ok (.int .u64 (mm x y:Nat)) w)
 (_hmm1: ∀(y:Nat) (p q:Operand) (w:World),(do eqGuard .mul 22 p q (.int .u64 1) (.int .u64 (y:Nat));binOp .mul 22 (.int .u64 1) (.int .u64 (y:Nat)):Sem Value).run prog w= .ok (.int .u64 (mm 1 y:Nat)) w)
 (hng: ∀w:World,(Op.unary .neg (.int .u64 ((mm (mm (mm (mm (mm (mm 1 (s2 (mu 1))) (s2 (mu (mm 1 (s2 (mu 1)))))) (s2 (mu (mm (mm 1 (s2 (mu 1))) (s2 (mu (mm 1 (s2 (mu 1))))))))) (s2 (mu (mm (mm (mm 1 (s2 (mu 1))) (s2 (mu (mm 1 (s2 (mu 1)))))) (s2 (mu (mm (mm 1 (s2 (mu 1))) (s2 (mu (mm 1 (s2 (mu 1)))))))))))) (s2 (mu (mm (mm (mm (mm 1 (s2 (mu 1))) (s2 (mu (mm 1 (s2 (mu 1)))))) (s2 (mu (mm (mm 1 (s2 (mu 1))) (s2 (mu (mm 1 (s2 (mu 1))))))))) (s2 (mu (mm (mm (mm 1 (s2 (mu 1))) (s2 (mu (mm 1 (s2 (mu 1)))))) (s2 (mu (mm (mm 1 (s2 (mu 1))) (s2 (mu (mm 1 (s2 (mu 1))))))))))))))) (s2 (mu (mm (mm (mm (mm (mm 1 (s2 (mu 1))) (s2 (mu (mm 1 (s2 (mu 1)))))) (s2 (mu (mm (mm 1 (s2 (mu 1))) (s2 (mu (mm 1 (s2 (mu 1))))))))) (s2 (mu (mm (mm (mm 1 (s2 (mu 1))) (s2 (mu (mm 1 (s2 (mu 1)))))) (s2 (mu (mm (mm 1 (s2 (mu 1))) (s2 (mu (mm 1 (s2 (mu 1)))))))))))) (s2 (mu (mm (mm (mm (mm 1 (s2 (mu 1))) (s2 (mu (mm 1 (s2 (mu 1)))))) (s2 (mu (mm (mm 1 (s2 (mu 1))) (s2 (mu (mm 1 (s2 (mu 1))))))))) (s2 (mu (mm (mm (mm 1 (s2 (mu 1))) (s2 (mu (mm 1 (s2 (mu 1)))))) (s2 (mu (mm (mm 1 (s2 (mu 1))) (s2 (mu (mm 1 (s2 (mu 1)))))))))))))))))):Nat))).run prog w= .ok (.int .u64 (ng:Nat)) w)
 (hs0: ∀(w':World) (g:Nat),(∀(j:Nat) (v:Value),[.int .u64 (l m 0:Nat),.int .u64 (l m 1:Nat),.int .u64 (l m 2:Nat),.int .u64 (l m 3:Nat)][j]? =some v→w'.cell? ⟨g,0+j,none⟩=some v)→CGy 78 #[.pointer (some ⟨g,0,none⟩),.agg #[.int .u64 1,.int .u64 0,.int .u64 0,.int .u64 0],.int .u64 0] w' (q4y l x0))
 (had: ∀i x o,i<512→R i x o→ ∀w',Gw w w'→CGy 77 #[q4y l x,q4y l x] w' (.tuple #[q4y l (sm x),.int .u64 (cy x:Nat)]))
 (hsh: ∀i x o,i<512→R i x o→ ∀(w':World) (g:Nat),(∀(j:Nat) (v:Value),[.int .u64 (l m 0:Nat),.int .u64 (l m 1:Nat),.int .u64 (l m 2:Nat),.int .u64 (l m 3:Nat)][j]? =some v→w'.cell? ⟨g,0+j,none⟩=some v)→CGy 78 #[.pointer (some ⟨g,0,none⟩),q4y l (sm x),.int .u64 (cy x:Nat)] w' (q4y l (dbl x)))
 (hR:R 0 x0 zr)
 (hs: ∀i x o,i<512→i≠256→R i x o→R (i+1) (dbl x) o)
 (hs2: ∀x o,R 256 x o→R 257 (dbl x) x):
 Calls prog 69 #[q4y l m] w fun e w'=> ∃x o g,R 512 x o∧w.heap.size≤g∧w'.heap[g]? =some (.cells #[.int .u64 (l m 0:Nat),.int .u64 (l m 1:Nat),.int .u64 (l m 2:Nat),.int .u64 (l m 3:Nat),.int .u64 (ng:Nat),.int .u64 (l o 0:Nat),.int .u64 (l o 1:Nat),.int .u64 (l o 2:Nat),.int .u64 (l o 3:Nat),.int .u64 (l x 0:Nat),.int .u64 (l x 1:Nat),.int .u64 (l x 2:Nat),.int .u64 (l x 3:Nat)] 150 (0,0))∧e= .returned (.tuple #[.pointer (some ⟨g,0,none⟩),.int .i64 0])∧Gw w w':=by
 go_enter func69,ntmps69
 refine Jm ?_
 refine t_8 ?_;refine t_4 ?_;refine t_s (by exact AN rfl gg rfl rfl (fun w=>hand _ _ w)) ?_;refine t_1 ?_;refine t_k ?_;refine bB ?_;refine Js ?_;refine t_s (by first|exact Ev.skip (fun _=>rfl)|exact AN rfl (fun _=>rfl) rfl rfl (fun w=>hone _ _ w)) ?_;refine G7 ?_
 refine t_3 ?_;refine t_1 ?_;iterate 13 refine t_k ?_
 refine Ce 7 ?_;refine Ci ?_
 refine G6 ?_
 refine t_8 ?_;refine t_4 ?_;refine t_k ?_;refine IM ?_;refine IK ?_;refine IE ?_
 refine Ez ?_
 refine G6 ?_
 refine t_8 ?_;refine t_4 ?_;refine t_k ?_;refine IM ?_;refine IK ?_;refine IE ?_
 refine Ez ?_
 refine G6 ?_
 refine t_8 ?_;refine t_4 ?_;refine t_k ?_;refine IM ?_;refine IK ?_;refine IE ?_
 refine Ez ?_
 refine G6 ?_
 refine t_8 ?_;refine t_4 ?_;refine t_k ?_;refine IM ?_;refine IK ?_;refine IE ?_
 refine Ez ?_
 refine G6 ?_
 refine t_8 ?_;refine t_4 ?_;refine t_k ?_;refine IM ?_;refine IK ?_;refine IE ?_
 refine Ez ?_
 refine G6 ?_
 refine t_8 ?_;refine t_4 ?_;refine t_k ?_;refine IM ?_;refine IK ?_;refine IE ?_
 refine Ez ?_
 refine FW ?_
 refine Aq ?_;change VOk _ _ _ _ _;iterate 4 refine t_k ?_
 refine t_s (by exact K4 rfl gg rfl (fun w=>hng w)) ?_;refine t_k ?_;refine t_s (by first|exact Cn rfl gg rfl underlying150 rfl sizeOf22|exact Cm rfl gg rfl underlying150 rfl sizeOf22) ?_;refine GC ?_;iterate 4 refine t_k ?_
 refine t_1 ?_;refine t_s (by exact Aj [21] rfl gg rfl (eo func78) (fun ρ w' hs'=>hs0 w' (ρ 21) (O4 hs' (by simp) rfl 0 _ rfl))) ?_;refine G5 ?_
 refine OM (fun i=>i==0||i==1||i==2||i==3||i==4||i==6||i==40) 999 fun f0=> ?_
 refine t_k ?_;refine Lf (fun n s=> ∃(f:Nat→Value) (i x o:Nat),n+i=512∧R i x o∧s.fr=[.v (q4y l m),.p 1 0,.v (.pointer none),.v (.int .i64 0),.p 21 0,.v (f 5),.p 6 0,.v (f 7),.v (f 8),.v (f 9),.v (f 10),.v (f 11),.v (f 12),.v (f 13),.v (f 14),.v (f 15),.v (f 16),.v (f 17),.v (f 18),.v (f 19),.v (f 20),.v (f 21),.v (f 22),.v (f 23),.v (f 24),.v (f 25),.v (f 26),.v (f 27),.v (f 28),.v (f 29),.v (f 30),.v (f 31),.v (f 32),.v (f 33),.v (f 34),.v (f 35),.v (f 36),.v (f 37),.v (f 38),.v (f 39),.v (.int .i64 (i:Nat)),.v (f 41),.v (f 42),.v (f 43),.v (f 44),.v (f 45),.v (f 46),.v (f 47),.v (f 48),.v (f 49),.v (f 50),.v (f 51),.v (f 52),.v (f 53),.v (f 54),.v (f 55),.v (f 56),.v (f 57),.v (f 58),.v (f 59),.v (f 60),.v (f 61),.v (f 62),.v (f 63),.v (f 64)]∧s.mem=AK [(6,([.v (.int .u64 (l x 0:Nat)),.v (.int .u64 (l x 1:Nat)),.v (.int .u64 (l x 2:Nat)),.v (.int .u64 (l x 3:Nat))],96)),(21,([.v (.int .u64 (l m 0:Nat)),.v (.int .u64 (l m 1:Nat)),.v (.int .u64 (l m 2:Nat)),.v (.int .u64 (l m 3:Nat)),.v (.int .u64 (ng:Nat)),.v (.int .u64 (l o 0:Nat)),.v (.int .u64 (l o 1:Nat)),.v (.int .u64 (l o 2:Nat)),.v (.int .u64 (l o 3:Nat)),.v (.int .u64 0),.v (.int .u64 0),.v (.int .u64 0),.v (.int .u64 0)],150)),(1,([.v (.int .u64 (l m 0:Nat)),.v (.int .u64 (l m 1:Nat)),.v (.int .u64 (l m 2:Nat)),.v (.int .u64 (l m 3:Nat))],96))]) ?_ 512 ?_;rotate_left
 ·exact⟨f0,0,x0,zr,rfl,hR,rfl,by simp only[hzero];exact gd rfl⟩
 rintro n ⟨fr,mm'⟩ ⟨f,i,x,o,hn,hRn,hfr,hmm'⟩;simp only at hfr hmm';subst hfr hmm';by_cases hlt:i<512
 ·have hdec:decide ((i:Int)<512)=true:=decide_eq_true (by omega)
  have hadd:IntKind.i64.wrap ((i:Int)+1)=((i+1:Nat):Int):=by rw[Af (by omega) (by omega)];omega
  refine Zy (fun i=>i==0||i==1||i==2||i==3||i==4||i==6||i==40) 8 ?_;by_cases h256:i=256
  ·have hdq:decide ((i:Int)=256)=true:=decide_eq_true (by omega)
   iterate 2 refine t_k ?_
   refine t_s (by exact A4 rfl gg rfl rfl hdec) ?_;iterate 15 refine t_k ?_
   refine t_s (by exact Ax rfl gg rfl rfl hdq) ?_;iterate 4 refine t_k ?_
   refine t_3 ?_;refine t_k ?_;refine D2 ?_;refine t_9 ?_;iterate 3 refine t_k ?_
   iterate 2 refine t_3 ?_
   refine t_s (by exact AS rfl gg rfl (eo func77) (had _ _ _ hlt hRn)) ?_;iterate 3 refine t_k ?_
   refine GB ?_;iterate 4 refine t_k ?_
   refine t_3 ?_;refine t_k ?_;refine Sc ?_;refine IC ?_
   refine t_s (by exact A2 rfl gg rfl rfl hadd) ?_;iterate 2 refine t_k ?_
   intro f';subst h256;exact⟨n-1,by omega,f',_,_,_,by omega,hs2 _ _ hRn,rfl,Uv rfl⟩
  ·have hdq:decide ((i:Int)=256)=false:=decide_eq_false (by omega)
   iterate 2 refine t_k ?_
   refine t_s (by exact A4 rfl gg rfl rfl hdec) ?_;iterate 15 refine t_k ?_
   refine t_s (by exact Ax rfl gg rfl rfl hdq) ?_;iterate 5 refine t_k ?_
   iterate 2 refine t_3 ?_
   refine t_s (by exact AS rfl gg rfl (eo func77) (had _ _ _ hlt hRn)) ?_;iterate 3 refine t_k ?_
   refine GB ?_;iterate 4 refine t_k ?_
   refine t_3 ?_;refine t_k ?_;refine Sc ?_;refine IC ?_
   refine t_s (by exact A2 rfl gg rfl rfl hadd) ?_;iterate 2 refine t_k ?_
   intro f';exact⟨n-1,by omega,f',_,_,_,by omega,hs _ _ _ hlt h256 hRn,rfl,Uv rfl⟩
 ·obtain rfl:i=512:=by omega
  iterate 2 refine t_k ?_
  refine t_s (by exact A4 (p:=false) rfl gg rfl rfl (by decide)) ?_;iterate 3 refine t_k ?_
  refine Aq ?_;change VOk _ _ _ _ _;change VOk _ _ _ _ _;iterate 3 refine t_k ?_
  refine t_3 ?_;refine t_k ?_;refine D2 ?_;refine t_9 ?_;iterate 7 refine t_k ?_
  refine AG ?_;refine eN rfl rfl rfl rfl rfl ?_;intro g w' h1 h2 h3;exact⟨_,_,_,hRn,h1,h2,rfl,h3⟩
end Go.Proofs.YtefpajmkaaielaaGreatDoor
namespace TollNt
theorem d6:Prm 704251:=HP 839 (by decide+kernel)
theorem dz:Prm 78283:=HP 279 (by decide+kernel)
theorem eC:Prm 3677:=HP 60 (by decide+kernel)
theorem eG:Prm 197:=HP 14 (by decide+kernel)
theorem eI:Prm 155317:=HP 394 (by decide+kernel)
theorem eD:Prm 3023:=HP 54 (by decide+kernel)
theorem d9:Prm 3969899:=HP 1992 (by decide+kernel)
theorem d8:Prm 46076956964474543:=KC (q:=704251) (r:=78283) (a:=2) (b:=2) 56 d6 dz (by decide+kernel)
theorem d7:Prm 66417393611:=KC (q:=3677) (r:=197) (a:=2) (b:=2) 36 eC eG (by decide+kernel)
theorem eK:Prm 11290956913871:=IX (q:=66417393611) (a:=2) 44 d7 (by decide+kernel)
theorem d5:Prm 774023187263532362759620327192479577272145303:=KC (q:=46076956964474543) (r:=11290956913871) (a:=2) (b:=2) 150 d8 eK (by decide+kernel)
theorem dy:Prm 835945042244614951780389953367877943453916927241:=IX (q:=774023187263532362759620327192479577272145303) (a:=2) 160 d5 (by decide+kernel)
theorem eJ:Prm 115792089210356248762697446949407573530086143415290314195533631308867097853951:=IX (q:=835945042244614951780389953367877943453916927241) (a:=2) 256 dy (by decide+kernel)
theorem eH:Prm 191039911:=IX (q:=155317) (a:=2) 28 eI (by decide+kernel)
theorem eF:Prm 208150935158385979:=KC (q:=191039911) (r:=3023) (a:=2) (b:=2) 58 eH eD (by decide+kernel)
theorem eE:Prm 2624747550333869278416773953:=IX (q:=208150935158385979) (a:=2) 92 eF (by decide+kernel)
theorem eL:Prm 1002328039319:=IX (q:=3969899) (a:=2) 40 d9 (by decide+kernel)
theorem prm_115792089210356248762697446949407573529996955224135760342422259061068512044369:Prm 115792089210356248762697446949407573529996955224135760342422259061068512044369:=KC (q:=2624747550333869278416773953) (r:=1002328039319) (a:=2) (b:=2) 256 eE eL (by decide+kernel)
end TollNt
namespace TollEc
open TollNt
abbrev pp:Nat:=115792089210356248762697446949407573530086143415290314195533631308867097853951
abbrev F:=Fin pp
def cb:F:=41058363725152142129326129780047268409114441015993725554835256314039467401291
theorem dx:Prm pp:=eJ
theorem inv_ex(x:F)(hx:x≠0): ∃y:F,x*y=1:=by
 refine⟨⟨x.val^(pp-2) %pp,Nat.mod_lt _ (by decide)⟩,?_⟩;apply Fin.ext
 have hnd: ¬pp∣x.val:=by
  intro h;have:=Nat.eq_zero_of_dvd_of_lt h x.isLt;exact hx (Fin.ext this)
 have:=fermat dx hnd;rw[Fin.val_mul];show x.val*(x.val^(pp-2) %pp) %pp=1;rw[Nat.mul_mod_mod,Nat.mul_comm,←Nat.pow_succ];exact this
theorem EJ{a b:F}(h:a*b=0):a=0∨b=0:=by
 by_cases ha:a=0
 ·exact .inl ha
 ·obtain⟨c,hc⟩:=inv_ex a ha
  right;have:b=c*(a*b):=by grind-lia
  rw[this,h];grind-lia
theorem Q8{a b c:F}(ha:a≠0)(h:a*b=a*c):b=c:=by
 have h1:a*(b-c)=0:=by grind-lia
 rcases EJ h1 with h2|h2
 ·exact absurd h2 ha
 ·grind-lia
open Classical in
noncomputable def Cr(x:F):F:=if h: ∃y,x*y=1 then Classical.choose h else 0
theorem Fo{x:F}(h:x≠0):x*Cr x=1:=by
 unfold Cr;rw[dif_pos (inv_ex x h)];exact Classical.choose_spec (inv_ex x h)
theorem nX{x y:F}(h:x*y=1):Cr x=y:=by
 have hx:x≠0:=by rintro rfl;exact absurd h (by grind-lia)
 exact Q8 hx ((Fo hx).trans h.symm)
inductive Pt where
 |inf
 |aff (x y:F)
deriving DecidableEq
def onE(x y:F):Prop:=y*y=x*x*x-3*x+cb
def Pt.on:Pt→Prop
 | .inf=>True
 | .aff x y=>onE x y
def neg:Pt→Pt
 | .inf=> .inf
 | .aff x y=> .aff x (-y)
noncomputable def Ju(x1 y1 x2 y2:F):F:=
 if x1=x2 then(3*(x1*x1)-3)*Cr (y1+y2)else(y2-y1)*Cr (x2-x1)
noncomputable def add:Pt→Pt→Pt
 | .inf,q=>q
 |p,.inf=>p
 | .aff x1 y1,.aff x2 y2=>
   if x1=x2∧y1+y2=0 then .inf
   else
    let s:=Ju x1 y1 x2 y2
    .aff (s*s-x1-x2) (s*(x1-(s*s-x1-x2))-y1)
theorem F1(p:Pt):add p .inf=p:=by cases p<;>rfl
theorem EN(p:Pt):add .inf p=p:=by cases p<;>rfl
theorem tw(p:Pt):add p (neg p)= .inf:=by
 cases p with
 |inf=>rfl
 |aff x y=>
  have h:y+ -y=0:=by grind-lia
  simp only[neg,add,h,and_self,if_true]
theorem f9(p:Pt):neg (neg p)=p:=by
 cases p with
 |inf=>rfl
 |aff x y=>simp only[neg];congr 1;grind-lia
theorem fU{p:Pt}(h:p.on):(neg p).on:=by
 cases p with
 |inf=>exact h
 |aff x y=>simp only[neg,Pt.on,onE]at *; grind-lia
theorem Hz{x1 y1 x2 y2 s:F}(hx:x1≠x2)(hs:s*(x2-x1)=y2-y1):
 add (.aff x1 y1) (.aff x2 y2)= .aff (s*s-x1-x2) (s*(x1-(s*s-x1-x2))-y1):=by
 have h0:x2-x1≠0:=by intro h;exact hx (by grind-lia)
 have hi:=Fo h0
 have:Ju x1 y1 x2 y2=s:=by
  unfold Ju;rw[if_neg hx,←hs];grind-lia
 simp only[add];rw[if_neg (fun h=>hx h.1),this]
theorem Rb{x y s:F}(hy:y+y≠0)(hs:s*(y+y)=3*(x*x)-3):
 add (.aff x y) (.aff x y)= .aff (s*s-x-x) (s*(x-(s*s-x-x))-y):=by
 have hi:=Fo hy
 have:Ju x y x y=s:=by
  unfold Ju;rw[if_pos rfl,←hs];grind-lia
 simp only[add];rw[if_neg (fun h=>hy h.2),this]
theorem Mm{x1 y1 x2 y2:F}(h1:onE x1 y1)(h2:onE x2 y2)(hn: ¬(x1=x2∧y1+y2=0)):
 ∃l m x4:F,y1=l*x1+m∧y2=l*x2+m∧x4=l*l-x1-x2∧
  x1*x2+x1*x4+x2*x4+2*l*m+3=0∧cb=m*m-x1*x2*x4∧
  add (.aff x1 y1) (.aff x2 y2)= .aff x4 (-(l*x4+m)):=by
 unfold onE at h1 h2;by_cases hx:x1=x2
 ·subst hx
  have hy:y1+y2≠0:=fun h=>hn ⟨rfl,h⟩
  have hyy:(y1+y2)*(y1-y2)=0:=by grind-lia
  have hy12:y1=y2:=by
   rcases EJ hyy with h|h
   ·exact absurd h hy
   ·grind-lia
  subst hy12;have hi:=Fo hy;generalize hl:(3*(x1*x1)-3)*Cr (y1+y1)=l;have hs:l*(y1+y1)=3*(x1*x1)-3:=by rw[←hl];grind-lia
  clear hi hl;refine⟨l,y1-l*x1,l*l-x1-x1,by grind-lia,by grind-lia,rfl,by grind-lia,by grind-lia,?_⟩;rw[Rb hy hs];congr 1;grind-lia
 ·have h0:x2-x1≠0:=by intro h;exact hx (by grind-lia)
  have hi:=Fo h0;generalize hl:(y2-y1)*Cr (x2-x1)=l;have hs:l*(x2-x1)=y2-y1:=by rw[←hl];grind-lia
  clear hi hl;obtain⟨m,rfl⟩: ∃m,y1=l*x1+m:=⟨y1-l*x1,by grind-lia⟩
  have hy2:y2=l*x2+m:=by grind-lia
  subst hy2;have hk:(x2-x1)*(x1*x2+x1*(l*l-x1-x2)+x2*(l*l-x1-x2)+2*l*m+3)=0:=by grind-lia
  have hR:x1*x2+x1*(l*l-x1-x2)+x2*(l*l-x1-x2)+2*l*m+3=0:=by
   rcases EJ hk with h|h
   ·exact absurd h h0
   ·exact h
  refine⟨l,m,l*l-x1-x2,rfl,rfl,rfl,hR,by grind-lia,?_⟩;rw[Hz hx hs];congr 1;grind-lia
theorem fV{x1 x2 x4 l m:F}(h4:x4=l*l-x1-x2)(e3:x1*x2+x1*x4+x2*x4+2*l*m+3=0)
 (e4:cb=m*m-x1*x2*x4):onE x4 (l*x4+m):=by
 unfold onE
 have:(l*x4+m)*(l*x4+m)-(x4*x4*x4-3*x4+cb)=x4*(x1*x2+x1*x4+x2*x4+2*l*m+3):=by
  rw[e4];grind-lia
 rw[e3]at this
 grind-lia
theorem on_add{p q:Pt}(hp:p.on)(hq:q.on):(add p q).on:=by
 cases p with
 |inf=>rw[EN];exact hq
 |aff x1 y1=>
  cases q with
  |inf=>rw[F1];exact hp
  |aff x2 y2=>
   by_cases hn:x1=x2∧y1+y2=0
   ·simp only[add,if_pos hn];exact True.intro
   ·obtain⟨l,m,x4,e1,e2,h4,e3,e4,e5⟩:=Mm hp hq hn
    rw[e5];exact fU (p:= .aff x4 (l*x4+m)) (fV h4 e3 e4)
theorem add_comm(p q:Pt)(hp:p.on)(hq:q.on):add p q=add q p:=by
 cases p with
 |inf=>rw[EN,F1]
 |aff x1 y1=>
  cases q with
  |inf=>rw[EN,F1]
  |aff x2 y2=>
   by_cases hx:x1=x2
   ·subst hx
    by_cases hn:y1+y2=0
    ·have hn':y2+y1=0:=by grind-lia
     simp only[add,hn,hn',and_self,if_true]
    ·simp only[Pt.on,onE]at hp hq
     have hyy:(y1+y2)*(y1-y2)=0:=by grind-lia
     have hy12:y1=y2:=by
      rcases EJ hyy with h|h
      ·exact absurd h hn
      ·grind-lia
     rw[hy12]
   ·have h0:x2-x1≠0:=by intro h;exact hx (by grind-lia)
    have hi:=Fo h0;generalize hl:(y2-y1)*Cr (x2-x1)=l;have hs:l*(x2-x1)=y2-y1:=by rw[←hl];grind-lia
    have hs':l*(x1-x2)=y1-y2:=by grind-lia
    clear hi hl hp hq;rw[Hz hx hs,Hz (fun h=>hx h.symm) hs'];congr 1
    ·grind-lia
    ·grind-lia
theorem bu{x:F}(h1:x*x=1)(h2:cb=2*x):False:=by
 have h3:cb*cb=4:=by rw[h2];grind-lia
 exact absurd h3 (by decide+kernel)
theorem SO:(2:F)≠0:=by decide+kernel
theorem aX:(3:F)≠0:=by decide+kernel
theorem LS{s b:Pt}(hs:s.on)(hb:b.on):add (add s b) (neg b)=s:=by
 cases b with
 |inf=>simp only[neg,F1]
 |aff x2 y2=>
  cases s with
  |inf=>rw[EN,tw]
  |aff x1 y1=>
   by_cases hn:x1=x2∧y1+y2=0
   ·obtain⟨rfl,hy⟩:=hn
    simp only[add,hy,and_self,if_true,neg];congr 1;grind-lia
   ·obtain⟨l,m,x4,e1,e2,h4,e3,e4,e5⟩:=Mm hs hb hn
    rw[e5];simp only[neg];clear hs hb e5 hn;by_cases hx:x4=x2
    ·subst hx
     have hy:y2+y2≠0:=by
      intro hy;have h2y:2*y2=0:=by grind-lia
      have hy0:y2=0:=by
       rcases EJ h2y with h|h
       ·exact absurd h SO
       ·exact h
      have hm:m= -(l*x4):=by grind-lia
      subst hm;have hx1:x1=l*l-x4-x4:=by grind-lia
      subst hx1;have h3:3*(x4*x4-1)=0:=by grind-lia
      have h5:x4*x4=1:=by
       rcases EJ h3 with h|h
       ·exact absurd h aX
       ·grind-lia
      refine bu h5 ?_;rw[e4];grind-lia
     have hy': -y2+ -y2≠0:=by intro h;exact hy (by grind-lia)
     have ht:(-l)*(-y2+ -y2)=3*(x4*x4)-3:=by
      have hx1:x1=l*l-x4-x4:=by grind-lia
      subst hx1
      grind-lia
     rw[←e2,Rb hy' ht];congr 1<;>grind-lia
    ·have hsl:(-l)*(x2-x4)= -y2- -(l*x4+m):=by grind-lia
     rw[Hz hx hsl];congr 1<;>grind-lia
theorem uB{p q s:Pt}(hp:p.on)(hq:q.on)(hs:s.on)(h:add p s=add q s):p=q:=by
 rw[←LS hp hs,h,LS hq hs]
theorem sH(x1 x2 x3 l k w x4 x6:F)(hw:w*(k-l)=x3-x1)(h4:x4=l*l-x1-x2)(h6:x6=k*k-x2-x3):
 (w-l)*(w-l)-x3-x4=(w-k)*(w-k)-x1-x6:=by grind-lia
theorem sG(x1 x2 x3 y1 y2 y3 l k w x5:F)(hw:w*(k-l)=x3-x1)
 (h1:y1-y2=l*(x1-x2))(h3:y3-y2=k*(x3-x2))(h5:x5=(w-l)*(w-l)-x3-(l*l-x1-x2)):
 (w-l)*(x3-x5)-y3=(w-k)*(x1-x5)-y1:=by grind-lia
theorem J9{a b:F}(h:a-b=0):a=b:=by grind-lia
theorem dh{a b c:F}(h:b*c=1):a*c*b=a:=by grind-lia
theorem dk{x1 x2 x3 x4 l m:F}(h4:x4=l*l-x1-x2)(e3:x1*x2+x1*x4+x2*x4+2*l*m+3=0):
 x3*x3*x3-3*x3+(m*m-x1*x2*x4)-(l*x3+m)*(l*x3+m)=(x3-x1)*(x3-x2)*(x3-x4):=by
 have:x3*x3*x3-3*x3+(m*m-x1*x2*x4)-(l*x3+m)*(l*x3+m)-(x3-x1)*(x3-x2)*(x3-x4)= -x3*(x1*x2+x1*x4+x2*x4+2*l*m+3):=by
  subst h4;clear e3;grind-lia
 rw[e3]at this
 grind-lia
theorem J8{y2 y3 k x2 x3 q:F}(f1:y2=k*x2+q)(f2:y3=k*x3+q):y3=y2+k*(x3-x2):=by grind-lia
theorem r_g{x1 x2 x3 x4 y2 k l:F}(g:(y2+k*(x3-x2))*(y2+k*(x3-x2))-(y2+l*(x3-x2))*(y2+l*(x3-x2))=(x3-x1)*(x3-x2)*(x3-x4)):
 (x3-x2)*((k-l)*((k+l)*(x3-x2)+2*y2)-(x3-x1)*(x3-x4))=0:=by grind-lia
theorem de{x1 x3 x4 k l w:F}(hw:w*(k-l)=x3-x1):(k-l)*((w-l)*(x3-x4))=(x3-x1)*(x3-x4)-l*(k-l)*(x3-x4):=by grind-lia
theorem dd{x1 x3 x6 k l w:F}(hw:w*(k-l)=x3-x1):(k-l)*((w-k)*(x6-x1))=(x3-x1)*(x6-x1)-k*(k-l)*(x6-x1):=by grind-lia
theorem dc(x2 x3 x4 y2 k l:F):(k-l)*((k+l)*(x3-x2)+2*y2)-l*(k-l)*(x3-x4)=(k-l)*(y2+k*(x3-x2)- -(y2+l*(x4-x2))):=by grind-lia
theorem db{x1 x2 x3 y2 k l:F}(t:(k-l)*((k+l)*(x3-x2)+2*y2)=(x3-x1)*(x3-(l*l-x1-x2))):
 (x3-x1)*(k*k-x2-x3-x1)-k*(k-l)*(k*k-x2-x3-x1)=(k-l)*(-(y2+k*(k*k-x2-x3-x2))-(y2+l*(x1-x2))):=by grind-lia
theorem df{a b c:F}:a-b-c=a-c-b:=by grind-lia
theorem TZ{y1 y2 l m x1 x2:F}(e1:y1=l*x1+m)(e2:y2=l*x2+m):y1-y2=l*(x1-x2):=by grind-lia
theorem dj{s a b x x3 y3:F}(h:s*(x3-a)=y3-b):s*(a-x)-b=s*(x3-x)-y3:=by grind-lia
theorem sI{x1 y1 x2 y2 x3 y3:F}(h1:onE x1 y1)(h2:onE x2 y2)(h3:onE x3 y3)(hn: ¬(x1=x2∧y1+y2=0))
 (h31:x3≠x1)(h32:x3≠x2)(h34: ∀y,add (.aff x1 y1) (.aff x2 y2)≠ .aff x3 y)(h61: ∀y,add (.aff x2 y2) (.aff x3 y3)≠ .aff x1 y):
 add (add (.aff x1 y1) (.aff x2 y2)) (.aff x3 y3)=add (.aff x1 y1) (add (.aff x2 y2) (.aff x3 y3)):=by
 obtain⟨l,m,x4,e1,e2,e0,e3,e4,e5⟩:=Mm h1 h2 hn;obtain⟨k,q,x6,f1,f2,f0,f3,f4,f5⟩:=Mm h2 h3 (fun h=>h32 h.1.symm);rw[e5]at h34⊢;rw[f5]at h61⊢;have h34':x3≠x4:=fun h=>h34 _ (by rw[h])
 have h61':x1≠x6:=fun h=>h61 _ (by rw[h])
 unfold onE at h3;have g1:y3*y3-(l*x3+m)*(l*x3+m)=(x3-x1)*(x3-x2)*(x3-x4):=by rw[h3,e4];exact dk e0 e3
 have g2:=J8 f1 f2;have g3:=J8 e2 (rfl:l*x3+m=l*x3+m);have g4:=J8 e2 (rfl:l*x4+m=l*x4+m);have g5:=J8 f1 (rfl:k*x6+q=k*x6+q);have g6:=J8 e2 e1;have h32':x3-x2≠0:=fun h=>h32 (J9 h)
 have hkl:(k-l)*((k+l)*(x3-x2)+2*y2)=(x3-x1)*(x3-x4):=by
  rw[g2,g3]at g1;rcases EJ (r_g g1)with h|h
  ·exact absurd h h32'
  ·exact J9 h
 have hkl0:k-l≠0:=by
  intro h;rw[h,Fin.zero_mul]at hkl;rcases EJ hkl.symm with g|g
  ·exact h31 (J9 g)
  ·exact h34' (J9 g)
 obtain⟨w,hw⟩: ∃w,w*(k-l)=x3-x1:=⟨(x3-x1)*Cr (k-l),dh (Fo hkl0)⟩
 have hs1:(w-l)*(x3-x4)=y3- -(l*x4+m):=by
  refine Q8 hkl0 ?_;rw[de hw,←hkl,g2,g4,dc]
 have hs2:(w-k)*(x6-x1)= -(k*x6+q)-y1:=by
  refine Q8 hkl0 ?_;rw[dd hw,g5,g6];rw[e0]at hkl;rw[f0];exact db hkl
 have hxx:=sH x1 x2 x3 l k w x4 x6 hw e0 f0;have hyy:=sG x1 x2 x3 y1 y2 y3 l k w ((w-k)*(w-k)-x1-x6) hw (TZ e1 e2) (TZ f2 f1) (by rw[←hxx,e0]);rw[Hz (fun h=>h34' h.symm) hs1,Hz h61' hs2,df,hxx,←hyy,dj hs1]
noncomputable def bad(a b:Pt):List Pt:=[.inf,a,neg a,b,neg b,add a b,neg (add a b),add a (neg b),add (neg a) (neg b)]
theorem N6{x y z:F}(h1:onE x y)(h2:onE x z):Pt.aff x z= .aff x y∨Pt.aff x z=neg (.aff x y):=by
 unfold onE at h1 h2;have:(z-y)*(z+y)=0:=by rw[←h2]at h1;grind-lia
 rcases EJ this with h|h
 ·left;rw[J9 h]
 ·right;simp only[neg];congr 1;grind-lia
theorem N2{a b s:Pt}(ha:a.on)(hb:b.on)(hs:s.on)(h:s∉bad a b):add (add a b) s=add a (add b s):=by
 simp only[bad,List.mem_cons,List.not_mem_nil,or_false,not_or]at h;obtain⟨n0,n1,n2,n3,n4,n5,n6,n7,n8⟩:=h;cases a with
 |inf=>simp only[EN]
 |aff x1 y1=>
  cases b with
  |inf=>simp only[EN,F1]
  |aff x2 y2=>
   cases s with
   |inf=>exact absurd rfl n0
   |aff x3 y3=>
    have hab:=on_add ha hb;have hbs:=on_add hb hs;by_cases hn:x1=x2∧y1+y2=0
    ·have e1:add (.aff x1 y1) (.aff x2 y2)= .inf:=by simp only[add,if_pos hn]
     obtain⟨rfl,hy⟩:=hn;have e2:Pt.aff x1 y2=neg (.aff x1 y1):=by simp only[neg];congr 1;grind-lia
     have hc:=LS hs hb;rw[e2,f9,←e2]at hc;rw[e1,EN,add_comm _ _ ha hbs,add_comm _ _ hb hs,hc]
    ·refine sI ha hb hs hn ?_ ?_ ?_ ?_
     ·rintro rfl
      rcases N6 ha hs with e|e
      ·exact n1 e
      ·exact n2 e
     ·rintro rfl
      rcases N6 hb hs with e|e
      ·exact n3 e
      ·exact n4 e
     ·intro y e
      rw[e]at hab n5 n6;rcases N6 hab hs with e|e
      ·exact n5 e
      ·exact n6 e
     ·intro y e
      rw[e]at hbs;have hsb:=LS hs hb;rw[add_comm _ _ hs hb,e]at hsb;rcases N6 ha hbs with g|g
      ·rw[g]at hsb;exact n7 hsb.symm
      ·rw[g]at hsb;exact n8 hsb.symm
theorem N4{α:Type}[DecidableEq α]: ∀(l m:List α),l.Nodup→m.length<l.length→ ∃x,x∈l∧x∉m:=by
 intro l m hn hl;apply Classical.byContradiction;intro hc
 have hsub:l⊆m:=by
  intro x hx;apply Classical.byContradiction;intro hm;exact hc ⟨x,hx,hm⟩
 have key: ∀(l m:List α),l.Nodup→l⊆m→l.length≤m.length:=by
  intro l
  induction l with
  |nil=>intro m _ _;simp
  |cons a l ih=>
   intro m hn hs;rw[List.nodup_cons]at hn;have ha:a∈m:=hs (by simp)
   have h1:=ih (m.erase a) hn.2 (by
    intro x hx;have hne:x≠a:=by rintro rfl;exact hn.1 hx
    exact(List.mem_erase_of_ne hne).2 (hs (by simp[hx])))
   have h2:=List.length_erase_of_mem ha;have h3:=List.length_pos_of_mem ha;simp;omega
 have:=key l m hn hsub;omega
def some:List (F×F):=[(0,46263761741508638697010950048709651021688891777877937875096931459006746039284),(0,69528327468847610065686496900697922508397251637412376320436699849860351814667),(5,31468013646237722594854082025316614106172411895747863909393730389177298123724),(5,84324075564118526167843364924090959423913731519542450286139900919689799730227),(6,24739918328848417526480033809572464882617473122143770809273908485596236620747),(6,91052170881507831236217413139835108647468670293146543386259722823270861233204),(8,82784132184742902406611976374283817475915538652053173371854007222633983132083),(8,33007957025613346356085470575123756054170604763237140823679624086233114721868),(9,64265364456294082747112527522981594904960689488638802860996194286474266915479),(9,51526724754062166015584919426425978625125453926651511334537437022392830938472),(12,66934920894945216687164320457392073305141033253131913951695301233381400331143),(12,48857168315411032075533126492015500224945110162158400243838330075485697522808),(13,53404144414778303508799263379260966483386805595332806637100379275867514529459),(13,62387944795577945253898183570146607046699337819957507558433252032999583324492),(17,43783450011834442217334481138474159509558335318535455861762733939497581045049),(17,72008639198521806545362965810933414020527808096754858333770897369369516808902),(23,37114329264221932393644918276665526732952696771951479144529462133154348400658),(23,78677759946134316369052528672742046797133446643338835051004169175712749453293),(24,26321841318174713433978379012486154109266602617658289202947244817969700794459),(24,89470247892181535328719067936921419420819540797632024992586386490897397059492),(25,101842049421071908540038086255668332854032952517920383898783206756845809129814),(25,13950039789284340222659360693739240676053190897369930296750424552021288724137),(26,24424587111845263483165880188626713615059877529618610383051097479852596134318),(26,91367502098510985279531566760780859915026265885671703812482533829014501719633),(29,18773105118284221259526141573442436911129172592710552834788399784636057579277),(29,97018984092072027503171305375965136618956970822579761360745231524231040274674),(31,51772576644680527507497169225388455048738671303331750808704780383361075168277),(31,64019512565675721255200277724019118481347472111958563386828850925506022685674),(34,59791363792270185952812307835825910484107935385933905162606848621164130833239),(34,56000725418086062809885139113581663045978208029356409032926782687702967020712),(35,40295540095254214384559919770004980525704531316622728644383555421946762207439),(35,75496549115102034378137527179402593004381612098667585551150075886920335646512),(37,27019068728911808621164184721360182012211537658607486295926391355263536972569),(37,88773020481444440141533262228047391517874605756682827899607239953603560881382),(39,111580631210431117360875745014289346788358530860711711829739028359136821314236),(39,4211457999925131401821701935118226741727612554578602365794602949730276539715),(44,70441152804929838592241369407579099569779936506845887129699483765394726397243),(44,45350936405426410170456077541828473960306206908444427065834147543472371456708),(45,80898553851609202973000225381347700523925001632437640323176976999290509256427),(45,34893535358747045789697221568059873006161141782852673872356654309576588597524)]
theorem bm: ∀z∈some,onE z.1 z.2:=by
 have:(some.all fun z=>decide (z.2*z.2=z.1*z.1*z.1-3*z.1+cb))=true:=by decide+kernel
 intro z hz;have h:=List.all_eq_true.1 this z hz;simp only[decide_eq_true_eq]at h;exact h
theorem bn:some.Nodup:=by decide+kernel
def MB:List Pt:=some.map fun z=> .aff z.1 z.2
theorem bp: ∀p∈MB,p.on:=by
 intro p hp;obtain⟨z,hz,rfl⟩:=List.mem_map.1 hp;exact bm z hz
theorem bq:MB.Nodup:=by
 refine UO _ _ bn ?_;rintro⟨a,b⟩ _ ⟨c,d⟩ _ h;injection h with h1 h2
 simp only at h1 h2;rw[h1,h2]
theorem add_assoc{p q r:Pt}(hp:p.on)(hq:q.on)(hr:r.on):add (add p q) r=add p (add q r):=by
 obtain⟨s,hs,hn⟩:=N4 MB (bad (add p q) r++(bad p q).map (fun x=>add x (neg r))++bad q r++bad p (add q r)) bq (by
  have:MB.length=40:=by decide+kernel
  rw[this];simp[bad])
 have hon:=bp s hs;simp only[List.mem_append,not_or]at hn;obtain⟨⟨⟨n1,n2⟩,n3⟩,n4⟩:=hn
 have n2':add r s∉bad p q:=by
  intro h;refine n2 (List.mem_map.2 ⟨_,h,?_⟩);show add (add r s) (neg r)=s;rw[add_comm r s hr hon];exact LS hon hr
 have hpq:=on_add hp hq;have hqr:=on_add hq hr;refine uB (on_add hpq hr) (on_add hp hqr) hon ?_;rw[N2 hpq hr hon n1,N2 hp hq (on_add hr hon) n2',←N2 hq hr hon n3,←N2 hp hqr hon n4]
end TollEc
namespace TollBy
def beV:List Nat→Nat→Nat
 | [],a=>a
 |b::l,a=>beV l (a*256+b)
theorem Et: ∀(l:List Nat) (a:Nat),beV l a=a*256^l.length+beV l 0
 | [],a=>by simp[beV]
 |b::l,a=>by
  simp only[beV,List.length_cons];rw[Et l (a*256+b),Et l (0*256+b),Nat.pow_succ,Nat.add_mul,Nat.zero_mul,Nat.zero_add,Nat.mul_assoc,Nat.mul_comm 256,Nat.add_assoc]
theorem beV_lt: ∀(l:List Nat),(∀x∈l,x<256)→beV l 0<256^l.length
 | [],_=>by decide
 |b::l,h=>by
  have ih:=beV_lt l (fun x hx=>h x (by simp[hx]));have hb:=h b (by simp);simp only[beV,List.length_cons];rw[Et,Nat.zero_mul,Nat.zero_add,Nat.pow_succ];have:(b+1)*256^l.length≤256*256^l.length:=Nat.mul_le_mul_right _ (by omega);rw[Nat.add_mul,Nat.one_mul]at this;rw[Nat.mul_comm (256^l.length)];omega
theorem beV_get: ∀(l:List Nat),(∀x∈l,x<256)→ ∀i,i<l.length→beV l 0/256^(l.length-1-i) %256=l.getD i 0
 | [],_,i,h=>by simp at h
 |b::l,h,i,hi=>by
  have hl:=beV_lt l (fun x hx=>h x (by simp[hx]));have hb:=h b (by simp);simp only[beV];rw[Et,Nat.zero_mul,Nat.zero_add];cases i with
  |zero=>
   simp only[List.length_cons,Nat.add_sub_cancel,Nat.sub_zero,List.getD_cons_zero];rw[Nat.mul_comm b,Nat.mul_add_div (Nat.pow_pos (by decide)),Nat.div_eq_of_lt hl,Nat.add_zero,Nat.mod_eq_of_lt hb]
  |succ i=>
   simp only[List.length_cons,List.getD_cons_succ]at hi⊢;have hi':i<l.length:=by omega
   rw[show l.length+1-1-(i+1)=l.length-1-i by omega,←beV_get l (fun x hx=>h x (by simp[hx])) i hi']
   have e:256^l.length=256^(l.length-1-i)*(256*256^i):=by
    rw[←Nat.pow_succ',←Nat.pow_add];congr 1;omega
   rw[e,show b*(256^(l.length-1-i)*(256*256^i))=256^(l.length-1-i)*(256*(256^i*b)) by
    rw[Nat.mul_comm b,Nat.mul_assoc,Nat.mul_assoc],Nat.mul_add_div (Nat.pow_pos (by decide)),Nat.mul_add_mod]
end TollBy
