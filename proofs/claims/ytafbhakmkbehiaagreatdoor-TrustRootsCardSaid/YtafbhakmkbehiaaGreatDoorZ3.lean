import Derived.Shelf.Bits.Mul64
import Derived.Test.YtafbhakmkbehiaaGreatDoorProg
open Go.Proofs.Tryz
set_option maxRecDepth 100000
namespace TollNt
variable{a b n p q:Nat}{α:Type}
def Prm(p:Nat):Prop:=2≤p∧ ∀d,d∣p→d=1∨d=p
theorem P7(n:Nat):2≤n→ ∃q,Prm q∧q∣n:=by
 induction n using Nat.strongRecOn with
 |_ n ih=>
  intro hn;by_cases h: ∀d,d∣n→d=1∨d=n
  ·exact⟨n,⟨hn,h⟩,Nat.dvd_refl _⟩
  ·have: ∃d,d∣n∧d≠1∧d≠n:=by
    apply Classical.byContradiction;intro hc;apply h;intro d hd;apply Classical.byContradiction;intro hx;exact hc ⟨d,hd,fun e=>hx (.inl e),fun e=>hx (.inr e)⟩
   obtain⟨d,hd,h1,h2⟩:=this;have hle:d≤n:=Nat.le_of_dvd (by omega) hd;have h0:d≠0:=by rintro rfl;have:=Nat.eq_zero_of_zero_dvd hd;omega
   obtain⟨q,hq,hqd⟩:=ih d (by omega) (by omega);exact⟨q,hq,Nat.dvd_trans hqd hd⟩
theorem Prm.coprime(hp:Prm p)(h: ¬p∣a):Nat.Coprime a p:=by
 rcases hp.2 _ (Nat.gcd_dvd_right a p)with h1|h1
 ·exact h1
 ·exact absurd (h1▸Nat.gcd_dvd_left a p) h
theorem Prm.dvd_mul(hp:Prm p)(h:p∣a*b):p∣a∨p∣b:=by
 by_cases ha:p∣a
 ·exact .inl ha
 ·exact .inr (Nat.Coprime.dvd_of_dvd_mul_left (hp.coprime ha).symm h)
theorem kI[DecidableEq α](l:List α): ∀m:List α,l.Nodup→l⊆m→m.length≤l.length→l.Perm m:=by
 induction l with
 |nil=>intro m _ _ hl;have:m=[]:=List.eq_nil_of_length_eq_zero (by simpa using hl);rw[this]
 |cons a l ih=>
  intro m hn hs hl;have ha:a∈m:=hs (by simp);have hp:=List.perm_cons_erase ha;rw[List.nodup_cons]at hn;refine(List.Perm.cons a (ih (m.erase a) hn.2 ?_ ?_)).trans hp.symm
  ·intro x hx
   have hxm:x∈m:=hs (by simp[hx]);have hne:x≠a:=by rintro rfl;exact hn.1 hx
   exact(List.mem_erase_of_ne hne).2 hxm
  ·have:=List.length_erase_of_mem ha
   simp at hl;omega
def DZ(l:List Nat):Nat:=l.foldr (· * ·) 1
theorem jn{l m:List Nat}(h:l.Perm m):DZ l=DZ m:=by
 induction h with
 |nil=>rfl
 |cons a _ ih=>simp only[DZ,List.foldr]at *; rw[ih]
 |swap a b l=>simp only[DZ,List.foldr];rw[←Nat.mul_assoc,←Nat.mul_assoc,Nat.mul_comm a b]
 |trans _ _ h1 h2=>exact h1.trans h2
theorem jo(a p:Nat)(l:List Nat):DZ (l.map fun i=>a*i %p) %p=a^l.length*DZ l %p:=by
 induction l with
 |nil=>simp[DZ]
 |cons x l ih=>
  have e1:DZ (List.map (fun i=>a*i %p) (x::l))=(a*x %p)*DZ (l.map fun i=>a*i %p):=rfl;have e2:DZ (x::l)=x*DZ l:=rfl;rw[e1,e2,List.length_cons,Nat.mul_mod,ih,←Nat.mul_mod,Nat.mod_mul_mod];congr 1
  rw[Nat.pow_succ];simp only[Nat.mul_assoc,Nat.mul_comm,Nat.mul_left_comm]
theorem pQ(hp:Prm p): ∀l:List Nat,(∀x∈l,¬p∣x)→ ¬p∣DZ l:=by
 intro l
 induction l with
 |nil=>intro _ h;have h1:p∣1:=h;have:=Nat.le_of_dvd (by omega) h1;have:=hp.1;omega
 |cons x l ih=>
  intro h hd;rcases hp.dvd_mul (show p∣x*DZ l from hd)with h1|h1
  ·exact h x (by simp) h1
  ·exact ih (fun y hy=>h y (by simp[hy])) h1
theorem YJ{β:Type}(f:α→β): ∀l:List α,l.Nodup→(∀x∈l,∀y∈l,f x=f y→x=y)→(l.map f).Nodup:=by
 intro l
 induction l with
 |nil=>intro _ _;simp
 |cons a l ih=>
  intro hn hi;rw[List.nodup_cons]at hn;rw[List.map_cons,List.nodup_cons];refine⟨?_,ih hn.2 fun x hx y hy=>hi x (by simp[hx]) y (by simp[hy])⟩;intro hm;obtain⟨y,hy,he⟩:=List.mem_map.1 hm;have:=hi y (by simp[hy]) a (by simp) he;exact hn.1 (this▸hy)
theorem T4(h:a %p=b %p)(hb:b≤a):p∣a-b:=by
 have h1:=Nat.div_add_mod a p;have h2:=Nat.div_add_mod b p;refine⟨a/p-b/p,?_⟩;rw[Nat.mul_sub];omega
theorem Ye{x y:Nat}(hp:Prm p)(ha: ¬p∣a)(h:a*x %p=a*y %p):x %p=y %p:=by
 have key: ∀x y,y≤x→a*x %p=a*y %p→x %p=y %p:=by
  intro x y hle h;have h1:p∣a*x-a*y:=T4 h (Nat.mul_le_mul_left _ hle);rw[←Nat.mul_sub]at h1;rcases hp.dvd_mul h1 with h2|h2
  ·exact absurd h2 ha
  ·obtain⟨c,hc⟩:=h2
   have:x=y+p*c:=by omega
   rw[this,Nat.add_mul_mod_self_left]
 rcases Nat.le_total y x with hle|hle
 ·exact key x y hle h
 ·exact(key y x hle h.symm).symm
theorem fermat(hp:Prm p)(ha: ¬p∣a):a^(p-1) %p=1:=by
 have hp2:=hp.1
 let l:=List.range' 1 (p-1)
 have hl:l.length=p-1:=by simp[l]
 have hmem: ∀x,x∈l↔1≤x∧x<p:=by intro x;simp[l,List.mem_range'_1];omega
 have hnd:l.Nodup:=List.nodup_range'
 have hnotdvd: ∀x∈l,¬p∣x:=by
  intro x hx hd;have:=(hmem x).1 hx;have:=Nat.le_of_dvd (by omega) hd;omega
 have hperm:(l.map fun i=>a*i %p).Perm l:=by
  refine kI _ _ ?_ ?_ (by simp)
  ·refine YJ _ _ hnd ?_
   intro x hx y hy h;have:=Ye hp ha h;rw[Nat.mod_eq_of_lt ((hmem x).1 hx).2,Nat.mod_eq_of_lt ((hmem y).1 hy).2]at this;exact this
  ·intro y hy
   obtain⟨x,hx,rfl⟩:=List.mem_map.1 hy;rw[hmem];refine⟨?_,Nat.mod_lt _ (by omega)⟩;apply Classical.byContradiction;intro hc;have:a*x %p=0:=by omega
   rcases hp.dvd_mul (Nat.dvd_of_mod_eq_zero this)with h|h
   ·exact ha h
   ·exact hnotdvd x hx h
 have h1:DZ l %p=a^(p-1)*DZ l %p:=by
  have:=jo a p l;rw[jn hperm,hl]at this;exact this
 have h2:DZ l*a^(p-1) %p=DZ l*1 %p:=by rw[Nat.mul_comm,←h1,Nat.mul_one]
 have:=Ye hp (pQ hp l hnotdvd) h2;rw[this,Nat.mod_eq_of_lt (by omega)]
theorem Xh{m:Nat}(h:a^m %n=1 %n)(k:Nat):a^(m*k) %n=1 %n:=by
 rw[Nat.pow_mul,Nat.pow_mod,h,←Nat.pow_mod,Nat.one_pow]
theorem kC(m k:Nat):a^m %n=1 %n→a^k %n=1 %n→a^(Nat.gcd m k) %n=1 %n:=by
 induction m,k using Nat.gcd.induction with
 |H0 k=>intro _ h;simpa using h
 |H1 m k hm ih=>
  intro h1 h2;rw[Nat.gcd_rec];refine ih ?_ h1;have e:a^k=a^(m*(k/m))*a^(k %m):=by rw[←Nat.pow_add,Nat.div_add_mod]
  rw[e,Nat.mul_mod,Xh h1,←Nat.mul_mod,Nat.one_mul]at h2;exact h2
def pw(m:Nat):Nat→Nat→Nat→Nat
 |0,_,_=>1 %m
 |f+1,a,e=>let r:=pw m f (a*a %m) (e/2);if e %2=1 then r*a %m else r
theorem Xb(m:Nat): ∀f a e,e<2^f→pw m f a e=a^e %m:=by
 intro f
 induction f with
 |zero=>intro a e h;have:e=0:=by simpa using h
        subst this;simp[pw]
 |succ f ih=>
  intro a e h;have he:e/2<2^f:=by rw[Nat.pow_succ]at h;omega
  have h2:(a*a %m)^(e/2) %m=a^(2*(e/2)) %m:=by
   rw[←Nat.pow_mod,Nat.pow_mul,Nat.pow_two]
  simp only[pw,ih _ _ he,h2];split
  ·rename_i h1
   have:e=2*(e/2)+1:=by omega
   conv=>rhs;rw[this,Nat.pow_succ,Nat.mul_mod]
   rw[Nat.mod_mul_mod,←Nat.mul_mod]
  ·rename_i h1
   have:e=2*(e/2):=by omega
   conv=>rhs;rw[this]
def No(N f q a:Nat):Bool:=
 decide ((N-1) %q=0) && decide (pw N f a (N-1)=1) && decide (Nat.gcd (pw N f a ((N-1)/q)+(N-1)) N=1)
theorem UD{N f:Nat}(hN:2≤N)(hf:N<2^f)(hq:Prm q)(h:No N f q a=true){d:Nat}(hd:Prm d)(hdN:d∣N):q∣d-1:=by
 simp only[No,Bool.and_eq_true,decide_eq_true_eq]at h;obtain⟨⟨h1,h2⟩,h3⟩:=h;rw[Xb _ _ _ _ (by omega)]at h2;rw[Xb _ _ _ _ (Nat.lt_of_le_of_lt (Nat.div_le_self _ _) (by omega))]at h3;have hd2:=hd.1
 have hmodd: ∀x y:Nat,x %N=y %N→x %d=y %d:=by
  intro x y hxy;rw[←Nat.mod_mod_of_dvd x hdN,hxy,Nat.mod_mod_of_dvd y hdN]
 have ha: ¬d∣a:=by
  intro hda
  have h4:d∣a^(N-1):=by
   rw[show N-1=(N-2)+1 by omega,Nat.pow_succ];exact Nat.dvd_trans hda (Nat.dvd_mul_left _ _)
  have h5:a^(N-1) %d=1 %d:=hmodd _ _ (by rw[h2,Nat.mod_eq_of_lt (by omega)]);rw[Nat.mod_eq_zero_of_dvd h4,Nat.mod_eq_of_lt (by omega)]at h5;omega
 have hfer:=fermat hd ha;have e1:a^(N-1) %d=1 %d:=hmodd _ _ (by rw[h2,Nat.mod_eq_of_lt (by omega)]);have e2:a^(d-1) %d=1 %d:=by rw[hfer,Nat.mod_eq_of_lt (by omega)]
 have hg:=kC _ _ e2 e1;apply Classical.byContradiction;intro hc;obtain⟨r,hr⟩:=Nat.dvd_of_mod_eq_zero h1;have hq0:0<q:=by have:=hq.1;omega
 have FZ:(N-1)/q=r:=by rw[hr,Nat.mul_div_cancel_left _ hq0]
 have hcop:Nat.Coprime (Nat.gcd (d-1) (N-1)) q:=by
  have:Nat.Coprime (d-1) q:=hq.coprime hc;exact Nat.Coprime.coprime_dvd_left (Nat.gcd_dvd_left _ _) this
 have hdr:Nat.gcd (d-1) (N-1)∣r:=by
  have:Nat.gcd (d-1) (N-1)∣q*r:=by rw[←hr];exact Nat.gcd_dvd_right _ _
  exact Nat.Coprime.dvd_of_dvd_mul_left hcop this
 obtain⟨s,hs⟩:=hdr;have e3:a^r %d=1 %d:=by rw[hs];exact Xh hg s
 rw[FZ]at h3
 have e4:(a^r %N+(N-1)) %d=0:=by
  have:(a^r %N) %d=1 %d:=by rw[Nat.mod_mod_of_dvd _ hdN,e3]
  have hN1:d∣1+(N-1):=by rw[show 1+(N-1)=N by omega];exact hdN
  rw[Nat.add_mod,this,←Nat.add_mod];exact Nat.mod_eq_zero_of_dvd hN1
 have e5:d∣1:=by rw[←h3];exact Nat.dvd_gcd (Nat.dvd_of_mod_eq_zero e4) hdN
 have:=Nat.le_of_dvd (by omega) e5;omega
theorem Xf{N F:Nat}(hN:2≤N)(hF:N<(F+1)*(F+1))(h: ∀d,Prm d→d∣N→F∣d-1):Prm N:=by
 refine⟨hN,?_⟩;intro d hd;apply Classical.byContradiction;intro hc;have h1:d≠1:=fun e=>hc (.inl e)
 have h2:d≠N:=fun e=>hc (.inr e)
 obtain⟨e,he⟩:=hd;have hd0:d≠0:=by rintro rfl;omega
 have he0:e≠0:=by rintro rfl;omega
 have he1:e≠1:=by rintro rfl;omega
 obtain⟨p1,hp1,hpd⟩:=P7 d (by omega);obtain⟨p2,hp2,hpe⟩:=P7 e (by omega);have k1:=h p1 hp1 (Nat.dvd_trans hpd ⟨e,he⟩);have k2:=h p2 hp2 (Nat.dvd_trans hpe ⟨d,by rw[he,Nat.mul_comm]⟩);have:=hp1.1;have:=hp2.1;have l1:=Nat.le_of_dvd (by omega) k1;have l2:=Nat.le_of_dvd (by omega) k2;have l3:=Nat.le_of_dvd (by omega) hpd;have l4:=Nat.le_of_dvd (by omega) hpe;have:(F+1)*(F+1)≤d*e:=Nat.mul_le_mul (by omega) (by omega);omega
theorem KR{N:Nat}(f:Nat)(hq:Prm q)(h:(decide (2≤N) && decide (N<2^f) && decide (N<(q+1)*(q+1)) && No N f q a)=true):Prm N:=by
 simp only[Bool.and_eq_true,decide_eq_true_eq]at h;obtain⟨⟨⟨h1,h2⟩,h3⟩,h4⟩:=h;exact Xf h1 h3 fun d hd hdN=>UD h1 h2 hq h4 hd hdN
theorem MK{N r:Nat}(f:Nat)(hq:Prm q)(hr:Prm r)(h:(decide (2≤N) && decide (N<2^f) && decide (N<(q*r+1)*(q*r+1)) && decide (Nat.gcd q r=1) && No N f q a && No N f r b)=true):Prm N:=by
 simp only[Bool.and_eq_true,decide_eq_true_eq]at h;obtain⟨⟨⟨⟨⟨h1,h2⟩,h3⟩,h5⟩,h4⟩,h6⟩:=h;exact Xf h1 h3 fun d hd hdN=>Nat.Coprime.mul_dvd_of_dvd_of_dvd h5 (UD h1 h2 hq h4 hd hdN) (UD h1 h2 hr h6 hd hdN)
def N3(n:Nat):Nat→Nat→Bool
 |0,_=>true
 |f+1,d=>decide (n %d≠0) && N3 n f (d+1)
theorem dq(n:Nat): ∀f d,N3 n f d=true→ ∀k,d≤k→k<d+f→ ¬k∣n:=by
 intro f
 induction f with
 |zero=>intro d _ k h1 h2;omega
 |succ f ih=>
  intro d h k h1 h2 hk;simp only[N3,Bool.and_eq_true,decide_eq_true_eq]at h;by_cases e:k=d
  ·subst e;exact h.1 (Nat.mod_eq_zero_of_dvd hk)
  ·exact ih (d+1) h.2 k (by omega) (by omega) hk
theorem JA(f:Nat)(h:(decide (2≤n) && decide (n<(f+2)*(f+2)) && N3 n f 2)=true):Prm n:=by
 simp only[Bool.and_eq_true,decide_eq_true_eq]at h;obtain⟨⟨h1,h2⟩,h3⟩:=h
 have hno: ∀q,Prm q→q∣n→f+2≤q:=by
  intro q hq hqn;apply Classical.byContradiction;intro hc;exact dq n f 2 h3 q hq.1 (by omega) hqn
 refine⟨h1,?_⟩;intro d hd;apply Classical.byContradiction;intro hc;have hd1:d≠1:=fun e=>hc (.inl e)
 have hd2:d≠n:=fun e=>hc (.inr e)
 obtain⟨e,he⟩:=hd;have hd0:d≠0:=by rintro rfl;omega
 have he0:e≠0:=by rintro rfl;omega
 have he1:e≠1:=by rintro rfl;omega
 obtain⟨p1,hp1,hpd⟩:=P7 d (by omega);obtain⟨p2,hp2,hpe⟩:=P7 e (by omega);have l1:=hno p1 hp1 (Nat.dvd_trans hpd ⟨e,he⟩);have l2:=hno p2 hp2 (Nat.dvd_trans hpe ⟨d,by rw[he,Nat.mul_comm]⟩);have l3:=Nat.le_of_dvd (by omega) hpd;have l4:=Nat.le_of_dvd (by omega) hpe;have:(f+2)*(f+2)≤d*e:=Nat.mul_le_mul (by omega) (by omega);omega
end TollNt
namespace TollMont
variable{T a b c1 c2 c3 c4 d k m0 n q t t0 t1 t2 t3 t4 u u0 u1 u2 u3 u4 u5 v v0 v1 v2 v3 v4' w x y:Nat}
open TollNt
abbrev W:Nat:=18446744073709551616
abbrev R:Nat:=115792089237316195423570985008687907853269984665640564039457584007913129639936
def lim(n i:Nat):Nat:=n/W^i %W
theorem AZ(n i:Nat):lim n i<W:=Nat.mod_lt _ (by decide)
theorem IE(n:Nat):lim n 0=n %W:=by simp[lim]
theorem Gq(n i:Nat):lim n (i+1)=lim (n/W) i:=by
 unfold lim;rw[Nat.pow_succ,Nat.mul_comm,Nat.div_div_eq_div_mul]
theorem LA(h:a<W):(a+W*b) %W=a:=by rw[Nat.add_mul_mod_self_left];exact Nat.mod_eq_of_lt h
theorem FZ(h:a<W):(a+W*b)/W=b:=by
 rw[Nat.add_mul_div_left _ _ (by decide),Nat.div_eq_of_lt h,Nat.zero_add]
theorem KX(a b c d e:Nat)(ha:a<W)(hb:b<W)(hc:c<W)(hd:d<W):
 lim (a+W*(b+W*(c+W*(d+W*e)))) 0=a∧lim (a+W*(b+W*(c+W*(d+W*e)))) 1=b∧lim (a+W*(b+W*(c+W*(d+W*e)))) 2=c∧
  lim (a+W*(b+W*(c+W*(d+W*e)))) 3=d∧(a+W*(b+W*(c+W*(d+W*e))))/R=e:=by
 refine⟨?_,?_,?_,?_,?_⟩
 ·rw[IE,LA ha]
 ·rw[Gq,FZ ha,IE,LA hb]
 ·rw[Gq,FZ ha,Gq,FZ hb,IE,LA hc]
 ·rw[Gq,FZ ha,Gq,FZ hb,Gq,FZ hc,IE,LA hd]
 ·rw[show R=W*(W*(W*W)) by decide,←Nat.div_div_eq_div_mul,FZ ha,←Nat.div_div_eq_div_mul,FZ hb,←Nat.div_div_eq_div_mul,FZ hc,FZ hd]
theorem Yr(n:Nat):n=lim n 0+W*(lim n 1+W*(lim n 2+W*(lim n 3+W*(n/R)))):=by
 have e: ∀x:Nat,x=x %W+W*(x/W):=fun x=>(Nat.mod_add_div x W).symm
 rw[show R=W*(W*(W*W)) by decide,←Nat.div_div_eq_div_mul,←Nat.div_div_eq_div_mul,←Nat.div_div_eq_div_mul];simp only[Gq,IE];rw[←e,←e,←e,←e]
theorem Ek(h:n<R):n=lim n 0+W*(lim n 1+W*(lim n 2+W*lim n 3)):=by
 have:=Yr n;rw[Nat.div_eq_of_lt h]at this;simpa using this
theorem JI(ha:a<R)(hb:b<R)(h0:lim a 0=lim b 0)(h1:lim a 1=lim b 1)(h2:lim a 2=lim b 2)(h3:lim a 3=lim b 3):a=b:=by
 rw[Ek ha,Ek hb,h0,h1,h2,h3]
theorem cY(n m:Nat)(hn:n<R)(hm:m<R)(s0 c0 s1 c1 s2 c2 s3 c3:Nat)
 (e0:s0=(lim n 0+lim m 0) %W)(f0:c0=(lim n 0+lim m 0)/W)
 (e1:s1=(lim n 1+lim m 1+c0) %W)(f1:c1=(lim n 1+lim m 1+c0)/W)
 (e2:s2=(lim n 2+lim m 2+c1) %W)(f2:c2=(lim n 2+lim m 2+c1)/W)
 (e3:s3=(lim n 3+lim m 3+c2) %W)(f3:c3=(lim n 3+lim m 3+c2)/W):
 s0=lim (n+m) 0∧s1=lim (n+m) 1∧s2=lim (n+m) 2∧s3=lim (n+m) 3∧c3=(n+m)/R:=by
 have hN:=Ek hn;have hM:=Ek hm;generalize lim n 0=n0 at *; generalize lim n 1=n1 at *; generalize lim n 2=n2 at *; generalize lim n 3=n3 at*;generalize lim m 0=m0 at *; generalize lim m 1=m1 at *; generalize lim m 2=m2 at *; generalize lim m 3=m3 at*;have l0:s0<W:=e0▸Nat.mod_lt _ (by decide);have l1:s1<W:=e1▸Nat.mod_lt _ (by decide);have l2:s2<W:=e2▸Nat.mod_lt _ (by decide);have l3:s3<W:=e3▸Nat.mod_lt _ (by decide);have k0:n0+m0=s0+W*c0:=by rw[e0,f0,Nat.mod_add_div]
 have k1:n1+m1+c0=s1+W*c1:=by rw[e1,f1,Nat.mod_add_div]
 have k2:n2+m2+c1=s2+W*c2:=by rw[e2,f2,Nat.mod_add_div]
 have k3:n3+m3+c2=s3+W*c3:=by rw[e3,f3,Nat.mod_add_div]
 have key:n+m=s0+W*(s1+W*(s2+W*(s3+W*c3))):=by
  clear e0 e1 e2 e3 f0 f1 f2 f3 l0 l1 l2 l3 hn hm;simp only[W]at *; omega
 rw[key];obtain⟨h0,h1,h2,h3,h4⟩:=KX s0 s1 s2 s3 c3 l0 l1 l2 l3;exact⟨h0.symm,h1.symm,h2.symm,h3.symm,h4.symm⟩
def dif(n m:Nat):Nat:=if n<m then n+R-m else n-m
theorem pE{m:Nat}(hn:n<R)(hm:m<R):dif n m<R:=by unfold dif;split<;>omega
theorem OV{c s:Nat}(ha:a<W)(hb:b<W)(hc:c≤1)(e:s=(a+W-b-c) %W)(f:d=if a<b+c then 1 else 0):a+W*d=b+s+c∧d≤1:=by
 simp only[W]at*;split at f<;>omega
theorem Vj(n m:Nat)(hn:n<R)(hm:m<R)(s0 c0 s1 c1 s2 c2 s3 c3:Nat)
 (e0:s0=(lim n 0+W-lim m 0-0) %W)(f0:c0=if lim n 0<lim m 0+0 then 1 else 0)
 (e1:s1=(lim n 1+W-lim m 1-c0) %W)(f1:c1=if lim n 1<lim m 1+c0 then 1 else 0)
 (e2:s2=(lim n 2+W-lim m 2-c1) %W)(f2:c2=if lim n 2<lim m 2+c1 then 1 else 0)
 (e3:s3=(lim n 3+W-lim m 3-c2) %W)(f3:c3=if lim n 3<lim m 3+c2 then 1 else 0):
 s0=lim (dif n m) 0∧s1=lim (dif n m) 1∧s2=lim (dif n m) 2∧s3=lim (dif n m) 3∧c3=if n<m then 1 else 0:=by
 have hN:=Ek hn;have hM:=Ek hm;obtain⟨k0,g0⟩:=OV (AZ n 0) (AZ m 0) (Nat.zero_le _) e0 f0;obtain⟨k1,g1⟩:=OV (AZ n 1) (AZ m 1) g0 e1 f1;obtain⟨k2,g2⟩:=OV (AZ n 2) (AZ m 2) g1 e2 f2;obtain⟨k3,g3⟩:=OV (AZ n 3) (AZ m 3) g2 e3 f3;generalize lim n 0=n0 at *; generalize lim n 1=n1 at *; generalize lim n 2=n2 at *; generalize lim n 3=n3 at*;generalize lim m 0=m0 at *; generalize lim m 1=m1 at *; generalize lim m 2=m2 at *; generalize lim m 3=m3 at*;have l0:s0<W:=e0▸Nat.mod_lt _ (by decide);have l1:s1<W:=e1▸Nat.mod_lt _ (by decide);have l2:s2<W:=e2▸Nat.mod_lt _ (by decide);have l3:s3<W:=e3▸Nat.mod_lt _ (by decide);clear e0 e1 e2 e3 f0 f1 f2 f3
 have key:n+R*c3=m+(s0+W*(s1+W*(s2+W*s3))):=by
  clear l0 l1 l2 l3 hn hm;simp only[W,R]at *; omega
 have hS:s0+W*(s1+W*(s2+W*s3))<R:=by
  clear key k0 k1 k2 k3 hN hM;simp only[W,R]at *; omega
 generalize hs:s0+W*(s1+W*(s2+W*s3))=s at*
 have hd:dif n m=s∧c3=if n<m then 1 else 0:=by
  clear k0 k1 k2 k3 hN hM hs l0 l1 l2 l3;unfold dif;simp only[R]at*;have:c3=0∨c3=1:=by omega
  rcases this with h|h<;>subst h<;>constructor<;>split<;>omega
 obtain⟨h0,h1,h2,h3,h4⟩:=KX s0 s1 s2 s3 0 l0 l1 l2 l3;simp only[Nat.mul_zero,Nat.add_zero,hs]at h0 h1 h2 h3;rw[hd.1];exact⟨h0.symm,h1.symm,h2.symm,h3.symm,hd.2⟩
theorem lu{c:Nat}(hx:x<W)(hy:y<W)(ht:t<W)(hc:c<W):
 ((x*y %W+t) %W+c) %W=(x*y+t+c) %W∧((x*y/W+(x*y %W+t)/W) %W+((x*y %W+t) %W+c)/W) %W=(x*y+t+c)/W:=by
 have hp:x*y≤(W-1)*(W-1):=Nat.mul_le_mul (by omega) (by omega);generalize x*y=p at*;simp only[W]at*;constructor<;>omega
def v5(a b c d e:Nat):Nat:=a+W*(b+W*(c+W*(d+W*e)))
def v4(a b c d:Nat):Nat:=a+W*(b+W*(c+W*d))
theorem gB{a0 a1 a2 a3:Nat}
 (e0:u0=(x*a0+t0+0) %W)(f0:c1=(x*a0+t0+0)/W)
 (e1:u1=(x*a1+t1+c1) %W)(f1:c2=(x*a1+t1+c1)/W)
 (e2:u2=(x*a2+t2+c2) %W)(f2:c3=(x*a2+t2+c2)/W)
 (e3:u3=(x*a3+t3+c3) %W)(f3:c4=(x*a3+t3+c3)/W)
 (e4:u4=(t4+c4) %W)(f4:u5=(t4+c4)/W):
 v5 t0 t1 t2 t3 t4+x*v4 a0 a1 a2 a3=u0+W*(u1+W*(u2+W*(u3+W*(u4+W*u5)))):=by
 have k0:x*a0+t0+0=u0+W*c1:=by rw[e0,f0,Nat.mod_add_div]
 have k1:x*a1+t1+c1=u1+W*c2:=by rw[e1,f1,Nat.mod_add_div]
 have k2:x*a2+t2+c2=u2+W*c3:=by rw[e2,f2,Nat.mod_add_div]
 have k3:x*a3+t3+c3=u3+W*c4:=by rw[e3,f3,Nat.mod_add_div]
 have k4:t4+c4=u4+W*u5:=by rw[e4,f4,Nat.mod_add_div]
 clear e0 e1 e2 e3 e4 f0 f1 f2 f3 f4;unfold v5 v4
 have hd:x*(a0+W*(a1+W*(a2+W*a3)))=x*a0+W*(x*a1+W*(x*a2+W*(x*a3))):=by
  simp only[Nat.mul_add,Nat.mul_left_comm]
 rw[hd];generalize x*a0=p0 at *; generalize x*a1=p1 at *; generalize x*a2=p2 at *; generalize x*a3=p3 at*;simp only[W]at *; omega
theorem f9{m1 m2 m3:Nat}(hq:(q*m0+u0) %W=0)
 (f0:c1=(q*m0+u0)/W)
 (e1:v0=(q*m1+u1+c1) %W)(f1:c2=(q*m1+u1+c1)/W)
 (e2:v1=(q*m2+u2+c2) %W)(f2:c3=(q*m2+u2+c2)/W)
 (e3:v2=(q*m3+u3+c3) %W)(f3:c4=(q*m3+u3+c3)/W)
 (e4:v3=(u4+c4) %W)(f4:k=(u4+c4)/W)(e5:v4'=u5+k):
 u0+W*(u1+W*(u2+W*(u3+W*(u4+W*u5))))+q*v4 m0 m1 m2 m3=W*v5 v0 v1 v2 v3 v4':=by
 have k0:q*m0+u0=W*c1:=by have:=Nat.mod_add_div (q*m0+u0) W;rw[hq,←f0]at this;omega
 have k1:q*m1+u1+c1=v0+W*c2:=by rw[e1,f1,Nat.mod_add_div]
 have k2:q*m2+u2+c2=v1+W*c3:=by rw[e2,f2,Nat.mod_add_div]
 have k3:q*m3+u3+c3=v2+W*c4:=by rw[e3,f3,Nat.mod_add_div]
 have k4:u4+c4=v3+W*k:=by rw[e4,f4,Nat.mod_add_div]
 clear hq e1 e2 e3 e4 f0 f1 f2 f3 f4;unfold v5 v4
 have hd:q*(m0+W*(m1+W*(m2+W*m3)))=q*m0+W*(q*m1+W*(q*m2+W*(q*m3))):=by
  simp only[Nat.mul_add,Nat.mul_left_comm]
 rw[hd];generalize q*m0=p0 at *; generalize q*m1=p1 at *; generalize q*m2=p2 at *; generalize q*m3=p3 at*;simp only[W]at *; omega
theorem jS{neg:Nat}(hneg:(neg*m0+1) %W=0):((u*neg %W)*m0+u) %W=0:=by
 have h1:((u*neg %W)*m0+u) %W=(u*(neg*m0+1)) %W:=by
  rw[Nat.add_mod,Nat.mod_mul_mod,←Nat.add_mod,Nat.mul_add,Nat.mul_one,Nat.mul_assoc]
 rw[h1,Nat.mul_mod,hneg,Nat.mul_zero,Nat.zero_mod]
theorem de{c e:Nat}(h:v5 a b c d e<2*R):e≤1:=by
 unfold v5 at h;simp only[W,R]at h;omega
theorem gA{T' m:Nat}(hx:x<W)(hq:q<W)(hT:T<a+m)(h:T+x*a+q*m=W*T'):T'<a+m:=by
 have h1:x*a≤(W-1)*a:=Nat.mul_le_mul_right _ (by omega);have h2:q*m≤(W-1)*m:=Nat.mul_le_mul_right _ (by omega);generalize x*a=p at *; generalize q*m=r at*;simp only[W]at *; omega
def Jb(m:Nat):Nat:=(m+1)/2
def F2(m a b:Nat):Nat:=a*b*Jb m^256 %m
theorem na{m:Nat}(hm:m %2=1)(h1:1<m):Jb m*2 %m=1:=by
 have:Jb m*2=1+m*1:=by unfold Jb;omega
 rw[this,Nat.add_mul_mod_self_left,Nat.mod_eq_of_lt h1]
theorem nf{m:Nat}(hm:m %2=1)(h1:1<m):R*Jb m^256 %m=1:=by
 rw[show R=2^256 by decide,←Nat.mul_pow,Nat.pow_mod,Nat.mul_comm 2,na hm h1,Nat.one_pow,Nat.mod_eq_of_lt h1]
theorem lY{m:Nat}(hm:m %2=1)(h1:1<m)(h:x*R %m=y %m):x %m=y*Jb m^256 %m:=by
 have e:x*R*Jb m^256 %m=x %m:=by
  rw[Nat.mul_assoc,Nat.mul_mod,nf hm h1,Nat.mul_one,Nat.mod_mod]
 rw[←e,Nat.mul_mod,h,←Nat.mul_mod]
theorem PP{m r:Nat}(hm:m %2=1)(h1:1<m)(hr:r<m)(h:r*R %m=a*b %m):r=F2 m a b:=by
 have:=lY hm h1 h
 rwa [Nat.mod_eq_of_lt hr]at this
theorem gf{m Q:Nat}(hm:m %2=1)(h1:1<m)(ha:a<R)(hb:b<R)(hab:a<m∨b<m)(hQ:Q<R)(h:T*R=a*b+m*Q):
 T<2*m∧T %m=F2 m a b:=by
 have hlt:a*b<m*R:=by
  rcases hab with g|g
  ·exact Nat.mul_lt_mul_of_lt_of_le g (Nat.le_of_lt hb) (by omega)
  ·rw[Nat.mul_comm];exact Nat.mul_lt_mul_of_lt_of_le g (Nat.le_of_lt ha) (by omega)
 have hmq:m*Q<m*R:=Nat.mul_lt_mul_of_pos_left hQ (by omega);refine⟨?_,?_⟩
 ·have:T*R<(2*m)*R:=by rw[h,Nat.mul_assoc,Nat.two_mul];omega
  exact Nat.lt_of_mul_lt_mul_right this
 ·refine PP hm h1 (Nat.mod_lt _ (by omega)) ?_
  rw[Nat.mod_mul_mod,h,Nat.add_mul_mod_self_left]
section
variable{m:Nat}(hm:m %2=1)(h1:1<m)
include hm h1
theorem Yh(a:Nat):F2 m a (R*R %m)=a*R %m:=by
 refine(PP hm h1 (Nat.mod_lt _ (by omega)) ?_).symm;rw[Nat.mod_mul_mod,Nat.mul_mod_mod,Nat.mul_assoc]
theorem lh(a:Nat):F2 m (a*R %m) 1=a %m:=by
 refine(PP hm h1 (Nat.mod_lt _ (by omega)) ?_).symm;rw[Nat.mod_mul_mod,Nat.mul_one,Nat.mod_mod]
theorem li(a b:Nat):F2 m (a*R %m) (b %m)=a*b %m:=by
 refine(PP hm h1 (Nat.mod_lt _ (by omega)) ?_).symm;rw[Nat.mod_mul_mod,Nat.mod_mul_mod,Nat.mul_mod_mod,Nat.mul_assoc,Nat.mul_assoc,Nat.mul_comm b]
end
theorem lM{a x y K w e j v:Int}(he:a*x-1=K*e)(hj:y=x*(2-a*x)+w*j)(hw:w=K*K*v):
 a*y-1=K*K*(-(e*e)+a*v*j):=by
 have hax:a*x=1+K*e:=by grind
 have:a*y-1=(a*x)*(2-(a*x))-1+a*(w*j):=by grind
 rw[this,hax,hw]
 grind
theorem lL{x z y w g1 g2 g3 ax r:Int}(t1:r+w*g1=ax)(t2:z+w*g2=2+w-r)(t3:y+w*g3=x*z):
 y=x*(2-ax)+w*(x*(1+g1-g2)-g3):=by
 have z1:z=2-ax+w*(1+g1-g2):=by grind
 rw[z1]at t3
 grind
theorem Yj:(a %k=1 %k)↔(k:Int)∣(a:Int)-1:=by
 constructor
 ·intro h
  have h':((a %k:Nat):Int)=((1 %k:Nat):Int):=by rw[h]
  rw[Int.natCast_emod,Int.natCast_emod]at h';exact Int.dvd_of_emod_eq_zero (Int.emod_eq_emod_iff_emod_sub_eq_zero.1 h')
 ·intro h
  have h':=Int.emod_eq_emod_iff_emod_sub_eq_zero.2 (Int.emod_eq_zero_of_dvd h);refine Int.natCast_inj.1 ?_;rw[Int.natCast_emod,Int.natCast_emod];exact h'
theorem KU{K:Nat}(hw:0<w)(hk:K*K∣w)(h:a*x %K=1 %K):
 a*(x*((2+w-a*x %w) %w) %w) %(K*K)=1 %(K*K):=by
 have he:=Yj.1 h;obtain⟨e,he⟩:=he;obtain⟨v,hv⟩:=hk;have hlt:a*x %w<w:=Nat.mod_lt _ hw;have d1:=Nat.mod_add_div (a*x) w;have d2:=Nat.mod_add_div (2+w-a*x %w) w;have d3:=Nat.mod_add_div (x*((2+w-a*x %w) %w)) w;generalize a*x/w=g1 at*;generalize (2+w-a*x %w)/w=g2 at*;generalize (2+w-a*x %w) %w=z at*;generalize x*z/w=g3 at*;generalize x*z %w=y at*;generalize a*x %w=r at*;have t2':z+w*g2+r=2+w:=by omega
 have hy:=lL (x:=x) (z:=z) (y:=y) (w:=w) (g1:=g1) (g2:=g2) (g3:=g3) (ax:=a*x) (r:=r)
  (by exact_mod_cast d1) (by have:((z+w*g2+r:Nat):Int)=((2+w:Nat):Int):=by rw[t2']
                             push_cast at this;omega) (by exact_mod_cast d3)
 have:=lM (a:=a) (x:=x) (y:=y) (K:=K) (w:=w) (e:=e) (v:=v) (by push_cast at he;exact he) hy (by exact_mod_cast hv);refine Yj.2 ⟨-(e*e)+ ↑a* ↑v*(↑x*(1+ ↑g1- ↑g2)- ↑g3),?_⟩
 push_cast
 exact this
def CO(a:Nat):Nat→Nat
 |0=>1
 |i+1=>CO a i*((2+W-a*CO a i %W) %W) %W
theorem Zv(ha:a %2=1):a*CO a 6 %W=1:=by
 have s0:a*CO a 0 %2=1 %2:=by simp only[CO];omega
 have s1:=KU (K:=2) (w:=W) (by decide) (by decide) s0;have s2:=KU (K:=4) (w:=W) (by decide) (by decide) (show a*CO a 1 %4=1 %4 from s1);have s3:=KU (K:=16) (w:=W) (by decide) (by decide) (show a*CO a 2 %16=1 %16 from s2);have s4:=KU (K:=256) (w:=W) (by decide) (by decide) (show a*CO a 3 %256=1 %256 from s3);have s5:=KU (K:=65536) (w:=W) (by decide) (by decide) (show a*CO a 4 %65536=1 %65536 from s4);have s6:=KU (K:=4294967296) (w:=W) (by decide) (by decide) (show a*CO a 5 %4294967296=1 %4294967296 from s5);exact s6
def Gn(a:Nat):Nat:=W-CO a 6
theorem Zw(a i:Nat):CO a i<W:=by
 cases i with
 |zero=>simp only[CO];decide
 |succ i=>simp only[CO];exact Nat.mod_lt _ (by decide)
theorem nC(ha:a %2=1):0<CO a 6:=by
 have h:=Zv ha;apply Nat.pos_of_ne_zero;intro h0;rw[h0,Nat.mul_zero,Nat.zero_mod]at h;exact absurd h (by decide)
theorem lR(hx:x≤w)(h:a*x %w=1 %w):((w-x)*a+1) %w=0:=by
 have h1:(w-x)*a+a*x=w*a:=by rw[Nat.mul_comm a x,←Nat.add_mul,Nat.sub_add_cancel hx]
 have h2:((w-x)*a+1) %w=((w-x)*a+a*x) %w:=by rw[Nat.add_mod,←h,←Nat.add_mod]
 rw[h2,h1,Nat.mul_mod_right]
theorem lS(ha:a %2=1):(Gn a*a+1) %W=0:=
 lR (Nat.le_of_lt (Zw a 6)) (Zv ha)
def halve(m x:Nat):Nat:=if x %2=0 then x/2 else(x+m)/2
def Ce(m x y:Nat):Nat:=(x %m+m-y %m) %m
structure InvAt(m a u v x y:Nat):Prop where
 vodd:v %2=1
 vle:v≤m
 ule:u<m
 xlt:x<m
 ylt:y<m
 xu:x*a %m=u %m
 yv:y*a %m=v %m
 gcd:Nat.gcd u v=Nat.gcd a m
theorem InvAt.start{m:Nat}(hm:m %2=1)(h1:1<m):InvAt m a (a %m) m 1 0:=
 ⟨hm,Nat.le_refl _,Nat.mod_lt _ (by omega),h1,by omega,by simp,by simp,by rw[Nat.gcd_comm a m,Nat.gcd_rec m a]⟩
theorem di{m:Nat}(hm:m %2=1)(h:2*a %m=2*b %m):a %m=b %m:=by
 have key: ∀a b,b≤a→2*a %m=2*b %m→a %m=b %m:=by
  intro a b hle h;have h1:m∣2*a-2*b:=T4 h (by omega);rw[←Nat.mul_sub]at h1
  have hc:Nat.Coprime m 2:=by
   unfold Nat.Coprime;rw[Nat.gcd_comm,Nat.gcd_rec,hm];rfl
  obtain⟨c,hc⟩:=Nat.Coprime.dvd_of_dvd_mul_left hc h1;have:a=b+m*c:=by omega
  rw[this,Nat.add_mul_mod_self_left]
 rcases Nat.le_total b a with hle|hle
 ·exact key a b hle h
 ·exact(key b a hle h.symm).symm
theorem nX{m:Nat}(hx:x<m):halve m x<m:=by unfold halve;split<;>omega
theorem nV{m:Nat}(hm:m %2=1):2*halve m x %m=x %m:=by
 unfold halve;split
 ·rename_i h;rw[show 2*(x/2)=x by omega]
 ·rename_i h;rw[show 2*((x+m)/2)=x+m by omega,Nat.add_mod_right]
theorem nk(hu:u %2=0)(hv:v %2=1):Nat.gcd (u/2) v=Nat.gcd u v:=by
 have hu2:u=2*(u/2):=by omega
 have hc:Nat.Coprime v 2:=by
  unfold Nat.Coprime;rw[Nat.gcd_comm,Nat.gcd_rec,hv];rfl
 conv=>rhs;rw[hu2,Nat.mul_comm]
 exact(Nat.Coprime.gcd_mul_right_cancel (u/2) hc.symm).symm
theorem InvAt.halved{m:Nat}(hm:m %2=1)(h:InvAt m a u v x y)(hu:u %2=0):InvAt m a (u/2) v (halve m x) y:=by
 refine⟨h.vodd,h.vle,by have:=h.ule;omega,nX h.xlt,h.ylt,?_,h.yv,by rw[nk hu h.vodd,h.gcd]⟩;refine di hm ?_;rw[show 2*(u/2)=u by omega,←h.xu,←Nat.mul_assoc,Nat.mul_mod,nV hm,←Nat.mul_mod]
theorem Vh{m:Nat}(hm:1<m):Ce m x y<m:=Nat.mod_lt _ (by omega)
theorem eY{m:Nat}(hm:0<m):(Ce m x y+y) %m=x %m:=by
 unfold Ce;have hy:=Nat.mod_lt y hm;rw[Nat.mod_add_mod,←Nat.add_mod_mod (x %m+m-y %m),Nat.sub_add_cancel (by omega),Nat.add_mod_right,Nat.mod_mod]
theorem rx{m c:Nat}(h:(a+c) %m=(b+c) %m):a %m=b %m:=by
 have key: ∀a b,b≤a→(a+c) %m=(b+c) %m→a %m=b %m:=by
  intro a b hle h;obtain⟨k,hk⟩:=T4 h (by omega);have:a=b+m*k:=by omega
  rw[this,Nat.add_mul_mod_self_left]
 rcases Nat.le_total b a with hle|hle
 ·exact key a b hle h
 ·exact(key b a hle h.symm).symm
theorem Vg{m:Nat}(hm:1<m)(hvu:v≤u)(hx:x*a %m=u %m)(hy:y*a %m=v %m):Ce m x y*a %m=(u-v) %m:=by
 refine rx (c:=v) ?_;rw[Nat.sub_add_cancel hvu,←hx];have e:(Ce m x y+y)*a %m=x*a %m:=by rw[Nat.mul_mod,eY (by omega),←Nat.mul_mod]
 rw[←e,Nat.add_mul,Nat.add_mod,←hy,←Nat.add_mod]
theorem Z8(h:v≤u):Nat.gcd (u-v) v=Nat.gcd u v:=by
 conv=>rhs;rw[show u=(u-v)+v by omega]
 exact(Nat.gcd_add_self_left v (u-v)).symm
theorem InvAt.less{m:Nat}(hm:1<m)(h:InvAt m a u v x y)(hvu:v≤u):InvAt m a (u-v) v (Ce m x y) y:=
 ⟨h.vodd,h.vle,by have:=h.ule;omega,Vh hm,h.ylt,Vg hm hvu h.xu h.yv,h.yv,by rw[Z8 hvu,h.gcd]⟩
theorem InvAt.swap{m:Nat}(hm:1<m)(h:InvAt m a u v x y)(hu:u %2=1)(huv:u<v):InvAt m a (v-u) u (Ce m y x) x:=
 ⟨hu,Nat.le_of_lt h.ule,by have:=h.vle;omega,Vh hm,h.xlt,Vg hm (Nat.le_of_lt huv) h.yv h.xu,h.xu,by rw[Z8 (Nat.le_of_lt huv),Nat.gcd_comm,h.gcd]⟩
noncomputable def PQ(m a:Nat):Nat:=open Classical in if h: ∃y,y<m∧y*a %m=1 then Classical.choose h else 0
theorem m8{m z:Nat}(hy:y<m)(hz:z<m)(h1:y*a %m=1)(h2:z*a %m=1):y=z:=by
 have e1:y*(z*a) %m=y %m:=by rw[Nat.mul_mod,h2,Nat.mul_one,Nat.mod_mod]
 have e2:z*(y*a) %m=z %m:=by rw[Nat.mul_mod,h1,Nat.mul_one,Nat.mod_mod]
 rw[Nat.mul_left_comm,e2,Nat.mod_eq_of_lt hz,Nat.mod_eq_of_lt hy]at e1;exact e1.symm
theorem Sv{m:Nat}(hy:y<m)(h:y*a %m=1):PQ m a=y:=by
 have hex: ∃y,y<m∧y*a %m=1:=⟨y,hy,h⟩
 unfold PQ;rw[dif_pos hex];have:=Classical.choose_spec hex;exact m8 this.1 hy this.2 h
theorem InvAt.done{m:Nat}(h1:1<m)(h:InvAt m a 0 v x y):(v=1↔Nat.gcd a m=1)∧(v=1→y=PQ m a∧y*a %m=1):=by
 have hg:=h.gcd;rw[Nat.gcd_zero_left]at hg;refine⟨by rw[hg],?_⟩;rintro rfl;have:=h.yv;rw[Nat.mod_eq_of_lt h1]at this;exact⟨(Sv h.ylt this).symm,this⟩
def HL(x y t c:Nat):Nat:=(x*y+t+c) %W
def FM(x y t c:Nat):Nat:=(x*y+t+c)/W
theorem F3(x y t c:Nat):HL x y t c<W:=Nat.mod_lt _ (by decide)
theorem EN{c:Nat}(hx:x<W)(hy:y<W)(ht:t<W)(hc:c<W):FM x y t c<W:=by
 have hp:x*y≤(W-1)*(W-1):=Nat.mul_le_mul (by omega) (by omega);unfold FM;generalize x*y=p at*;simp only[W]at*;omega
structure RedAt(m a c k t0 t1 t2 t3 t4:Nat):Prop where
 b0:t0<W
 b1:t1<W
 b2:t2<W
 b3:t3<W
 b4:t4<W
 lt:v5 t0 t1 t2 t3 t4<a+m
 eq: ∃Q,Q<W^k∧v5 t0 t1 t2 t3 t4*W^k=a*(c %W^k)+m*Q
theorem RedAt.start{m c:Nat}(hm:0<m):RedAt m a c 0 0 0 0 0 0:=
 ⟨by decide,by decide,by decide,by decide,by decide,by simp only[v5];omega,0,by simp,by simp[v5,Nat.mod_one]⟩
theorem lk(c k:Nat):c %W^(k+1)=c %W^k+W^k*lim c k:=by
 unfold lim;rw[Nat.pow_succ,Nat.mod_mul]
theorem RedAt.step{m c ng d1 d2 d3 d4 e:Nat}(ha:a<R)(hmR:m<R)(hneg:(ng*lim m 0+1) %W=0)
 (h:RedAt m a c k t0 t1 t2 t3 t4)(hx:x=lim c k)
 (e0:u0=HL x (lim a 0) t0 0)(f0:c1=FM x (lim a 0) t0 0)(e1:u1=HL x (lim a 1) t1 c1)(f1:c2=FM x (lim a 1) t1 c1)
 (e2:u2=HL x (lim a 2) t2 c2)(f2:c3=FM x (lim a 2) t2 c2)(e3:u3=HL x (lim a 3) t3 c3)(f3:c4=FM x (lim a 3) t3 c3)
 (e4:u4=(t4+c4) %W)(f4:u5=(t4+c4)/W)(hq:q=u0*ng %W)
 (g0:d1=FM q (lim m 0) u0 0)(g1:v0=HL q (lim m 1) u1 d1)(i1:d2=FM q (lim m 1) u1 d1)(g2:v1=HL q (lim m 2) u2 d2)(i2:d3=FM q (lim m 2) u2 d2)
 (g3:v2=HL q (lim m 3) u3 d3)(i3:d4=FM q (lim m 3) u3 d3)(g4:v3=(u4+d4) %W)(i4:e=(u4+d4)/W)(hv:v4'=(u5+e) %W):
 RedAt m a c (k+1) v0 v1 v2 v3 v4':=by
 have hxW:x<W:=by rw[hx];exact AZ _ _
 have hqW:q<W:=by rw[hq];exact Nat.mod_lt _ (by decide)
 have l1:c1<W:=by rw[f0];exact EN hxW (AZ _ _) h.b0 (by decide)
 have l2:c2<W:=by rw[f1];exact EN hxW (AZ _ _) h.b1 l1
 have l3:c3<W:=by rw[f2];exact EN hxW (AZ _ _) h.b2 l2
 have l4:c4<W:=by rw[f3];exact EN hxW (AZ _ _) h.b3 l3
 have r1:d1<W:=by rw[g0];exact EN hqW (AZ _ _) (by rw[e0];exact F3 _ _ _ _) (by decide)
 have r2:d2<W:=by rw[i1];exact EN hqW (AZ _ _) (by rw[e1];exact F3 _ _ _ _) r1
 have r3:d3<W:=by rw[i2];exact EN hqW (AZ _ _) (by rw[e2];exact F3 _ _ _ _) r2
 have r4:d4<W:=by rw[i3];exact EN hqW (AZ _ _) (by rw[e3];exact F3 _ _ _ _) r3
 have hu4:u4<W:=by rw[e4];exact Nat.mod_lt _ (by decide)
 have hu5:u5≤1:=by have:=h.b4;rw[f4];simp only[W]at *; omega
 have he:e≤1:=by rw[i4];simp only[W]at *; omega
 have hv4:v4'=u5+e:=by rw[hv];exact Nat.mod_eq_of_lt (by simp only[W];omega)
 have A:=gB (x:=x) (a0:=lim a 0) (a1:=lim a 1) (a2:=lim a 2) (a3:=lim a 3) (t0:=t0) (t1:=t1) (t2:=t2) (t3:=t3) (t4:=t4) e0 f0 e1 f1 e2 f2 e3 f3 e4 f4;have B:=f9 (q:=q) (m0:=lim m 0) (m1:=lim m 1) (m2:=lim m 2) (m3:=lim m 3) (u0:=u0) (u1:=u1) (u2:=u2) (u3:=u3) (u4:=u4) (u5:=u5) (by rw[hq];exact jS hneg) g0 g1 i1 g2 i2 g3 i3 g4 i4 hv4;rw[←A]at B;have hA:v4 (lim a 0) (lim a 1) (lim a 2) (lim a 3)=a:=(Ek ha).symm;have hM:v4 (lim m 0) (lim m 1) (lim m 2) (lim m 3)=m:=(Ek hmR).symm;rw[hA,hM]at B;obtain⟨Q,hQ,hE⟩:=h.eq;refine⟨by rw[g1];exact F3 _ _ _ _,by rw[g2];exact F3 _ _ _ _,by rw[g3];exact F3 _ _ _ _,by rw[g4];exact Nat.mod_lt _ (by decide),by rw[hv];exact Nat.mod_lt _ (by decide),gA hxW hqW h.lt B,Q+W^k*q,?_,?_⟩
 ·have:W^k*q≤W^k*(W-1):=Nat.mul_le_mul_left _ (by omega)
  have h2:W^(k+1)=W^k+W^k*(W-1):=by
   rw[Nat.pow_succ];have:W^k*W=W^k*(1+(W-1)):=by congr 1
   rw[this,Nat.mul_add,Nat.mul_one]
  omega
 ·rw[lk,←hx,Nat.pow_succ,Nat.mul_comm (W^k) W,←Nat.mul_assoc,Nat.mul_comm _ W,←B]
  have:(v5 t0 t1 t2 t3 t4+x*a+q*m)*W^k=v5 t0 t1 t2 t3 t4*W^k+x*a*W^k+q*m*W^k:=by rw[Nat.add_mul,Nat.add_mul]
  rw[this,hE]
  grind
end TollMont
namespace Go.Proofs
open Go.Shelf
def lays264_ren:Go.Shelf.Ren:=⟨fun|264=>172|n=>n,fun|53=>49|46=>125|n=>n,fun|n=>n⟩
theorem lays264:Go.Proofs.Lays.n264 prog lays264_ren:={
 mixed:=by kernel_rfl
 f264:=func172.trans (congrArg some (by kernel_rfl))
 t46:=underlying125
 a46:=isAgg125
 z46:=sizeOf125
 v46:=zeroValue125
 t53:=underlying49
 a53:=isAgg49
 z53:=sizeOf49
 v53:=zeroValue49}
open Go.RowKit Go.Lib in
theorem bits_Mul64(x y:Nat)(hx:x<18446744073709551616)(hy:y<18446744073709551616)(w:World):
 Calls prog 172 #[.int .u64 x,.int .u64 y] w fun e w'=>e= .returned (.tuple #[.int .u64 ((x*y/18446744073709551616:Nat):Int),.int .u64 ((x*y %18446744073709551616:Nat):Int)])∧w'=w:=Any.bits_Mul64 lays264 x y hx hy w
end Go.Proofs
