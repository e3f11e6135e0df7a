import Derived.Shelf.Bits.Mul64
import Derived.Test.YtafbhakmkbehiaaGreatDoorW1
open Go.Proofs.Tryz
set_option maxHeartbeats 4000000
set_option maxRecDepth 100000
namespace TollNt
variable{a b n p q:Nat}{α:Type}
def Prm(p:Nat):Prop:=2<=p/\ ∀d,d∣p->d=1\/d=p
theorem P7(n:Nat):2<=n-> ∃q,Prm q/\q∣n:=by
 induction n using Nat.strongRecOn with
 |_ n ih=>
  intro l;by_cases h:∀d,d∣n->d=1\/d=n
  .exact⟨n,⟨l,h⟩,Nat.dvd_refl _⟩
  .have:∃d,d∣n/\d≠1/\d≠n:=by
    apply uA1;intro i;apply h;intro d c;apply uA1;intro g;exact i ⟨d,c,λe=>g (.inl e),λe=>g (.inr e)⟩
   obtain⟨d,c,h1,s⟩:=this;have j:d<=n:=uA2 (by omega) c;have r:d≠0:=by rintro rfl;have:=Nat.eq_zero_of_zero_dvd c;omega
   obtain⟨q,o,f⟩:=ih d (by omega) (by omega);exact⟨q,o,uD2 f c⟩
theorem Prm.coprime(c:Prm p)(h: ¬p∣a):Nat.Coprime a p:=by
 rcases c.2 _ (Nat.gcd_dvd_right a p)with h1|h1
 .exact h1
 .exact absurd (h1▸Nat.gcd_dvd_left a p) h
theorem Prm.dvd_mul(e:Prm p)(h:p∣a*b):p∣a\/p∣b:=by
 by_cases c:p∣a
 .exact .inl c
 .exact .inr (Nat.Coprime.dvd_of_dvd_mul_left (e.coprime c).symm h)
theorem kI[DecidableEq α](l:List α):∀m:List α,l.Nodup->l⊆m->m.length<=l.length->l.Perm m:=by
 induction l with
 |nil=>intro m _ _ c;have:m=[]:=zJ (by simpa using c);rw[this]
 |cons a l ih=>
  intro m e i c;have h:a∈m:=i (by simp);have o:=List.perm_cons_erase h;rw[List.nodup_cons]at e;refine(List.Perm.cons a (ih (m.erase a) e.2 ?_ ?_)).trans o.symm
  .intro x j
   have g:x∈m:=i (by simp[j]);have f:x≠a:=by rintro rfl;exact e.1 j
   exact(List.mem_erase_of_ne f).2 g
  .have:=List.length_erase_of_mem h
   simp at c;omega
def DZ(l:List Nat):Nat:=l.foldr (· * ·) 1
theorem jn{l m:List Nat}(h:l.Perm m):DZ l=DZ m:=by
 induction h with
 |nil=>rfl
 |cons a _ ih=>simp only[DZ,List.foldr]at *; rw[ih]
 |swap a b l=>simp only[DZ,List.foldr];rw[<-DP,<-DP,zE a b]
 |trans _ _ h1 h2=>exact h1.trans h2
theorem jo(a p:Nat)(l:List Nat):DZ (l.map λi=>a*i %p) %p=a^l.length*DZ l %p:=by
 induction l with
 |nil=>simp[DZ]
 |cons x l ih=>
  have c:DZ (List.map (λi=>a*i %p) (x::l))=(a*x %p)*DZ (l.map λi=>a*i %p):=rfl;have e:DZ (x::l)=x*DZ l:=rfl;rw[c,e,List.length_cons,zR,ih,<-zR,uC4];congr 1
  rw[CA];simp only[DP,zE,Nat.mul_left_comm]
theorem pQ(c:Prm p):∀l:List Nat,(∀x∈l,¬p∣x)-> ¬p∣DZ l:=by
 intro l
 induction l with
 |nil=>intro _ h;have h1:p∣1:=h;have:=uA2 (by omega) h1;have:=c.1;omega
 |cons x l ih=>
  intro h e;rcases c.dvd_mul (show p∣x*DZ l from e)with h1|h1
  .exact h x (by simp) h1
  .exact ih (λy f=>h y (by simp[f])) h1
theorem YJ{j:Type}(f:α->j):∀l:List α,l.Nodup->(∀x∈l,∀y∈l,f x=f y->x=y)->(l.map f).Nodup:=by
 intro l
 induction l with
 |nil=>intro _ _;simp
 |cons a l ih=>
  intro e g;rw[List.nodup_cons]at e;rw[List.map_cons,List.nodup_cons];refine⟨?_,ih e.2 λx i y c=>g x (by simp[i]) y (by simp[c])⟩;intro hm;obtain⟨y,c,h⟩:=uB8.1 hm;have:=g y (by simp[c]) a (by simp) h;exact e.1 (this▸c)
theorem T4(h:a %p=b %p)(e:b<=a):p∣a-b:=by
 have h1:=uD9 a p;have c:=uD9 b p;refine⟨a/p-b/p,?_⟩;rw[Nat.mul_sub];omega
theorem Ye{x y:Nat}(g:Prm p)(f: ¬p∣a)(h:a*x %p=a*y %p):x %p=y %p:=by
 have e:∀x y,y<=x->a*x %p=a*y %p->x %p=y %p:=by
  intro x y hle h;have h1:p∣a*x-a*y:=T4 h (Nat.mul_le_mul_left _ hle);rw[<-Nat.mul_sub]at h1;rcases g.dvd_mul h1 with h2|h2
  .exact absurd h2 f
  .obtain⟨c,i⟩:=h2
   have:x=y+p*c:=by omega
   rw[this,uE2]
 rcases Nat.le_total y x with hle|hle
 .exact e x y hle h
 .exact(e y x hle h.symm).symm
theorem fermat(g:Prm p)(s: ¬p∣a):a^(p-1) %p=1:=by
 have C:=g.1
 let l:=List.range' 1 (p-1)
 have B:l.length=p-1:=by simp[l]
 have e:∀x,x∈l↔1<=x/\x<p:=by intro x;simp[l,List.mem_range'_1];omega
 have o:l.Nodup:=List.nodup_range'
 have c:∀x∈l,¬p∣x:=by
  intro x j A;have:=(e x).1 j;have:=uA2 (by omega) A;omega
 have f:(l.map λi=>a*i %p).Perm l:=by
  refine kI _ _ ?_ ?_ (by simp)
  .refine YJ _ _ o ?_
   intro x j y r h;have:=Ye g s h;rw[yP ((e x).1 j).2,yP ((e y).1 r).2]at this;exact this
  .intro y r
   obtain⟨x,j,rfl⟩:=uB8.1 r;rw[e];refine⟨?_,yJ _ (by omega)⟩;apply uA1;intro D;have:a*x %p=0:=by omega
   rcases g.dvd_mul (Nat.dvd_of_mod_eq_zero this)with h|h
   .exact s h
   .exact c x j h
 have h1:DZ l %p=a^(p-1)*DZ l %p:=by
  have:=jo a p l;rw[jn f,B]at this;exact this
 have z:DZ l*a^(p-1) %p=DZ l*1 %p:=by rw[zE,<-h1,yQ]
 have:=Ye g (pQ g l c) z;rw[this,yP (by omega)]
theorem Xh{m:Nat}(h:a^m %n=1 %n)(k:Nat):a^(m*k) %n=1 %n:=by
 rw[Nat.pow_mul,Nat.pow_mod,h,<-Nat.pow_mod,Nat.one_pow]
theorem kC(m k:Nat):a^m %n=1 %n->a^k %n=1 %n->a^(Nat.gcd m k) %n=1 %n:=by
 induction m,k using Nat.gcd.induction with
 |H0 k=>intro _ h;simpa using h
 |H1 m k hm ih=>
  intro h1 c;rw[Nat.gcd_rec];refine ih ?_ h1;have e:a^k=a^(m*(k/m))*a^(k %m):=by rw[<-Nat.pow_add,uD9]
  rw[e,zR,Xh h1,<-zR,Nat.one_mul]at c;exact c
def pw(m:Nat):Nat->Nat->Nat->Nat
 |0,_,_=>1 %m
 |f+1,a,e=>let r:=pw m f (a*a %m) (e/2);if e %2=1 then r*a %m else r
theorem Xb(m:Nat):∀f a e,e<2^f->pw m f a e=a^e %m:=by
 intro f
 induction f with
 |zero=>intro a e h;have:e=0:=by simpa using h
        subst this;simp[pw]
 |succ f ih=>
  intro a e h;have g:e/2<2^f:=by rw[CA]at h;omega
  have c:(a*a %m)^(e/2) %m=a^(2*(e/2)) %m:=by
   rw[<-Nat.pow_mod,Nat.pow_mul,Nat.pow_two]
  simp only[pw,ih _ _ g,c];split
  .rename_i h1
   have:e=2*(e/2)+1:=by omega
   conv=>rhs;rw[this,CA,zR]
   rw[uC4,<-zR]
  .rename_i h1
   have:e=2*(e/2):=by omega
   conv=>rhs;rw[this]
def No(N f q a:Nat):Bool:=
 decide ((N-1) %q=0) && decide (pw N f a (N-1)=1) && decide (Nat.gcd (pw N f a ((N-1)/q)+(N-1)) N=1)
theorem UD{N f:Nat}(U:2<=N)(V:N<2^f)(E:Prm q)(h:No N f q a=true){d:Nat}(D:Prm d)(c:d∣N):q∣d-1:=by
 simp only[No,yW,BY]at h;obtain⟨⟨h1,j⟩,l⟩:=h;rw[Xb _ _ _ _ (by omega)]at j;rw[Xb _ _ _ _ (Nat.lt_of_le_of_lt (Nat.div_le_self _ _) (by omega))]at l;have Q:=D.1
 have e:∀x y:Nat,x %N=y %N->x %d=y %d:=by
  intro x y C;rw[<-Nat.mod_mod_of_dvd x c,C,Nat.mod_mod_of_dvd y c]
 have O: ¬d∣a:=by
  intro z
  have L:d∣a^(N-1):=by
   rw[show N-1=(N-2)+1 by omega,CA];exact uD2 z (Nat.dvd_mul_left _ _)
  have M:a^(N-1) %d=1 %d:=e _ _ (by rw[j,yP (by omega)]);rw[Nat.mod_eq_zero_of_dvd L,yP (by omega)]at M;omega
 have i:=fermat D O;have G:a^(N-1) %d=1 %d:=e _ _ (by rw[j,yP (by omega)]);have H:a^(d-1) %d=1 %d:=by rw[i,yP (by omega)]
 have R:=kC _ _ H G;apply uA1;intro P;obtain⟨r,F⟩:=Nat.dvd_of_mod_eq_zero h1;have B:0<q:=by have:=E.1;omega
 have FZ:(N-1)/q=r:=by rw[F,Nat.mul_div_cancel_left _ B]
 have g:Nat.Coprime (Nat.gcd (d-1) (N-1)) q:=by
  have:Nat.Coprime (d-1) q:=E.coprime P;exact Nat.Coprime.coprime_dvd_left (Nat.gcd_dvd_left _ _) this
 have A:Nat.gcd (d-1) (N-1)∣r:=by
  have:Nat.gcd (d-1) (N-1)∣q*r:=by rw[<-F];exact Nat.gcd_dvd_right _ _
  exact Nat.Coprime.dvd_of_dvd_mul_left g this
 obtain⟨s,S⟩:=A;have I:a^r %d=1 %d:=by rw[S];exact Xh R s
 rw[FZ]at l
 have J:(a^r %N+(N-1)) %d=0:=by
  have:(a^r %N) %d=1 %d:=by rw[Nat.mod_mod_of_dvd _ c,I]
  have o:d∣1+(N-1):=by rw[show 1+(N-1)=N by omega];exact c
  rw[GS,this,<-GS];exact Nat.mod_eq_zero_of_dvd o
 have K:d∣1:=by rw[<-l];exact Nat.dvd_gcd (Nat.dvd_of_mod_eq_zero J) c
 have:=uA2 (by omega) K;omega
theorem Xf{N F:Nat}(o:2<=N)(H:N<(F+1)*(F+1))(h:∀d,Prm d->d∣N->F∣d-1):Prm N:=by
 refine⟨o,?_⟩;intro d r;apply uA1;intro j;have h1:d≠1:=λe=>j (.inl e)
 have G:d≠N:=λe=>j (.inr e)
 obtain⟨e,l⟩:=r;have s:d≠0:=by rintro rfl;omega
 have z:e≠0:=by rintro rfl;omega
 have A:e≠1:=by rintro rfl;omega
 obtain⟨D,c,g⟩:=P7 d (by omega);obtain⟨E,f,i⟩:=P7 e (by omega);have B:=h D c (uD2 g ⟨e,l⟩);have C:=h E f (uD2 i ⟨d,by rw[l,zE]⟩);have:=c.1;have:=f.1;have I:=uA2 (by omega) B;have J:=uA2 (by omega) C;have K:=uA2 (by omega) g;have L:=uA2 (by omega) i;have:(F+1)*(F+1)<=d*e:=Nat.mul_le_mul (by omega) (by omega);omega
theorem KR{N:Nat}(f:Nat)(l:Prm q)(h:(decide (2<=N) && decide (N<2^f) && decide (N<(q+1)*(q+1)) && No N f q a)=true):Prm N:=by
 simp only[yW,BY]at h;obtain⟨⟨⟨h1,e⟩,g⟩,i⟩:=h;exact Xf h1 g λd j c=>UD h1 e l i j c
theorem MK{N r:Nat}(f:Nat)(s:Prm q)(z:Prm r)(h:(decide (2<=N) && decide (N<2^f) && decide (N<(q*r+1)*(q*r+1)) && decide (Nat.gcd q r=1) && No N f q a && No N f r b)=true):Prm N:=by
 simp only[yW,BY]at h;obtain⟨⟨⟨⟨⟨h1,e⟩,i⟩,l⟩,j⟩,o⟩:=h;exact Xf h1 i λd g c=>Nat.Coprime.mul_dvd_of_dvd_of_dvd l (UD h1 e s j g c) (UD h1 e z o g c)
def N3(n:Nat):Nat->Nat->Bool
 |0,_=>true
 |f+1,d=>decide (n %d≠0) && N3 n f (d+1)
theorem dq(n:Nat):∀f d,N3 n f d=true-> ∀k,d<=k->k<d+f-> ¬k∣n:=by
 intro f
 induction f with
 |zero=>intro d _ k h1 g;omega
 |succ f ih=>
  intro d h k h1 g c;simp only[N3,yW,BY]at h;by_cases e:k=d
  .subst e;exact h.1 (Nat.mod_eq_zero_of_dvd c)
  .exact ih (d+1) h.2 k (by omega) (by omega) c
theorem JA(f:Nat)(h:(decide (2<=n) && decide (n<(f+2)*(f+2)) && N3 n f 2)=true):Prm n:=by
 simp only[yW,BY]at h;obtain⟨⟨h1,J⟩,z⟩:=h
 have c:∀q,Prm q->q∣n->f+2<=q:=by
  intro q G r;apply uA1;intro j;exact dq n f 2 z q G.1 (by omega) r
 refine⟨h1,?_⟩;intro d A;apply uA1;intro j;have C:d≠1:=λe=>j (.inl e)
 have D:d≠n:=λe=>j (.inr e)
 obtain⟨e,s⟩:=A;have B:d≠0:=by rintro rfl;omega
 have E:e≠0:=by rintro rfl;omega
 have F:e≠1:=by rintro rfl;omega
 obtain⟨H,l,g⟩:=P7 d (by omega);obtain⟨I,o,i⟩:=P7 e (by omega);have K:=c H l (uD2 g ⟨e,s⟩);have L:=c I o (uD2 i ⟨d,by rw[s,zE]⟩);have M:=uA2 (by omega) g;have N:=uA2 (by omega) i;have:(f+2)*(f+2)<=d*e:=Nat.mul_le_mul (by omega) (by omega);omega
end TollNt
namespace TollMont
variable{T a b c1 c2 c3 c4 d k m0 n q t t0 t1 t2 t3 t4 u u0 u1 u2 u3 u4 u5 v v0 v1 v2 v3 v4' w x y:Nat}
open TollNt
abbrev W:Nat:=18446744073709551616
abbrev R:Nat:=115792089237316195423570985008687907853269984665640564039457584007913129639936
def lim(n i:Nat):Nat:=n/W^i %W
theorem AZ(n i:Nat):lim n i<W:=yJ _ (by decide)
theorem IE(n:Nat):lim n 0=n %W:=by simp[lim]
theorem Gq(n i:Nat):lim n (i+1)=lim (n/W) i:=by
 unfold lim;rw[CA,zE,WD]
theorem LA(h:a<W):(a+W*b) %W=a:=by rw[uE2];exact yP h
theorem FZ(h:a<W):(a+W*b)/W=b:=by
 rw[Nat.add_mul_div_left _ _ (by decide),uC9 h,zW]
theorem KX(a b c d e:Nat)(f:a<W)(g:b<W)(h:c<W)(i:d<W):
 lim (a+W*(b+W*(c+W*(d+W*e)))) 0=a/\lim (a+W*(b+W*(c+W*(d+W*e)))) 1=b/\lim (a+W*(b+W*(c+W*(d+W*e)))) 2=c/\
  lim (a+W*(b+W*(c+W*(d+W*e)))) 3=d/\(a+W*(b+W*(c+W*(d+W*e))))/R=e:=by
 refine⟨?_,?_,?_,?_,?_⟩
 .rw[IE,LA f]
 .rw[Gq,FZ f,IE,LA g]
 .rw[Gq,FZ f,Gq,FZ g,IE,LA h]
 .rw[Gq,FZ f,Gq,FZ g,Gq,FZ h,IE,LA i]
 .rw[show R=W*(W*(W*W)) by decide,<-WD,FZ f,<-WD,FZ g,<-WD,FZ h,FZ i]
theorem Yr(n:Nat):n=lim n 0+W*(lim n 1+W*(lim n 2+W*(lim n 3+W*(n/R)))):=by
 have e:∀x:Nat,x=x %W+W*(x/W):=λx=>(zL x W).symm
 rw[show R=W*(W*(W*W)) by decide,<-WD,<-WD,<-WD];simp only[Gq,IE];rw[<-e,<-e,<-e,<-e]
theorem Ek(h:n<R):n=lim n 0+W*(lim n 1+W*(lim n 2+W*lim n 3)):=by
 have:=Yr n;rw[uC9 h]at this;simpa using this
theorem JI(g:a<R)(h:b<R)(c:lim a 0=lim b 0)(h1:lim a 1=lim b 1)(e:lim a 2=lim b 2)(f:lim a 3=lim b 3):a=b:=by
 rw[Ek g,Ek h,c,h1,e,f]
theorem cY(n m:Nat)(C:n<R)(hm:m<R)(c h e c1 f c2 g c3:Nat)
 (i:c=(lim n 0+lim m 0) %W)(s:h=(lim n 0+lim m 0)/W)
 (j:e=(lim n 1+lim m 1+h) %W)(z:c1=(lim n 1+lim m 1+h)/W)
 (l:f=(lim n 2+lim m 2+c1) %W)(A:c2=(lim n 2+lim m 2+c1)/W)
 (o:g=(lim n 3+lim m 3+c2) %W)(B:c3=(lim n 3+lim m 3+c2)/W):
 c=lim (n+m) 0/\e=lim (n+m) 1/\f=lim (n+m) 2/\g=lim (n+m) 3/\c3=(n+m)/R:=by
 have M:=Ek C;have L:=Ek hm;generalize lim n 0=n0 at *; generalize lim n 1=n1 at *; generalize lim n 2=n2 at *; generalize lim n 3=n3 at*;generalize lim m 0=m0 at *; generalize lim m 1=m1 at *; generalize lim m 2=m2 at *; generalize lim m 3=m3 at*;have D:c<W:=i▸yJ _ (by decide);have E:e<W:=j▸yJ _ (by decide);have F:f<W:=l▸yJ _ (by decide);have G:g<W:=o▸yJ _ (by decide);have N:n0+m0=c+W*h:=by rw[i,s,zL]
 have O:n1+m1+h=e+W*c1:=by rw[j,z,zL]
 have P:n2+m2+c1=f+W*c2:=by rw[l,A,zL]
 have Q:n3+m3+c2=g+W*c3:=by rw[o,B,zL]
 have r:n+m=c+W*(e+W*(f+W*(g+W*c3))):=by
  clear i j l o s z A B D E F G C hm;simp only[W]at *; omega
 rw[r];obtain⟨H,h1,I,J,K⟩:=KX c e f g c3 D E F G;exact⟨H.symm,h1.symm,I.symm,J.symm,K.symm⟩
def dif(n m:Nat):Nat:=if n<m then n+R-m else n-m
theorem pE{m:Nat}(c:n<R)(hm:m<R):dif n m<R:=by unfold dif;split<;>omega
theorem OV{c s:Nat}(g:a<W)(h:b<W)(i:c<=1)(e:s=(a+W-b-c) %W)(f:d=if a<b+c then 1 else 0):a+W*d=b+s+c/\d<=1:=by
 simp only[W]at*;split at f<;>omega
theorem Vj(n m:Nat)(O:n<R)(hm:m<R)(c i e c1 f c2 g c3:Nat)
 (j:c=(lim n 0+W-lim m 0-0) %W)(E:i=if lim n 0<lim m 0+0 then 1 else 0)
 (l:e=(lim n 1+W-lim m 1-i) %W)(F:c1=if lim n 1<lim m 1+i then 1 else 0)
 (o:f=(lim n 2+W-lim m 2-c1) %W)(G:c2=if lim n 2<lim m 2+c1 then 1 else 0)
 (r:g=(lim n 3+W-lim m 3-c2) %W)(H:c3=if lim n 3<lim m 3+c2 then 1 else 0):
 c=lim (dif n m) 0/\e=lim (dif n m) 1/\f=lim (dif n m) 2/\g=lim (dif n m) 3/\c3=if n<m then 1 else 0:=by
 have M:=Ek O;have L:=Ek hm;obtain⟨Q,X⟩:=OV (AZ n 0) (AZ m 0) (y6 _) j E;obtain⟨S,Y⟩:=OV (AZ n 1) (AZ m 1) X l F;obtain⟨U,Z⟩:=OV (AZ n 2) (AZ m 2) Y o G;obtain⟨V,g3⟩:=OV (AZ n 3) (AZ m 3) Z r H;generalize lim n 0=n0 at *; generalize lim n 1=n1 at *; generalize lim n 2=n2 at *; generalize lim n 3=n3 at*;generalize lim m 0=m0 at *; generalize lim m 1=m1 at *; generalize lim m 2=m2 at *; generalize lim m 3=m3 at*;have A:c<W:=j▸yJ _ (by decide);have B:e<W:=l▸yJ _ (by decide);have C:f<W:=o▸yJ _ (by decide);have D:g<W:=r▸yJ _ (by decide);clear j l o r E F G H
 have z:n+R*c3=m+(c+W*(e+W*(f+W*g))):=by
  clear A B C D O hm;simp only[W,R]at *; omega
 have hS:c+W*(e+W*(f+W*g))<R:=by
  clear z Q S U V M L;simp only[W,R]at *; omega
 generalize P:c+W*(e+W*(f+W*g))=s at*
 have N:dif n m=s/\c3=if n<m then 1 else 0:=by
  clear Q S U V M L P A B C D;unfold dif;simp only[R]at*;have:c3=0\/c3=1:=by omega
  rcases this with h|h<;>subst h<;>constructor<;>split<;>omega
 obtain⟨I,h1,J,K,h4⟩:=KX c e f g 0 A B C D;simp only[Nat.mul_zero,Nat.add_zero,P]at I h1 J K;rw[N.1];exact⟨I.symm,h1.symm,J.symm,K.symm,N.2⟩
theorem lu{c:Nat}(h:x<W)(i:y<W)(g:t<W)(e:c<W):
 ((x*y %W+t) %W+c) %W=(x*y+t+c) %W/\((x*y/W+(x*y %W+t)/W) %W+((x*y %W+t) %W+c)/W) %W=(x*y+t+c)/W:=by
 have f:x*y<=(W-1)*(W-1):=Nat.mul_le_mul (by omega) (by omega);generalize x*y=p at*;simp only[W]at*;constructor<;>omega
def v5(a b c d e:Nat):Nat:=a+W*(b+W*(c+W*(d+W*e)))
def v4(a b c d:Nat):Nat:=a+W*(b+W*(c+W*d))
theorem gB{a0 a1 a2 a3:Nat}
 (c:u0=(x*a0+t0+0) %W)(i:c1=(x*a0+t0+0)/W)
 (e:u1=(x*a1+t1+c1) %W)(j:c2=(x*a1+t1+c1)/W)
 (f:u2=(x*a2+t2+c2) %W)(l:c3=(x*a2+t2+c2)/W)
 (g:u3=(x*a3+t3+c3) %W)(o:c4=(x*a3+t3+c3)/W)
 (h:u4=(t4+c4) %W)(r:u5=(t4+c4)/W):
 v5 t0 t1 t2 t3 t4+x*v4 a0 a1 a2 a3=u0+W*(u1+W*(u2+W*(u3+W*(u4+W*u5)))):=by
 have z:x*a0+t0+0=u0+W*c1:=by rw[c,i,zL]
 have A:x*a1+t1+c1=u1+W*c2:=by rw[e,j,zL]
 have B:x*a2+t2+c2=u2+W*c3:=by rw[f,l,zL]
 have C:x*a3+t3+c3=u3+W*c4:=by rw[g,o,zL]
 have D:t4+c4=u4+W*u5:=by rw[h,r,zL]
 clear c e f g h i j l o r;unfold v5 v4
 have s:x*(a0+W*(a1+W*(a2+W*a3)))=x*a0+W*(x*a1+W*(x*a2+W*(x*a3))):=by
  simp only[Nat.mul_add,Nat.mul_left_comm]
 rw[s];generalize x*a0=p0 at *; generalize x*a1=p1 at *; generalize x*a2=p2 at *; generalize x*a3=p3 at*;simp only[W]at *; omega
theorem f9{m1 m2 m3:Nat}(r:(q*m0+u0) %W=0)
 (h:c1=(q*m0+u0)/W)
 (c:v0=(q*m1+u1+c1) %W)(i:c2=(q*m1+u1+c1)/W)
 (e:v1=(q*m2+u2+c2) %W)(j:c3=(q*m2+u2+c2)/W)
 (f:v2=(q*m3+u3+c3) %W)(l:c4=(q*m3+u3+c3)/W)
 (g:v3=(u4+c4) %W)(o:k=(u4+c4)/W)(z:v4'=u5+k):
 u0+W*(u1+W*(u2+W*(u3+W*(u4+W*u5))))+q*v4 m0 m1 m2 m3=W*v5 v0 v1 v2 v3 v4':=by
 have A:q*m0+u0=W*c1:=by have:=zL (q*m0+u0) W;rw[r,<-h]at this;omega
 have B:q*m1+u1+c1=v0+W*c2:=by rw[c,i,zL]
 have C:q*m2+u2+c2=v1+W*c3:=by rw[e,j,zL]
 have D:q*m3+u3+c3=v2+W*c4:=by rw[f,l,zL]
 have E:u4+c4=v3+W*k:=by rw[g,o,zL]
 clear r c e f g h i j l o;unfold v5 v4
 have s:q*(m0+W*(m1+W*(m2+W*m3)))=q*m0+W*(q*m1+W*(q*m2+W*(q*m3))):=by
  simp only[Nat.mul_add,Nat.mul_left_comm]
 rw[s];generalize q*m0=p0 at *; generalize q*m1=p1 at *; generalize q*m2=p2 at *; generalize q*m3=p3 at*;simp only[W]at *; omega
theorem jS{c:Nat}(e:(c*m0+1) %W=0):((u*c %W)*m0+u) %W=0:=by
 have h1:((u*c %W)*m0+u) %W=(u*(c*m0+1)) %W:=by
  rw[GS,uC4,<-GS,Nat.mul_add,yQ,DP]
 rw[h1,zR,e,Nat.mul_zero,Nat.zero_mod]
theorem de{c e:Nat}(h:v5 a b c d e<2*R):e<=1:=by
 unfold v5 at h;simp only[W,R]at h;omega
theorem gA{c m:Nat}(i:x<W)(g:q<W)(f:T<a+m)(h:T+x*a+q*m=W*c):c<a+m:=by
 have h1:x*a<=(W-1)*a:=uC5 _ (by omega);have e:q*m<=(W-1)*m:=uC5 _ (by omega);generalize x*a=p at *; generalize q*m=r at*;simp only[W]at *; omega
def Jb(m:Nat):Nat:=(m+1)/2
def F2(m a b:Nat):Nat:=a*b*Jb m^256 %m
theorem na{m:Nat}(hm:m %2=1)(h1:1<m):Jb m*2 %m=1:=by
 have:Jb m*2=1+m*1:=by unfold Jb;omega
 rw[this,uE2,yP h1]
theorem nf{m:Nat}(hm:m %2=1)(h1:1<m):R*Jb m^256 %m=1:=by
 rw[show R=2^256 by decide,<-Nat.mul_pow,Nat.pow_mod,zE 2,na hm h1,Nat.one_pow,yP h1]
theorem lY{m:Nat}(hm:m %2=1)(h1:1<m)(h:x*R %m=y %m):x %m=y*Jb m^256 %m:=by
 have e:x*R*Jb m^256 %m=x %m:=by
  rw[DP,zR,nf hm h1,yQ,PB]
 rw[<-e,zR,h,<-zR]
theorem PP{m r:Nat}(hm:m %2=1)(h1:1<m)(c:r<m)(h:r*R %m=a*b %m):r=F2 m a b:=by
 have:=lY hm h1 h
 rwa [yP c]at this
theorem gf{m Q:Nat}(hm:m %2=1)(h1:1<m)(f:a<R)(i:b<R)(c:a<m\/b<m)(e:Q<R)(h:T*R=a*b+m*Q):
 T<2*m/\T %m=F2 m a b:=by
 have j:a*b<m*R:=by
  rcases c with g|g
  .exact Nat.mul_lt_mul_of_lt_of_le g (uD6 i) (by omega)
  .rw[zE];exact Nat.mul_lt_mul_of_lt_of_le g (uD6 f) (by omega)
 have l:m*Q<m*R:=Nat.mul_lt_mul_of_pos_left e (by omega);refine⟨?_,?_⟩
 .have:T*R<(2*m)*R:=by rw[h,DP,Nat.two_mul];omega
  exact Nat.lt_of_mul_lt_mul_right this
 .refine PP hm h1 (yJ _ (by omega)) ?_
  rw[uC4,h,uE2]
section
variable{m:Nat}(hm:m %2=1)(h1:1<m)
include hm h1
theorem Yh(a:Nat):F2 m a (R*R %m)=a*R %m:=by
 refine(PP hm h1 (yJ _ (by omega)) ?_).symm;rw[uC4,Nat.mul_mod_mod,DP]
theorem lh(a:Nat):F2 m (a*R %m) 1=a %m:=by
 refine(PP hm h1 (yJ _ (by omega)) ?_).symm;rw[uC4,yQ,PB]
theorem li(a b:Nat):F2 m (a*R %m) (b %m)=a*b %m:=by
 refine(PP hm h1 (yJ _ (by omega)) ?_).symm;rw[uC4,uC4,Nat.mul_mod_mod,DP,DP,zE b]
end
theorem lM{a x y K w e j v:Int}(g:a*x-1=K*e)(h:y=x*(2-a*x)+w*j)(f:w=K*K*v):
 a*y-1=K*K*(-(e*e)+a*v*j):=by
 have c:a*x=1+K*e:=by grind
 have:a*y-1=(a*x)*(2-(a*x))-1+a*(w*j):=by grind
 rw[this,c,f]
 grind
theorem lL{x z y w g1 g2 g3 ax r:Int}(t1:r+w*g1=ax)(t2:z+w*g2=2+w-r)(t3:y+w*g3=x*z):
 y=x*(2-ax)+w*(x*(1+g1-g2)-g3):=by
 have c:z=2-ax+w*(1+g1-g2):=by grind
 rw[c]at t3
 grind
theorem Yj:(a %k=1 %k)↔(k:Int)∣(a:Int)-1:=by
 constructor
 .intro h
  have c:((a %k:Nat):Int)=((1 %k:Nat):Int):=by rw[h]
  rw[Int.natCast_emod,Int.natCast_emod]at c;exact Int.dvd_of_emod_eq_zero (Int.emod_eq_emod_iff_emod_sub_eq_zero.1 c)
 .intro h
  have c:=Int.emod_eq_emod_iff_emod_sub_eq_zero.2 (Int.emod_eq_zero_of_dvd h);refine Int.natCast_inj.1 ?_;rw[Int.natCast_emod,Int.natCast_emod];exact c
theorem KU{K:Nat}(l:0<w)(g:K*K∣w)(h:a*x %K=1 %K):
 a*(x*((2+w-a*x %w) %w) %w) %(K*K)=1 %(K*K):=by
 have c:=Yj.1 h;obtain⟨e,c⟩:=c;obtain⟨v,j⟩:=g;have i:a*x %w<w:=yJ _ l;have d1:=zL (a*x) w;have d2:=zL (2+w-a*x %w) w;have d3:=zL (x*((2+w-a*x %w) %w)) w;generalize a*x/w=g1 at*;generalize (2+w-a*x %w)/w=g2 at*;generalize (2+w-a*x %w) %w=z at*;generalize x*z/w=g3 at*;generalize x*z %w=y at*;generalize a*x %w=r at*;have f:z+w*g2+r=2+w:=by omega
 have o:=lL (x:=x) (z:=z) (y:=y) (w:=w) (g1:=g1) (g2:=g2) (g3:=g3) (ax:=a*x) (r:=r)
  (by exact_mod_cast d1) (by have:((z+w*g2+r:Nat):Int)=((2+w:Nat):Int):=by rw[f]
                             push_cast at this;omega) (by exact_mod_cast d3)
 have:=lM (a:=a) (x:=x) (y:=y) (K:=K) (w:=w) (e:=e) (v:=v) (by push_cast at c;exact c) o (by exact_mod_cast j);refine Yj.2 ⟨-(e*e)+ ↑a* ↑v*(↑x*(1+ ↑g1- ↑g2)- ↑g3),?_⟩
 push_cast
 exact this
def CO(a:Nat):Nat->Nat
 |0=>1
 |i+1=>CO a i*((2+W-a*CO a i %W) %W) %W
theorem Zv(l:a %2=1):a*CO a 6 %W=1:=by
 have c:a*CO a 0 %2=1 %2:=by simp only[CO];omega
 have e:=KU (K:=2) (w:=W) (by decide) (by decide) c;have f:=KU (K:=4) (w:=W) (by decide) (by decide) (show a*CO a 1 %4=1 %4 from e);have g:=KU (K:=16) (w:=W) (by decide) (by decide) (show a*CO a 2 %16=1 %16 from f);have h:=KU (K:=256) (w:=W) (by decide) (by decide) (show a*CO a 3 %256=1 %256 from g);have i:=KU (K:=65536) (w:=W) (by decide) (by decide) (show a*CO a 4 %65536=1 %65536 from h);have j:=KU (K:=4294967296) (w:=W) (by decide) (by decide) (show a*CO a 5 %4294967296=1 %4294967296 from i);exact j
def Gn(a:Nat):Nat:=W-CO a 6
theorem Zw(a i:Nat):CO a i<W:=by
 cases i with
 |zero=>simp only[CO];decide
 |succ i=>simp only[CO];exact yJ _ (by decide)
theorem nC(e:a %2=1):0<CO a 6:=by
 have h:=Zv e;apply Nat.pos_of_ne_zero;intro c;rw[c,Nat.mul_zero,Nat.zero_mod]at h;exact absurd h (by decide)
theorem lR(e:x<=w)(h:a*x %w=1 %w):((w-x)*a+1) %w=0:=by
 have h1:(w-x)*a+a*x=w*a:=by rw[zE a x,<-PJ,Nat.sub_add_cancel e]
 have c:((w-x)*a+1) %w=((w-x)*a+a*x) %w:=by rw[GS,<-h,<-GS]
 rw[c,h1,Nat.mul_mod_right]
theorem lS(c:a %2=1):(Gn a*a+1) %W=0:=
 lR (uD6 (Zw a 6)) (Zv c)
def halve(m x:Nat):Nat:=if x %2=0 then x/2 else(x+m)/2
def Ce(m x y:Nat):Nat:=(x %m+m-y %m) %m
structure InvAt(m a u v x y:Nat):Prop where
 vodd:v %2=1
 vle:v<=m
 ule:u<m
 xlt:x<m
 ylt:y<m
 xu:x*a %m=u %m
 yv:y*a %m=v %m
 gcd:Nat.gcd u v=Nat.gcd a m
theorem InvAt.start{m:Nat}(hm:m %2=1)(h1:1<m):InvAt m a (a %m) m 1 0:=
 ⟨hm,yD _,yJ _ (by omega),h1,by omega,by simp,by simp,by rw[Nat.gcd_comm a m,Nat.gcd_rec m a]⟩
theorem di{m:Nat}(hm:m %2=1)(h:2*a %m=2*b %m):a %m=b %m:=by
 have e:∀a b,b<=a->2*a %m=2*b %m->a %m=b %m:=by
  intro a b hle h;have h1:m∣2*a-2*b:=T4 h (by omega);rw[<-Nat.mul_sub]at h1
  have f:Nat.Coprime m 2:=by
   unfold Nat.Coprime;rw[Nat.gcd_comm,Nat.gcd_rec,hm];rfl
  obtain⟨c,f⟩:=Nat.Coprime.dvd_of_dvd_mul_left f h1;have:a=b+m*c:=by omega
  rw[this,uE2]
 rcases Nat.le_total b a with hle|hle
 .exact e a b hle h
 .exact(e b a hle h.symm).symm
theorem nX{m:Nat}(c:x<m):halve m x<m:=by unfold halve;split<;>omega
theorem nV{m:Nat}(hm:m %2=1):2*halve m x %m=x %m:=by
 unfold halve;split
 .rename_i h;rw[show 2*(x/2)=x by omega]
 .rename_i h;rw[show 2*((x+m)/2)=x+m by omega,Nat.add_mod_right]
theorem nk(g:u %2=0)(f:v %2=1):Nat.gcd (u/2) v=Nat.gcd u v:=by
 have c:u=2*(u/2):=by omega
 have e:Nat.Coprime v 2:=by
  unfold Nat.Coprime;rw[Nat.gcd_comm,Nat.gcd_rec,f];rfl
 conv=>rhs;rw[c,zE]
 exact(Nat.Coprime.gcd_mul_right_cancel (u/2) e.symm).symm
theorem InvAt.halved{m:Nat}(hm:m %2=1)(h:InvAt m a u v x y)(c:u %2=0):InvAt m a (u/2) v (halve m x) y:=by
 refine⟨h.vodd,h.vle,by have:=h.ule;omega,nX h.xlt,h.ylt,?_,h.yv,by rw[nk c h.vodd,h.gcd]⟩;refine di hm ?_;rw[show 2*(u/2)=u by omega,<-h.xu,<-DP,zR,nV hm,<-zR]
theorem Vh{m:Nat}(hm:1<m):Ce m x y<m:=yJ _ (by omega)
theorem eY{m:Nat}(hm:0<m):(Ce m x y+y) %m=x %m:=by
 unfold Ce;have c:=yJ y hm;rw[Nat.mod_add_mod,<-Nat.add_mod_mod (x %m+m-y %m),Nat.sub_add_cancel (by omega),Nat.add_mod_right,PB]
theorem rx{m c:Nat}(h:(a+c) %m=(b+c) %m):a %m=b %m:=by
 have e:∀a b,b<=a->(a+c) %m=(b+c) %m->a %m=b %m:=by
  intro a b hle h;obtain⟨k,f⟩:=T4 h (by omega);have:a=b+m*k:=by omega
  rw[this,uE2]
 rcases Nat.le_total b a with hle|hle
 .exact e a b hle h
 .exact(e b a hle h.symm).symm
theorem Vg{m:Nat}(hm:1<m)(f:v<=u)(g:x*a %m=u %m)(h:y*a %m=v %m):Ce m x y*a %m=(u-v) %m:=by
 refine rx (c:=v) ?_;rw[Nat.sub_add_cancel f,<-g];have e:(Ce m x y+y)*a %m=x*a %m:=by rw[zR,eY (by omega),<-zR]
 rw[<-e,PJ,GS,<-h,<-GS]
theorem Z8(h:v<=u):Nat.gcd (u-v) v=Nat.gcd u v:=by
 conv=>rhs;rw[show u=(u-v)+v by omega]
 exact(Nat.gcd_add_self_left v (u-v)).symm
theorem InvAt.less{m:Nat}(hm:1<m)(h:InvAt m a u v x y)(c:v<=u):InvAt m a (u-v) v (Ce m x y) y:=
 ⟨h.vodd,h.vle,by have:=h.ule;omega,Vh hm,h.ylt,Vg hm c h.xu h.yv,h.yv,by rw[Z8 c,h.gcd]⟩
theorem InvAt.swap{m:Nat}(hm:1<m)(h:InvAt m a u v x y)(e:u %2=1)(c:u<v):InvAt m a (v-u) u (Ce m y x) x:=
 ⟨e,uD6 h.ule,by have:=h.vle;omega,Vh hm,h.xlt,Vg hm (uD6 c) h.yv h.xu,h.xu,by rw[Z8 (uD6 c),Nat.gcd_comm,h.gcd]⟩
noncomputable def PQ(m a:Nat):Nat:=open Classical in if h:∃y,y<m/\y*a %m=1 then Classical.choose h else 0
theorem m8{m z:Nat}(g:y<m)(h:z<m)(h1:y*a %m=1)(f:z*a %m=1):y=z:=by
 have c:y*(z*a) %m=y %m:=by rw[zR,f,yQ,PB]
 have e:z*(y*a) %m=z %m:=by rw[zR,h1,yQ,PB]
 rw[Nat.mul_left_comm,e,yP h,yP g]at c;exact c.symm
theorem Sv{m:Nat}(c:y<m)(h:y*a %m=1):PQ m a=y:=by
 have hex:∃y,y<m/\y*a %m=1:=⟨y,c,h⟩
 unfold PQ;rw[dif_pos hex];have:=Classical.choose_spec hex;exact m8 this.1 c this.2 h
theorem InvAt.done{m:Nat}(h1:1<m)(h:InvAt m a 0 v x y):(v=1↔Nat.gcd a m=1)/\(v=1->y=PQ m a/\y*a %m=1):=by
 have c:=h.gcd;rw[Nat.gcd_zero_left]at c;refine⟨by rw[c],?_⟩;rintro rfl;have:=h.yv;rw[yP h1]at this;exact⟨(Sv h.ylt this).symm,this⟩
def HL(x y t c:Nat):Nat:=(x*y+t+c) %W
def FM(x y t c:Nat):Nat:=(x*y+t+c)/W
theorem F3(x y t c:Nat):HL x y t c<W:=yJ _ (by decide)
theorem EN{c:Nat}(h:x<W)(i:y<W)(g:t<W)(e:c<W):FM x y t c<W:=by
 have f:x*y<=(W-1)*(W-1):=Nat.mul_le_mul (by omega) (by omega);unfold FM;generalize x*y=p at*;simp only[W]at*;omega
structure RedAt(m a c k t0 t1 t2 t3 t4:Nat):Prop where
 b0:t0<W
 b1:t1<W
 b2:t2<W
 b3:t3<W
 b4:t4<W
 lt:v5 t0 t1 t2 t3 t4<a+m
 eq:∃Q,Q<W^k/\v5 t0 t1 t2 t3 t4*W^k=a*(c %W^k)+m*Q
theorem RedAt.start{m c:Nat}(hm:0<m):RedAt m a c 0 0 0 0 0 0:=
 ⟨by decide,by decide,by decide,by decide,by decide,by simp only[v5];omega,0,by simp,by simp[v5,Nat.mod_one]⟩
theorem lk(c k:Nat):c %W^(k+1)=c %W^k+W^k*lim c k:=by
 unfold lim;rw[CA,Nat.mod_mul]
theorem RedAt.step{m c ng j l o r e:Nat}(ha:a<R)(s:m<R)(i:(ng*lim m 0+1) %W=0)
 (h:RedAt m a c k t0 t1 t2 t3 t4)(X:x=lim c k)
 (C:u0=HL x (lim a 0) t0 0)(H:c1=FM x (lim a 0) t0 0)(D:u1=HL x (lim a 1) t1 c1)(I:c2=FM x (lim a 1) t1 c1)
 (E:u2=HL x (lim a 2) t2 c2)(J:c3=FM x (lim a 2) t2 c2)(F:u3=HL x (lim a 3) t3 c3)(K:c4=FM x (lim a 3) t3 c3)
 (G:u4=(t4+c4) %W)(L:u5=(t4+c4)/W)(U:q=u0*ng %W)
 (M:j=FM q (lim m 0) u0 0)(N:v0=HL q (lim m 1) u1 j)(Y:l=FM q (lim m 1) u1 j)(O:v1=HL q (lim m 2) u2 l)(Z:o=FM q (lim m 2) u2 l)
 (P:v2=HL q (lim m 3) u3 o)(i3:r=FM q (lim m 3) u3 o)(S:v3=(u4+r) %W)(i4:e=(u4+r)/W)(V:v4'=(u5+e) %W):
 RedAt m a c (k+1) v0 v1 v2 v3 v4':=by
 have g:x<W:=by rw[X];exact AZ _ _
 have f:q<W:=by rw[U];exact yJ _ (by decide)
 have l1:c1<W:=by rw[H];exact EN g (AZ _ _) h.b0 (by decide)
 have l2:c2<W:=by rw[I];exact EN g (AZ _ _) h.b1 l1
 have l3:c3<W:=by rw[J];exact EN g (AZ _ _) h.b2 l2
 have l4:c4<W:=by rw[K];exact EN g (AZ _ _) h.b3 l3
 have r1:j<W:=by rw[M];exact EN f (AZ _ _) (by rw[C];exact F3 _ _ _ _) (by decide)
 have r2:l<W:=by rw[Y];exact EN f (AZ _ _) (by rw[D];exact F3 _ _ _ _) r1
 have r3:o<W:=by rw[Z];exact EN f (AZ _ _) (by rw[E];exact F3 _ _ _ _) r2
 have r4:r<W:=by rw[i3];exact EN f (AZ _ _) (by rw[F];exact F3 _ _ _ _) r3
 have a4:u4<W:=by rw[G];exact yJ _ (by decide)
 have a5:u5<=1:=by have:=h.b4;rw[L];simp only[W]at *; omega
 have he:e<=1:=by rw[i4];simp only[W]at *; omega
 have z:v4'=u5+e:=by rw[V];exact yP (by simp only[W];omega)
 have A:=gB (x:=x) (a0:=lim a 0) (a1:=lim a 1) (a2:=lim a 2) (a3:=lim a 3) (t0:=t0) (t1:=t1) (t2:=t2) (t3:=t3) (t4:=t4) C H D I E J F K G L;have B:=f9 (q:=q) (m0:=lim m 0) (m1:=lim m 1) (m2:=lim m 2) (m3:=lim m 3) (u0:=u0) (u1:=u1) (u2:=u2) (u3:=u3) (u4:=u4) (u5:=u5) (by rw[U];exact jS i) M N Y O Z P i3 S i4 z;rw[<-A]at B;have hA:v4 (lim a 0) (lim a 1) (lim a 2) (lim a 3)=a:=(Ek ha).symm;have hM:v4 (lim m 0) (lim m 1) (lim m 2) (lim m 3)=m:=(Ek s).symm;rw[hA,hM]at B;obtain⟨Q,hQ,hE⟩:=h.eq;refine⟨by rw[N];exact F3 _ _ _ _,by rw[O];exact F3 _ _ _ _,by rw[P];exact F3 _ _ _ _,by rw[S];exact yJ _ (by decide),by rw[V];exact yJ _ (by decide),gA g f h.lt B,Q+W^k*q,?_,?_⟩
 .have:W^k*q<=W^k*(W-1):=Nat.mul_le_mul_left _ (by omega)
  have h2:W^(k+1)=W^k+W^k*(W-1):=by
   rw[CA];have:W^k*W=W^k*(1+(W-1)):=by congr 1
   rw[this,Nat.mul_add,yQ]
  omega
 .rw[lk,<-X,CA,zE (W^k) W,<-DP,zE _ W,<-B]
  have:(v5 t0 t1 t2 t3 t4+x*a+q*m)*W^k=v5 t0 t1 t2 t3 t4*W^k+x*a*W^k+q*m*W^k:=by rw[PJ,PJ]
  rw[this,hE]
  grind
end TollMont
namespace Go.Proofs
open Go.Shelf
def lays264_ren:Go.Shelf.Ren:=⟨λ|264=>172|n=>n,λ|53=>49|46=>125|n=>n,λ|n=>n⟩
theorem lays264:Go.Proofs.Lays.n264 prog lays264_ren:={
 mixed:=by kernel_rfl
 f264:=func172.trans (BT some (by kernel_rfl))
 t46:=underlying125
 a46:=isAgg125
 z46:=sizeOf125
 v46:=zeroValue125
 t53:=zN
 a53:=isAgg49
 z53:=zF
 v53:=zeroValue49}
open Go.RowKit Go.Lib in
theorem bits_Mul64(x y:Nat)(c:x<18446744073709551616)(f:y<18446744073709551616)(w:World):
 Calls prog 172 #[.int .u64 x,.int .u64 y] w λe g=>e=.returned (.tuple #[.int .u64 ((x*y/18446744073709551616:Nat):Int),.int .u64 ((x*y %18446744073709551616:Nat):Int)])/\g=w:=Any.bits_Mul64 lays264 x y c f w
end Go.Proofs
namespace TollMont
open TollNt
theorem VM(n i:Nat):n/2^i=2*(n/2^(i+1))+n/2^i %2:=by
 rw[CA,<-WD];omega
theorem WI(n m i:Nat):((n/2^(i+1) %m+n/2^(i+1) %m) %m+n/2^i %2) %m=n/2^i %m:=by
 simp only[Nat.add_mod_mod,Nat.mod_add_mod];congr 1
 have:=VM n i;omega
theorem Yc(a n m i:Nat):((a*(n/2^(i+1)) %m+a*(n/2^(i+1)) %m) %m+a*(n/2^i %2) %m) %m=a*(n/2^i) %m:=by
 simp only[Nat.add_mod_mod,Nat.mod_add_mod,<-Nat.mul_add];congr 2
 have:=VM n i;omega
theorem VN{n:Nat}(h:n<R):n/2^256=0:=uC9 h
end TollMont
namespace Go.Proofs.YtafbhakmkbehiaaGreatDoor
open Go.RowKit Go.Toll
theorem nd(l i j:Nat->Nat)(e:Nat->Nat->Nat)(A o r s:Nat)(c:Nat)(w:World)
 (z:∀(x:Nat) (p q:Operand) (w:World),(do eqGuard .and 49 p q (.int .u64 (x:Nat)) (.int .u64 1);binOp .and 49 (.int .u64 (x:Nat)) (.int .u64 1):Sem Value).run prog w=.ok (.int .u64 (l x:Nat)) w)
 (g:∀(x:Nat) (p q:Operand) (w:World),(do eqGuard .shr 49 p q (.int .u64 (x:Nat)) (.int .u64 1);binOp .shr 49 (.int .u64 (x:Nat)) (.int .u64 1):Sem Value).run prog w=.ok (.int .u64 (i x:Nat)) w)
 (h:∀(x:Nat) (p q:Operand) (w:World),(do eqGuard .shl 49 p q (.int .u64 (x:Nat)) (.int .u64 63);binOp .shl 49 (.int .u64 (x:Nat)) (.int .u64 63):Sem Value).run prog w=.ok (.int .u64 (j x:Nat)) w)
 (f:∀(x y:Nat) (p q:Operand) (w:World),(do eqGuard .or 49 p q (.int .u64 (x:Nat)) (.int .u64 (y:Nat));binOp .or 49 (.int .u64 (x:Nat)) (.int .u64 (y:Nat)):Sem Value).run prog w=.ok (.int .u64 (e x y:Nat)) w):
 CGy 127 #[A4y A o r s,.int .u64 (c:Nat)] w (.agg #[.int .u64 (e (i A) (j (l o)):Nat),.int .u64 (e (i o) (j (l r)):Nat),.int .u64 (e (i r) (j (l s)):Nat),.int .u64 (e (i s) (j c):Nat)]):=by
 go_enter func127,ntmps127
 refine C0 ?_
 refine GY ?_;iterate 7 refine iN ?_
 refine Br 5 ?_
 iterate 3
  refine BP ?_
  refine t_1 ?_;iterate 20 refine iN ?_
  refine EQ ?_
  refine t_1 ?_;refine t_8 ?_;refine t_4 ?_;refine n9 (by exact AK rfl gg rfl rfl (λw=>z _ _ _ w)) ?_;iterate 5 refine iN ?_
  refine t_8 ?_;refine t_4 ?_;refine n9 (by exact AK rfl gg rfl rfl (λw=>g _ _ _ w)) ?_;refine iN ?_;refine n9 (by exact AK rfl gg rfl rfl (λw=>h _ _ _ w)) ?_;refine n9 (by exact AK rfl gg rfl rfl (λw=>f _ _ _ _ w)) ?_;refine t_8 ?_;refine GX ?_;iterate 2 refine iN ?_
  refine Dx ?_
 refine BP ?_
 refine Bv ?_
 iterate 2
  iterate 5 refine iN ?_
 iterate 4 refine iN ?_
 refine Bv ?_
 refine t_8 ?_;refine t_4 ?_;refine n9 (by exact AK rfl gg rfl rfl (λw=>g _ _ _ w)) ?_;refine iN ?_;refine n9 (by exact AK rfl gg rfl rfl (λw=>h _ _ _ w)) ?_;refine n9 (by exact AK rfl gg rfl rfl (λw=>f _ _ _ _ w)) ?_;refine t_8 ?_;refine GX ?_;iterate 2 refine iN ?_
 refine EQ ?_
 refine FB ?_
 refine As ?_;refine BP ?_
 refine t_3 ?_;refine Cw ?_;refine AD (AH results127 (Ac rfl rfl y8 rfl zD rfl rfl)) ?_;intro C B;exact⟨rfl,B⟩
theorem nZ(b:Nat)(c g h i j l o r:Nat)(w:World)
 (z:∀(_x:Nat) (p q:Operand) (w:World),(do eqGuard .and 49 p q (.int .u64 (c:Nat)) (.int .u64 1);binOp .and 49 (.int .u64 (c:Nat)) (.int .u64 1):Sem Value).run prog w=.ok (.int .u64 0) w)(h1:∀e,Gw w e->CGy 127 #[A4y c g h i,.int .u64 0] e (A4y j l o r)):
 CGy 128 #[.pointer (some ⟨b,0,none⟩),A4y c g h i] w (A4y j l o r):=by
 go_enter func128,ntmps128
 refine C0 ?_
 refine J2 ?_
 refine t_8 ?_;refine t_4 ?_;refine n9 (by exact AK rfl gg rfl rfl (λw=>z 0 _ _ w)) ?_;refine EQ ?_
 refine t_3 ?_;refine n9 (by exact AM rfl gg rfl (eo func127) h1) ?_;refine Cw ?_;refine AD (AH results128 (Ac rfl rfl y8 rfl zD rfl rfl)) ?_;intro e s;exact⟨rfl,s⟩
theorem nY(b:Nat)(g h i l m0 o r s z A B C D E F G:Nat)(c:Nat)(w:World)(hm:∀(j:Nat) (v:Value),[.int .u64 (m0:Nat),.int .u64 (o:Nat),.int .u64 (r:Nat),.int .u64 (s:Nat)][j]? =some v->w.cell? ⟨b,0+j,none⟩=some v)
 (J:∀(_x:Nat) (p q:Operand) (w:World),(do eqGuard .and 49 p q (.int .u64 (g:Nat)) (.int .u64 1);binOp .and 49 (.int .u64 (g:Nat)) (.int .u64 1):Sem Value).run prog w=.ok (.int .u64 1) w)(h1:∀e,Gw w e->CGy 159 #[A4y g h i l,A4y m0 o r s] e (.tuple #[A4y z A B C,.int .u64 (c:Nat)]))(H:∀e,Gw w e->CGy 127 #[A4y z A B C,.int .u64 (c:Nat)] e (A4y D E F G)):
 CGy 128 #[.pointer (some ⟨b,0,none⟩),A4y g h i l] w (A4y D E F G):=by
 go_enter func128,ntmps128
 refine C0 ?_
 refine J2 ?_
 refine t_8 ?_;refine t_4 ?_;refine n9 (by exact AK rfl gg rfl rfl (λw=>J 0 _ _ w)) ?_;refine Fo ?_
 refine t_3 ?_;iterate 2 refine iN ?_
 refine Ec ?_;refine t_3 ?_;refine n9 (by exact AM rfl gg rfl (eo func159) h1) ?_;iterate 3 refine iN ?_
 refine Fp ?_;iterate 4 refine iN ?_
 refine t_3 ?_;refine iN ?_;refine n9 (by exact AM rfl gg rfl (eo func127) H) ?_;refine Cw ?_;refine AD (AH results128 (Ac rfl rfl y8 rfl zD rfl rfl)) ?_;intro e I;exact⟨rfl,I⟩
theorem m9(b:Nat)(l:Nat->Nat->Nat)(x u0 m z H:Nat)(w:World)(hm:∀(j:Nat) (v:Value),[.int .u64 (l m 0:Nat),.int .u64 (l m 1:Nat),.int .u64 (l m 2:Nat),.int .u64 (l m 3:Nat)][j]? =some v->w.cell? ⟨b,0+j,none⟩=some v)(r Q:Nat->Bool)(h:Nat->Nat)(I hv:Nat->Nat)(D:Nat->Nat->Bool)(G bo P:Nat->Nat->Nat)(R:Nat->Nat->Nat->Nat->Prop)
 (N:l z 0=1/\l z 1=0/\l z 2=0/\l z 3=0)(F:l H 0=0/\l H 1=0/\l H 2=0/\l H 3=0)
 (h1:∀g,Gw w g->CGy 88 #[.pointer (some ⟨b,0,none⟩),q4y l x] g (q4y l u0))
 (hR:R u0 m z H)
 (hnz:∀(u:Nat) (p q:Operand) (w:World),(do eqGuard .neq 147 p q (q4y l u) (.agg #[.int .u64 0,.int .u64 0,.int .u64 0,.int .u64 0]);binOp .neq 147 (q4y l u) (.agg #[.int .u64 0,.int .u64 0,.int .u64 0,.int .u64 0]):Sem Value).run prog w=.ok (.bool (r u)) w)
 (M:∀(u:Nat) (p q:Operand) (w:World),(do eqGuard .neq 147 p q (q4y l u) (.agg #[.int .u64 1,.int .u64 0,.int .u64 0,.int .u64 0]);binOp .neq 147 (q4y l u) (.agg #[.int .u64 1,.int .u64 0,.int .u64 0,.int .u64 0]):Sem Value).run prog w=.ok (.bool (Q u)) w)
 (A:∀(u:Nat) (p q:Operand) (w:World),(do eqGuard .and 49 p q (.int .u64 (l u 0:Nat)) (.int .u64 1);binOp .and 49 (.int .u64 (l u 0:Nat)) (.int .u64 1):Sem Value).run prog w=.ok (.int .u64 (h u:Nat)) w)
 (U:∀u v a d:Nat,R u v a d->r u=true->h u=0-> ∀g,Gw w g->CGy 127 #[q4y l u,.int .u64 0] g (q4y l (I u)))
 (V:∀u v a d:Nat,R u v a d->r u=true->h u=0-> ∀g,Gw w g->CGy 128 #[.pointer (some ⟨b,0,none⟩),q4y l a] g (q4y l (hv a)))
 (K:∀u v a d:Nat,R u v a d->r u=true->h u≠0-> ∀g,Gw w g->CGy 124 #[q4y l u,q4y l v] g (.bool (D u v)))
 (Y:∀u v a d:Nat,R u v a d->r u=true->h u≠0->D u v=false-> ∀g,Gw w g->CGy 129 #[q4y l u,q4y l v] g (.tuple #[q4y l (G u v),.int .u64 (bo u v:Nat)]))
 (Z:∀u v a d:Nat,R u v a d->r u=true->h u≠0->D u v=true-> ∀g,Gw w g->CGy 129 #[q4y l v,q4y l u] g (.tuple #[q4y l (G v u),.int .u64 (bo v u:Nat)]))
 (W:∀u v a d:Nat,R u v a d->r u=true->h u≠0->D u v=false-> ∀g,Gw w g->CGy 130 #[.pointer (some ⟨b,0,none⟩),q4y l a,q4y l d] g (q4y l (P a d)))
 (X:∀u v a d:Nat,R u v a d->r u=true->h u≠0->D u v=true-> ∀g,Gw w g->CGy 130 #[.pointer (some ⟨b,0,none⟩),q4y l d,q4y l a] g (q4y l (P d a)))
 (se:∀u v a d:Nat,R u v a d->r u=true->h u=0->R (I u) v (hv a) d/\I u+v<u+v)
 (sg:∀u v a d:Nat,R u v a d->r u=true->h u≠0->D u v=false->R (G u v) v (P a d) d/\G u v+v<u+v)
 (sl:∀u v a d:Nat,R u v a d->r u=true->h u≠0->D u v=true->R (G v u) u (P d a) a/\G v u+u<u+v):
 Calls prog 81 #[.pointer (some ⟨b,0,none⟩),q4y l x] w λe g=>(∃u v a d,R u v a d/\r u=false/\((Q v=true/\e=.returned (.tuple #[.agg #[.int .u64 0,.int .u64 0,.int .u64 0,.int .u64 0],.int .i64 1]))\/(Q v=false/\e=.returned (.tuple #[q4y l d,.int .i64 0]))))/\Gw w g:=by
 go_enter func81,ntmps81
 refine C0 ?_
 refine GY ?_;iterate 6 refine iN ?_
 refine Bv ?_
 refine t_3 ?_;refine n9 (by exact AM rfl gg rfl (eo func88) (h1)) ?_;iterate 2 refine iN ?_
 refine Ec ?_;refine t_3 ?_;iterate 2 refine GY ?_
 iterate 2 refine t_9 ?_
 iterate 3 refine iN ?_
 iterate 2 refine t_1 ?_
 iterate 2 refine GY ?_
 iterate 2 refine t_9 ?_
 iterate 3 refine iN ?_
 refine Ii (λn s=> ∃(u v a d:Nat),n=u+v/\R u v a d/\s.fr=[.v (.pointer (some ⟨b,0,none⟩)),.v (q4y l x),.v undef,.p 3 0,.p 4 0,.v (.int .i64 0),.p 6 0,.p 7 0,.p 8 0,.p 9 0,s.fr.getD 10 default,s.fr.getD 11 default,s.fr.getD 12 default,s.fr.getD 13 default,s.fr.getD 14 default,s.fr.getD 15 default,s.fr.getD 16 default,s.fr.getD 17 default,s.fr.getD 18 default,s.fr.getD 19 default,s.fr.getD 20 default,s.fr.getD 21 default,s.fr.getD 22 default,s.fr.getD 23 default,s.fr.getD 24 default,s.fr.getD 25 default,s.fr.getD 26 default,s.fr.getD 27 default,s.fr.getD 28 default,s.fr.getD 29 default,s.fr.getD 30 default,s.fr.getD 31 default,s.fr.getD 32 default,s.fr.getD 33 default,s.fr.getD 34 default,s.fr.getD 35 default,s.fr.getD 36 default,s.fr.getD 37 default,s.fr.getD 38 default,s.fr.getD 39 default,s.fr.getD 40 default,s.fr.getD 41 default,s.fr.getD 42 default,s.fr.getD 43 default,s.fr.getD 44 default,s.fr.getD 45 default,s.fr.getD 46 default,s.fr.getD 47 default,s.fr.getD 48 default,s.fr.getD 49 default,s.fr.getD 50 default,s.fr.getD 51 default,s.fr.getD 52 default,s.fr.getD 53 default,s.fr.getD 54 default,s.fr.getD 55 default,s.fr.getD 56 default,s.fr.getD 57 default]/\s.mem=AJ [(9,([.v (.int .u64 (l d 0:Nat)),.v (.int .u64 (l d 1:Nat)),.v (.int .u64 (l d 2:Nat)),.v (.int .u64 (l d 3:Nat))],147)),(8,([.v (.int .u64 (l a 0:Nat)),.v (.int .u64 (l a 1:Nat)),.v (.int .u64 (l a 2:Nat)),.v (.int .u64 (l a 3:Nat))],147)),(7,([.v (.int .u64 (l v 0:Nat)),.v (.int .u64 (l v 1:Nat)),.v (.int .u64 (l v 2:Nat)),.v (.int .u64 (l v 3:Nat))],147)),(6,([.v (.int .u64 (l u 0:Nat)),.v (.int .u64 (l u 1:Nat)),.v (.int .u64 (l u 2:Nat)),.v (.int .u64 (l u 3:Nat))],147)),(4,([.v (.int .u64 0),.v (.int .u64 0),.v (.int .u64 0),.v (.int .u64 0)],147)),(3,([.v (.int .u64 (l x 0:Nat)),.v (.int .u64 (l x 1:Nat)),.v (.int .u64 (l x 2:Nat)),.v (.int .u64 (l x 3:Nat))],147))]) ?_ (u0+m) ?_;rotate_left
 .exact⟨u0,m,z,H,rfl,hR,rfl,by simp only[N,F];rfl⟩
 rintro n ⟨fr,mm⟩ ⟨u,v,a,d,hn,c,J,L⟩;obtain⟨f,I⟩:∃f:Nat->SV,fr=[.v (.pointer (some ⟨b,0,none⟩)),.v (q4y l x),.v undef,.p 3 0,.p 4 0,.v (.int .i64 0),.p 6 0,.p 7 0,.p 8 0,.p 9 0,f 10,f 11,f 12,f 13,f 14,f 15,f 16,f 17,f 18,f 19,f 20,f 21,f 22,f 23,f 24,f 25,f 26,f 27,f 28,f 29,f 30,f 31,f 32,f 33,f 34,f 35,f 36,f 37,f 38,f 39,f 40,f 41,f 42,f 43,f 44,f 45,f 46,f 47,f 48,f 49,f 50,f 51,f 52,f 53,f 54,f 55,f 56,f 57]:=⟨λi=>fr.getD i default,J⟩
 clear J;simp only at L;subst I L;by_cases hz:r u=true
 .by_cases o:h u=0
  .have O:decide (((h u:Nat):Int)=0)=true:=yE (by omega)
   iterate 3 refine iN ?_
   refine t_3 ?_;refine t_1 ?_;refine ON ?_;iterate 8 refine iN ?_
   refine t_8 ?_;refine t_4 ?_;refine n9 (by exact AK rfl gg rfl rfl (λw=>A _ _ _ w)) ?_;refine n9 (by exact Ag (p:=true) rfl gg rfl rfl O) ?_;iterate 5 refine iN ?_
   refine t_3 ?_;refine n9 (by exact AM rfl gg rfl (eo func127) (U _ _ _ _ c hz o)) ?_;refine iN ?_;refine t_3 ?_;refine n9 (by exact AM rfl gg rfl (eo func128) (V _ _ _ _ c hz o)) ?_;iterate 2 refine t_9 ?_
   refine iN ?_;refine As ?_;exact⟨_,by have:=(se _ _ _ _ c hz o).2;omega,_,_,_,_,rfl,(se _ _ _ _ c hz o).1,rfl,rfl⟩
  .have O:decide (((h u:Nat):Int)=0)=false:=yB (by omega)
   cases B:D u v
   .skip
    iterate 3 refine iN ?_
    refine t_3 ?_;refine t_1 ?_;refine ON ?_;iterate 8 refine iN ?_
    refine t_8 ?_;refine t_4 ?_;refine n9 (by exact AK rfl gg rfl rfl (λw=>A _ _ _ w)) ?_;refine n9 (by exact Ag (p:=false) rfl gg rfl rfl O) ?_;iterate 5 refine iN ?_
    iterate 2 refine t_3 ?_
    refine n9 (by exact AM (v:=.bool false) rfl gg rfl (eo func124) (λg E=>by rw[<-B];exact K _ _ _ _ c hz o g E)) ?_;iterate 6 refine iN ?_
    iterate 2 refine t_3 ?_
    refine n9 (by exact AM rfl gg rfl (eo func129) (Y _ _ _ _ c hz o B)) ?_;iterate 3 refine iN ?_
    refine t_9 ?_;iterate 3 refine iN ?_
    iterate 2 refine t_3 ?_
    refine n9 (by exact AM rfl gg rfl (eo func130) (W _ _ _ _ c hz o B)) ?_;refine t_9 ?_;refine iN ?_;exact⟨_,by have:=(sg _ _ _ _ c hz o B).2;omega,_,_,_,_,rfl,(sg _ _ _ _ c hz o B).1,rfl,rfl⟩
   .skip
    iterate 3 refine iN ?_
    refine t_3 ?_;refine t_1 ?_;refine ON ?_;iterate 8 refine iN ?_
    refine t_8 ?_;refine t_4 ?_;refine n9 (by exact AK rfl gg rfl rfl (λw=>A _ _ _ w)) ?_;refine n9 (by exact Ag (p:=false) rfl gg rfl rfl O) ?_;iterate 5 refine iN ?_
    iterate 2 refine t_3 ?_
    refine n9 (by exact AM (v:=.bool true) rfl gg rfl (eo func124) (λg E=>by rw[<-B];exact K _ _ _ _ c hz o g E)) ?_;iterate 4 refine iN ?_
    iterate 4 refine t_3 ?_
    iterate 4 refine t_9 ?_
    iterate 3 refine iN ?_
    iterate 2 refine t_3 ?_
    refine n9 (by exact AM rfl gg rfl (eo func129) (Z _ _ _ _ c hz o B)) ?_;iterate 3 refine iN ?_
    refine t_9 ?_;iterate 3 refine iN ?_
    iterate 2 refine t_3 ?_
    refine n9 (by exact AM rfl gg rfl (eo func130) (X _ _ _ _ c hz o B)) ?_;refine t_9 ?_;refine iN ?_;exact⟨_,by have:=(sl _ _ _ _ c hz o B).2;omega,_,_,_,_,rfl,(sl _ _ _ _ c hz o B).1,rfl,rfl⟩
 .replace hz:r u=false:=by simpa using hz
  iterate 3 refine iN ?_
  refine t_3 ?_;refine t_1 ?_;refine ON ?_;iterate 2 refine iN ?_
  refine As ?_;change VOk _ _ _ _ _;cases C:Q v
  .skip
   iterate 3 refine iN ?_
   refine t_3 ?_;refine t_1 ?_;refine n9 (by exact AK rfl gg rfl rfl (λw=>(M _ _ _ w).trans (by rw[C]))) ?_;iterate 5 refine iN ?_
   refine t_3 ?_;refine HN ?_
   refine AG ?_;refine AD (Av results81 (Ac rfl rfl y8 rfl zD rfl rfl) (AF rfl)) ?_;intro g S;exact⟨⟨_,_,_,_,c,hz,.inr ⟨C,rfl⟩⟩,S⟩
  .skip
   iterate 3 refine iN ?_
   refine t_3 ?_;refine t_1 ?_;refine n9 (by exact AK rfl gg rfl rfl (λw=>(M _ _ _ w).trans (by rw[C]))) ?_;iterate 4 refine iN ?_
   refine t_1 ?_;refine HN ?_
   refine AG ?_;refine AD (Av results81 (Ac rfl rfl y8 rfl zD rfl rfl) (AF rfl)) ?_;intro g S;exact⟨⟨_,_,_,_,c,hz,.inl ⟨C,rfl⟩⟩,S⟩
theorem lO(l:Nat->Nat->Nat)(m U H S:Nat)(w:World)(h r:Nat->Nat)(c:Nat->Nat->Nat)(W V E:Nat->Nat)(R:Nat->Nat->Nat->Prop)(G:l H 0=0/\l H 1=0/\l H 2=0/\l H 3=0)
 (J:∀(p q:Operand) (w:World),(do eqGuard .and 49 p q (.int .u64 ((l m 0):Nat)) (.int .u64 1);binOp .and 49 (.int .u64 ((l m 0):Nat)) (.int .u64 1):Sem Value).run prog w=.ok (.int .u64 1) w)(L:∀(p q:Operand) (w:World),(do eqGuard .eql 147 p q (q4y l m) (.agg #[.int .u64 1,.int .u64 0,.int .u64 0,.int .u64 0]);binOp .eql 147 (q4y l m) (.agg #[.int .u64 1,.int .u64 0,.int .u64 0,.int .u64 0]):Sem Value).run prog w=.ok (.bool false) w)
 (hmu:∀(x:Nat) (p q:Operand) (w:World),(do eqGuard .mul 49 p q (.int .u64 ((l m 0):Nat)) (.int .u64 (x:Nat));binOp .mul 49 (.int .u64 ((l m 0):Nat)) (.int .u64 (x:Nat)):Sem Value).run prog w=.ok (.int .u64 (h x:Nat)) w)
 (_hmu1:∀(p q:Operand) (w:World),(do eqGuard .mul 49 p q (.int .u64 ((l m 0):Nat)) (.int .u64 1);binOp .mul 49 (.int .u64 ((l m 0):Nat)) (.int .u64 1):Sem Value).run prog w=.ok (.int .u64 (h 1:Nat)) w)
 (hs2b:∀(x:Nat) (p q:Operand) (w:World),(do eqGuard .sub 49 p q (.int .u64 2) (.int .u64 (x:Nat));binOp .sub 49 (.int .u64 2) (.int .u64 (x:Nat)):Sem Value).run prog w=.ok (.int .u64 (r x:Nat)) w)
 (hmm:∀(x y:Nat) (p q:Operand) (w:World),(do eqGuard .mul 49 p q (.int .u64 (x:Nat)) (.int .u64 (y:Nat));binOp .mul 49 (.int .u64 (x:Nat)) (.int .u64 (y:Nat)):Sem Value).run prog w=.ok (.int .u64 (c x y:Nat)) w)
 (_hmm1:∀(y:Nat) (p q:Operand) (w:World),(do eqGuard .mul 49 p q (.int .u64 1) (.int .u64 (y:Nat));binOp .mul 49 (.int .u64 1) (.int .u64 (y:Nat)):Sem Value).run prog w=.ok (.int .u64 (c 1 y:Nat)) w)
 (N:∀w:World,(Op.unary .neg (.int .u64 ((c (c (c (c (c (c 1 (r (h 1))) (r (h (c 1 (r (h 1)))))) (r (h (c (c 1 (r (h 1))) (r (h (c 1 (r (h 1))))))))) (r (h (c (c (c 1 (r (h 1))) (r (h (c 1 (r (h 1)))))) (r (h (c (c 1 (r (h 1))) (r (h (c 1 (r (h 1)))))))))))) (r (h (c (c (c (c 1 (r (h 1))) (r (h (c 1 (r (h 1)))))) (r (h (c (c 1 (r (h 1))) (r (h (c 1 (r (h 1))))))))) (r (h (c (c (c 1 (r (h 1))) (r (h (c 1 (r (h 1)))))) (r (h (c (c 1 (r (h 1))) (r (h (c 1 (r (h 1))))))))))))))) (r (h (c (c (c (c (c 1 (r (h 1))) (r (h (c 1 (r (h 1)))))) (r (h (c (c 1 (r (h 1))) (r (h (c 1 (r (h 1))))))))) (r (h (c (c (c 1 (r (h 1))) (r (h (c 1 (r (h 1)))))) (r (h (c (c 1 (r (h 1))) (r (h (c 1 (r (h 1)))))))))))) (r (h (c (c (c (c 1 (r (h 1))) (r (h (c 1 (r (h 1)))))) (r (h (c (c 1 (r (h 1))) (r (h (c 1 (r (h 1))))))))) (r (h (c (c (c 1 (r (h 1))) (r (h (c 1 (r (h 1)))))) (r (h (c (c 1 (r (h 1))) (r (h (c 1 (r (h 1)))))))))))))))))):Nat))).run prog w=.ok (.int .u64 (S:Nat)) w)
 (P:∀(z:World) (g:Nat),(∀(j:Nat) (v:Value),[.int .u64 (l m 0:Nat),.int .u64 (l m 1:Nat),.int .u64 (l m 2:Nat),.int .u64 (l m 3:Nat)][j]? =some v->z.cell? ⟨g,0+j,none⟩=some v)->CGy 160 #[.pointer (some ⟨g,0,none⟩),.agg #[.int .u64 1,.int .u64 0,.int .u64 0,.int .u64 0],.int .u64 0] z (q4y l U))
 (I:∀i x o,i<512->R i x o-> ∀z,Gw w z->CGy 159 #[q4y l x,q4y l x] z (.tuple #[q4y l (W x),.int .u64 (V x:Nat)]))
 (hsh:∀i x o,i<512->R i x o-> ∀(z:World) (g:Nat),(∀(j:Nat) (v:Value),[.int .u64 (l m 0:Nat),.int .u64 (l m 1:Nat),.int .u64 (l m 2:Nat),.int .u64 (l m 3:Nat)][j]? =some v->z.cell? ⟨g,0+j,none⟩=some v)->CGy 160 #[.pointer (some ⟨g,0,none⟩),q4y l (W x),.int .u64 (V x:Nat)] z (q4y l (E x)))
 (Z:R 0 U H)
 (hs:∀i x o,i<512->i≠256->R i x o->R (i+1) (E x) o)
 (Q:∀x o,R 256 x o->R 257 (E x) x):
 Calls prog 126 #[q4y l m] w λe z=> ∃x o g,R 512 x o/\w.heap.size<=g/\z.heap[g]? =some (.cells #[.int .u64 (l m 0:Nat),.int .u64 (l m 1:Nat),.int .u64 (l m 2:Nat),.int .u64 (l m 3:Nat),.int .u64 (S:Nat),.int .u64 (l o 0:Nat),.int .u64 (l o 1:Nat),.int .u64 (l o 2:Nat),.int .u64 (l o 3:Nat),.int .u64 (l x 0:Nat),.int .u64 (l x 1:Nat),.int .u64 (l x 2:Nat),.int .u64 (l x 3:Nat)] 199 (0,0))/\e=.returned (.tuple #[.pointer (some ⟨g,0,none⟩),.int .i64 0])/\Gw w z:=by
 go_enter func126,ntmps126
 refine JN ?_
 refine t_8 ?_;refine t_4 ?_;refine n9 (by exact AK rfl gg rfl rfl (λw=>J _ _ w)) ?_;refine t_1 ?_;refine iN ?_;refine eU ?_;refine Hn ?_;refine n9 (by first|exact Ev.skip (λ_=>rfl)|exact AK rfl (λ_=>rfl) rfl rfl (λw=>L _ _ w)) ?_;refine Fo ?_
 refine t_3 ?_;refine t_1 ?_;iterate 13 refine iN ?_
 refine Br 7 ?_;refine BP ?_
 refine ET ?_
 refine t_8 ?_;refine t_4 ?_;refine iN ?_;refine J7 ?_;refine J5 ?_;refine HC ?_
 refine EQ ?_
 refine ET ?_
 refine t_8 ?_;refine t_4 ?_;refine iN ?_;refine J7 ?_;refine J5 ?_;refine HC ?_
 refine EQ ?_
 refine ET ?_
 refine t_8 ?_;refine t_4 ?_;refine iN ?_;refine J7 ?_;refine J5 ?_;refine HC ?_
 refine EQ ?_
 refine ET ?_
 refine t_8 ?_;refine t_4 ?_;refine iN ?_;refine J7 ?_;refine J5 ?_;refine HC ?_
 refine EQ ?_
 refine ET ?_
 refine t_8 ?_;refine t_4 ?_;refine iN ?_;refine J7 ?_;refine J5 ?_;refine HC ?_
 refine EQ ?_
 refine ET ?_
 refine t_8 ?_;refine t_4 ?_;refine iN ?_;refine J7 ?_;refine J5 ?_;refine HC ?_
 refine EQ ?_
 refine FB ?_
 refine As ?_;refine C3 ?_
 refine n9 (by exact NR rfl gg rfl (λw=>N w)) ?_;refine iN ?_;refine n9 (by first|exact BG rfl gg rfl underlying199 rfl zF|exact BF rfl gg rfl underlying199 rfl zF) ?_;refine GX ?_;iterate 4 refine iN ?_
 refine t_1 ?_;refine n9 (by exact Aj [21] rfl gg rfl (eo func160) (λρ z O=>P z (ρ 21) (Rs O (by simp) rfl 0 _ rfl))) ?_;refine GV ?_
 refine Jw (λi=>i==0||i==1||i==2||i==3||i==4||i==6||i==40) 999 λf0=> ?_
 refine iN ?_;refine Ii (λn s=> ∃(f:Nat->Value) (i x o:Nat),n+i=512/\R i x o/\s.fr=[.v (q4y l m),.p 1 0,.v (.pointer none),.v (.int .i64 0),.p 21 0,.v (f 5),.p 6 0,.v (f 7),.v (f 8),.v (f 9),.v (f 10),.v (f 11),.v (f 12),.v (f 13),.v (f 14),.v (f 15),.v (f 16),.v (f 17),.v (f 18),.v (f 19),.v (f 20),.v (f 21),.v (f 22),.v (f 23),.v (f 24),.v (f 25),.v (f 26),.v (f 27),.v (f 28),.v (f 29),.v (f 30),.v (f 31),.v (f 32),.v (f 33),.v (f 34),.v (f 35),.v (f 36),.v (f 37),.v (f 38),.v (f 39),.v (.int .i64 (i:Nat)),.v (f 41),.v (f 42),.v (f 43),.v (f 44),.v (f 45),.v (f 46),.v (f 47),.v (f 48),.v (f 49),.v (f 50),.v (f 51),.v (f 52),.v (f 53),.v (f 54),.v (f 55),.v (f 56),.v (f 57),.v (f 58),.v (f 59),.v (f 60),.v (f 61),.v (f 62),.v (f 63),.v (f 64)]/\s.mem=AJ [(6,([.v (.int .u64 (l x 0:Nat)),.v (.int .u64 (l x 1:Nat)),.v (.int .u64 (l x 2:Nat)),.v (.int .u64 (l x 3:Nat))],147)),(21,([.v (.int .u64 (l m 0:Nat)),.v (.int .u64 (l m 1:Nat)),.v (.int .u64 (l m 2:Nat)),.v (.int .u64 (l m 3:Nat)),.v (.int .u64 (S:Nat)),.v (.int .u64 (l o 0:Nat)),.v (.int .u64 (l o 1:Nat)),.v (.int .u64 (l o 2:Nat)),.v (.int .u64 (l o 3:Nat)),.v (.int .u64 0),.v (.int .u64 0),.v (.int .u64 0),.v (.int .u64 0)],199)),(1,([.v (.int .u64 (l m 0:Nat)),.v (.int .u64 (l m 1:Nat)),.v (.int .u64 (l m 2:Nat)),.v (.int .u64 (l m 3:Nat))],147))]) ?_ 512 ?_;rotate_left
 .exact⟨f0,0,U,H,rfl,Z,rfl,by simp only[G];exact lm rfl⟩
 rintro n ⟨fr,a0⟩ ⟨f,i,x,o,hn,hRn,K,D⟩;simp only at K D;subst K D;by_cases hlt:i<512
 .have C:decide ((i:Int)<512)=true:=yE (by omega)
  have B:IntKind.i64.wrap ((i:Int)+1)=((i+1:Nat):Int):=by rw[Ah (by omega) (by omega)];omega
  refine dX (λi=>i==0||i==1||i==2||i==3||i==4||i==6||i==40) 8 ?_;by_cases A:i=256
  .have F:decide ((i:Int)=256)=true:=yE (by omega)
   iterate 2 refine iN ?_
   refine n9 (by exact BM rfl gg rfl rfl C) ?_;iterate 15 refine iN ?_
   refine n9 (by exact Ag rfl gg rfl rfl F) ?_;iterate 4 refine iN ?_
   refine t_3 ?_;refine iN ?_;refine Ec ?_;refine t_9 ?_;iterate 3 refine iN ?_
   iterate 2 refine t_3 ?_
   refine n9 (by exact AM rfl gg rfl (eo func159) (I _ _ _ hlt hRn)) ?_;iterate 3 refine iN ?_
   refine Fp ?_;iterate 4 refine iN ?_
   refine t_3 ?_;refine iN ?_;refine VW ?_;refine HN ?_
   refine n9 (by exact BE rfl gg rfl rfl B) ?_;iterate 2 refine iN ?_
   intro M;subst A;exact⟨n-1,by omega,M,_,_,_,by omega,Q _ _ hRn,rfl,Ym rfl⟩
  .have F:decide ((i:Int)=256)=false:=yB (by omega)
   iterate 2 refine iN ?_
   refine n9 (by exact BM rfl gg rfl rfl C) ?_;iterate 15 refine iN ?_
   refine n9 (by exact Ag rfl gg rfl rfl F) ?_;iterate 5 refine iN ?_
   iterate 2 refine t_3 ?_
   refine n9 (by exact AM rfl gg rfl (eo func159) (I _ _ _ hlt hRn)) ?_;iterate 3 refine iN ?_
   refine Fp ?_;iterate 4 refine iN ?_
   refine t_3 ?_;refine iN ?_;refine VW ?_;refine HN ?_
   refine n9 (by exact BE rfl gg rfl rfl B) ?_;iterate 2 refine iN ?_
   intro M;exact⟨n-1,by omega,M,_,_,_,by omega,hs _ _ _ hlt A hRn,rfl,Ym rfl⟩
 .obtain rfl:i=512:=by omega
  iterate 2 refine iN ?_
  refine n9 (by exact BM (p:=false) rfl gg rfl rfl (by decide)) ?_;iterate 3 refine iN ?_
  refine As ?_;change VOk _ _ _ _ _;change VOk _ _ _ _ _;iterate 3 refine iN ?_
  refine t_3 ?_;refine iN ?_;refine Ec ?_;refine t_9 ?_;iterate 7 refine iN ?_
  refine AG ?_;refine kD rfl rfl rfl rfl rfl ?_;intro g z h1 X Y;exact⟨_,_,_,hRn,h1,X,rfl,Y⟩
end Go.Proofs.YtafbhakmkbehiaaGreatDoor
namespace TollNt
theorem jt:Prm 704251:=JA 839 (by decide+kernel)
theorem jr:Prm 78283:=JA 279 (by decide+kernel)
theorem jy:Prm 3677:=JA 60 (by decide+kernel)
theorem j6:Prm 197:=JA 14 (by decide+kernel)
theorem j8:Prm 155317:=JA 394 (by decide+kernel)
theorem jz:Prm 3023:=JA 54 (by decide+kernel)
theorem jw:Prm 3969899:=JA 1992 (by decide+kernel)
theorem jv:Prm 46076956964474543:=MK (q:=704251) (r:=78283) (a:=2) (b:=2) 56 jt jr (by decide+kernel)
theorem ju:Prm 66417393611:=MK (q:=3677) (r:=197) (a:=2) (b:=2) 36 jy j6 (by decide+kernel)
theorem kA:Prm 11290956913871:=KR (q:=66417393611) (a:=2) 44 ju (by decide+kernel)
theorem js:Prm 774023187263532362759620327192479577272145303:=MK (q:=46076956964474543) (r:=11290956913871) (a:=2) (b:=2) 150 jv kA (by decide+kernel)
theorem jq:Prm 835945042244614951780389953367877943453916927241:=KR (q:=774023187263532362759620327192479577272145303) (a:=2) 160 js (by decide+kernel)
theorem j9:Prm 115792089210356248762697446949407573530086143415290314195533631308867097853951:=KR (q:=835945042244614951780389953367877943453916927241) (a:=2) 256 jq (by decide+kernel)
theorem j7:Prm 191039911:=KR (q:=155317) (a:=2) 28 j8 (by decide+kernel)
theorem j5:Prm 208150935158385979:=MK (q:=191039911) (r:=3023) (a:=2) (b:=2) 58 j7 jz (by decide+kernel)
theorem j4:Prm 2624747550333869278416773953:=KR (q:=208150935158385979) (a:=2) 92 j5 (by decide+kernel)
theorem kB:Prm 1002328039319:=KR (q:=3969899) (a:=2) 40 jw (by decide+kernel)
theorem pm0:Prm 115792089210356248762697446949407573529996955224135760342422259061068512044369:=MK (q:=2624747550333869278416773953) (r:=1002328039319) (a:=2) (b:=2) 256 j4 kB (by decide+kernel)
end TollNt
namespace TollEc
open TollNt
abbrev pp:Nat:=115792089210356248762697446949407573530086143415290314195533631308867097853951
abbrev F:=Fin pp
def cb:F:=41058363725152142129326129780047268409114441015993725554835256314039467401291
theorem jp:Prm pp:=j9
theorem inv_ex(x:F)(e:x≠0):∃y:F,x*y=1:=by
 refine⟨⟨x.val^(pp-2) %pp,yJ _ (by decide)⟩,?_⟩;apply Fin.ext
 have c: ¬pp∣x.val:=by
  intro h;have:=Nat.eq_zero_of_dvd_of_lt h x.isLt;exact e (Fin.ext this)
 have:=fermat jp c;rw[Fin.val_mul];show x.val*(x.val^(pp-2) %pp) %pp=1;rw[Nat.mul_mod_mod,zE,<-CA];exact this
theorem FL{a b:F}(h:a*b=0):a=0\/b=0:=by
 by_cases e:a=0
 .exact .inl e
 .obtain⟨c,f⟩:=inv_ex a e
  right;have:b=c*(a*b):=by grind-lia
  rw[this,h];grind-lia
theorem UF{a b c:F}(e:a≠0)(h:a*b=a*c):b=c:=by
 have h1:a*(b-c)=0:=by grind-lia
 rcases FL h1 with h2|h2
 .exact absurd h2 e
 .grind-lia
open Classical in
noncomputable def EW(x:F):F:=if h:∃y,x*y=1 then Classical.choose h else 0
theorem Jf{x:F}(h:x≠0):x*EW x=1:=by
 unfold EW;rw[dif_pos (inv_ex x h)];exact Classical.choose_spec (inv_ex x h)
theorem nt{x y:F}(h:x*y=1):EW x=y:=by
 have c:x≠0:=by rintro rfl;exact absurd h (by grind-lia)
 exact UF c ((Jf c).trans h.symm)
inductive Pt where
 |inf
 |aff (x y:F)
deriving DecidableEq
def onE(x y:F):Prop:=y*y=x*x*x-3*x+cb
def Pt.on:Pt->Prop
 | .inf=>True
 | .aff x y=>onE x y
def neg:Pt->Pt
 | .inf=>.inf
 | .aff x y=>.aff x (-y)
noncomputable def Lw(c f e g:F):F:=
 if c=e then(3*(c*c)-3)*EW (f+g)else(g-f)*EW (e-c)
noncomputable def add:Pt->Pt->Pt
 | .inf,q=>q
 |p,.inf=>p
 | .aff x1 y1,.aff x2 y2=>
   if x1=x2/\y1+y2=0 then .inf
   else
    let s:=Lw x1 y1 x2 y2
    .aff (s*s-x1-x2) (s*(x1-(s*s-x1-x2))-y1)
theorem Hb(p:Pt):add p .inf=p:=by cases p<;>rfl
theorem GB(p:Pt):add .inf p=p:=by cases p<;>rfl
theorem rp(p:Pt):add p (neg p)=.inf:=by
 cases p with
 |inf=>rfl
 |aff x y=>
  have h:y+ -y=0:=by grind-lia
  simp only[neg,add,h,and_self,zG]
theorem lQ(p:Pt):neg (neg p)=p:=by
 cases p with
 |inf=>rfl
 |aff x y=>simp only[neg];congr 1;grind-lia
theorem k9{p:Pt}(h:p.on):(neg p).on:=by
 cases p with
 |inf=>exact h
 |aff x y=>simp only[neg,Pt.on,onE]at *; grind-lia
theorem Jr{c f e i s:F}(g:c≠e)(l:s*(e-c)=i-f):
 add (.aff c f) (.aff e i)=.aff (s*s-c-e) (s*(c-(s*s-c-e))-f):=by
 have j:e-c≠0:=by intro h;exact g (by grind-lia)
 have o:=Jf j
 have:Lw c f e i=s:=by
  unfold Lw;rw[x8 g,<-l];grind-lia
 simp only[add];rw[x8 (λh=>g h.1),this]
theorem Ue{x y s:F}(c:y+y≠0)(e:s*(y+y)=3*(x*x)-3):
 add (.aff x y) (.aff x y)=.aff (s*s-x-x) (s*(x-(s*s-x-x))-y):=by
 have f:=Jf c
 have:Lw x y x y=s:=by
  unfold Lw;rw[x9 rfl,<-e];grind-lia
 simp only[add];rw[x8 (λh=>c h.2),this]
theorem PS{c f e g:F}(h1:onE c f)(E:onE e g)(I: ¬(c=e/\f+g=0)):
 ∃l m i:F,f=l*c+m/\g=l*e+m/\i=l*l-c-e/\
  c*e+c*i+e*i+2*l*m+3=0/\cb=m*m-c*e*i/\
  add (.aff c f) (.aff e g)=.aff i (-(l*i+m)):=by
 unfold onE at h1 E;by_cases z:c=e
 .subst z
  have A:f+g≠0:=λh=>I ⟨rfl,h⟩
  have C:(f+g)*(f-g)=0:=by grind-lia
  have o:f=g:=by
   rcases FL C with h|h
   .exact absurd h A
   .grind-lia
  subst o;have r:=Jf A;generalize j:(3*(c*c)-3)*EW (f+f)=l;have s:l*(f+f)=3*(c*c)-3:=by rw[<-j];grind-lia
  clear r j;refine⟨l,f-l*c,l*l-c-c,by grind-lia,by grind-lia,rfl,by grind-lia,by grind-lia,?_⟩;rw[Ue A s];congr 1;grind-lia
 .have D:e-c≠0:=by intro h;exact z (by grind-lia)
  have r:=Jf D;generalize j:(g-f)*EW (e-c)=l;have s:l*(e-c)=g-f:=by rw[<-j];grind-lia
  clear r j;obtain⟨m,rfl⟩:∃m,f=l*c+m:=⟨f-l*c,by grind-lia⟩
  have B:g=l*e+m:=by grind-lia
  subst B;have H:(e-c)*(c*e+c*(l*l-c-e)+e*(l*l-c-e)+2*l*m+3)=0:=by grind-lia
  have G:c*e+c*(l*l-c-e)+e*(l*l-c-e)+2*l*m+3=0:=by
   rcases FL H with h|h
   .exact absurd h D
   .exact h
  refine⟨l,m,l*l-c-e,rfl,rfl,rfl,G,by grind-lia,?_⟩;rw[Jr z s];congr 1;grind-lia
theorem lA{e f c l m:F}(i:c=l*l-e-f)(g:e*f+e*c+f*c+2*l*m+3=0)
 (h:cb=m*m-e*f*c):onE c (l*c+m):=by
 unfold onE
 have:(l*c+m)*(l*c+m)-(c*c*c-3*c+cb)=c*(e*f+e*c+f*c+2*l*m+3):=by
  rw[h];grind-lia
 rw[g]at this
 grind-lia
theorem on_add{p q:Pt}(e:p.on)(f:q.on):(add p q).on:=by
 cases p with
 |inf=>rw[GB];exact f
 |aff x1 y1=>
  cases q with
  |inf=>rw[Hb];exact e
  |aff x2 y2=>
   by_cases c:x1=x2/\y1+y2=0
   .simp only[add,x9 c];exact True.intro
   .obtain⟨l,m,g,r,s,o,h,i,j⟩:=PS e f c
    rw[j];exact k9 (p:=.aff g (l*g+m)) (lA o h i)
theorem add_comm(p q:Pt)(r:p.on)(s:q.on):add p q=add q p:=by
 cases p with
 |inf=>rw[GB,Hb]
 |aff x1 y1=>
  cases q with
  |inf=>rw[GB,Hb]
  |aff x2 y2=>
   by_cases e:x1=x2
   .subst e
    by_cases o:y1+y2=0
    .have f:y2+y1=0:=by grind-lia
     simp only[add,o,f,and_self,zG]
    .simp only[Pt.on,onE]at r s
     have i:(y1+y2)*(y1-y2)=0:=by grind-lia
     have c:y1=y2:=by
      rcases FL i with h|h
      .exact absurd h o
      .grind-lia
     rw[c]
   .have z:x2-x1≠0:=by intro h;exact e (by grind-lia)
    have A:=Jf z;generalize j:(y2-y1)*EW (x2-x1)=l;have B:l*(x2-x1)=y2-y1:=by rw[<-j];grind-lia
    have g:l*(x1-x2)=y1-y2:=by grind-lia
    clear A j r s;rw[Jr e B,Jr (λh=>e h.symm) g];congr 1
    .grind-lia
    .grind-lia
theorem fB{x:F}(h1:x*x=1)(c:cb=2*x):False:=by
 have e:cb*cb=4:=by rw[c];grind-lia
 exact absurd e (by decide+kernel)
theorem VJ:(2:F)≠0:=by decide+kernel
theorem eE:(3:F)≠0:=by decide+kernel
theorem Ns{s b:Pt}(A:s.on)(z:b.on):add (add s b) (neg b)=s:=by
 cases b with
 |inf=>simp only[neg,Hb]
 |aff x2 y2=>
  cases s with
  |inf=>rw[GB,rp]
  |aff x1 y1=>
   by_cases i:x1=x2/\y1+y2=0
   .obtain⟨rfl,f⟩:=i
    simp only[add,f,and_self,zG,neg];congr 1;grind-lia
   .obtain⟨l,m,c,I,C,K,J,D,r⟩:=PS A z i
    rw[r];simp only[neg];clear A z r i;by_cases B:c=x2
    .subst B
     have f:y2+y2≠0:=by
      intro f;have g:2*y2=0:=by grind-lia
      have H:y2=0:=by
       rcases FL g with h|h
       .exact absurd h VJ
       .exact h
      have hm:m= -(l*c):=by grind-lia
      subst hm;have e:x1=l*l-c-c:=by grind-lia
      subst e;have E:3*(c*c-1)=0:=by grind-lia
      have F:c*c=1:=by
       rcases FL E with h|h
       .exact absurd h eE
       .grind-lia
      refine fB F ?_;rw[D];grind-lia
     have o: -y2+ -y2≠0:=by intro h;exact f (by grind-lia)
     have G:(-l)*(-y2+ -y2)=3*(c*c)-3:=by
      have e:x1=l*l-c-c:=by grind-lia
      subst e
      grind-lia
     rw[<-C,Ue o G];congr 1<;>grind-lia
    .have j:(-l)*(x2-c)= -y2- -(l*c+m):=by grind-lia
     rw[Jr B j];congr 1<;>grind-lia
theorem ry{p q s:Pt}(e:p.on)(f:q.on)(c:s.on)(h:add p s=add q s):p=q:=by
 rw[<-Ns e c,h,Ns f c]
theorem rc(c f e l k w g h:F)(o:w*(k-l)=e-c)(i:g=l*l-c-f)(j:h=k*k-f-e):
 (w-l)*(w-l)-e-g=(w-k)*(w-k)-c-h:=by grind-lia
theorem rb(c f e h i j l k w g:F)(s:w*(k-l)=e-c)
 (h1:h-i=l*(c-f))(o:j-i=k*(e-f))(r:g=(w-l)*(w-l)-e-(l*l-c-f)):
 (w-l)*(e-g)-j=(w-k)*(c-g)-h:=by grind-lia
theorem L8{a b:F}(h:a-b=0):a=b:=by grind-lia
theorem ip{a b c:F}(h:b*c=1):a*c*b=a:=by grind-lia
theorem ir{e f c g l m:F}(i:g=l*l-e-f)(h:e*f+e*g+f*g+2*l*m+3=0):
 c*c*c-3*c+(m*m-e*f*g)-(l*c+m)*(l*c+m)=(c-e)*(c-f)*(c-g):=by
 have:c*c*c-3*c+(m*m-e*f*g)-(l*c+m)*(l*c+m)-(c-e)*(c-f)*(c-g)= -c*(e*f+e*g+f*g+2*l*m+3):=by
  subst i;clear h;grind-lia
 rw[h]at this
 grind-lia
theorem L6{f g k c e q:F}(h:f=k*c+q)(i:g=k*e+q):g=f+k*(e-c):=by grind-lia
theorem r_g{h e c i f k l:F}(g:(f+k*(c-e))*(f+k*(c-e))-(f+l*(c-e))*(f+l*(c-e))=(c-h)*(c-e)*(c-i)):
 (c-e)*((k-l)*((k+l)*(c-e)+2*f)-(c-h)*(c-i))=0:=by grind-lia
theorem im{f c e k l w:F}(g:w*(k-l)=c-f):(k-l)*((w-l)*(c-e))=(c-f)*(c-e)-l*(k-l)*(c-e):=by grind-lia
theorem ik{c f e k l w:F}(g:w*(k-l)=f-c):(k-l)*((w-k)*(e-c))=(f-c)*(e-c)-k*(k-l)*(e-c):=by grind-lia
theorem ij(c e g f k l:F):(k-l)*((k+l)*(e-c)+2*f)-l*(k-l)*(e-g)=(k-l)*(f+k*(e-c)- -(f+l*(g-c))):=by grind-lia
theorem ic{f c e g k l:F}(t:(k-l)*((k+l)*(e-c)+2*g)=(e-f)*(e-(l*l-f-c))):
 (e-f)*(k*k-c-e-f)-k*(k-l)*(k*k-c-e-f)=(k-l)*(-(g+k*(k*k-c-e-c))-(g+l*(f-c))):=by grind-lia
theorem io{a b c:F}:a-b-c=a-c-b:=by grind-lia
theorem Wa{f g l m c e:F}(h:f=l*c+m)(i:g=l*e+m):f-g=l*(c-e):=by grind-lia
theorem iq{s a b x c e:F}(h:s*(c-a)=e-b):s*(a-x)-b=s*(c-x)-e:=by grind-lia
theorem re{e B f s c z:F}(h1:onE e B)(V:onE f s)(N:onE c z)(hn: ¬(e=f/\B+s=0))
 (O:c≠e)(C:c≠f)(E:∀y,add (.aff e B) (.aff f s)≠ .aff c y)(G:∀y,add (.aff f s) (.aff c z)≠ .aff e y):
 add (add (.aff e B) (.aff f s)) (.aff c z)=add (.aff e B) (add (.aff f s) (.aff c z)):=by
 obtain⟨l,m,r,R,L,K,W,X,Y⟩:=PS h1 V hn;obtain⟨k,q,A,f1,f2,f0,f3,f4,f5⟩:=PS V N (λh=>C h.1.symm);rw[Y]at E⊢;rw[f5]at G⊢;have o:c≠r:=λh=>E _ (by rw[h])
 have H:e≠A:=λh=>G _ (by rw[h])
 unfold onE at N;have S:z*z-(l*c+m)*(l*c+m)=(c-e)*(c-f)*(c-r):=by rw[N,X];exact ir K W
 have U:=L6 f1 f2;have Z:=L6 L (rfl:l*c+m=l*c+m);have g4:=L6 L (rfl:l*r+m=l*r+m);have g5:=L6 f1 (rfl:k*A+q=k*A+q);have g6:=L6 L R;have D:c-f≠0:=λh=>C (L8 h)
 have i:(k-l)*((k+l)*(c-f)+2*s)=(c-e)*(c-r):=by
  rw[U,Z]at S;rcases FL (r_g S)with h|h
  .exact absurd h D
  .exact L8 h
 have j:k-l≠0:=by
  intro h;rw[h,Fin.zero_mul]at i;rcases FL i.symm with g|g
  .exact O (L8 g)
  .exact o (L8 g)
 obtain⟨w,M⟩:∃w,w*(k-l)=c-e:=⟨(c-e)*EW (k-l),ip (Jf j)⟩
 have I:(w-l)*(c-r)=z- -(l*r+m):=by
  refine UF j ?_;rw[im M,<-i,U,g4,ij]
 have P:(w-k)*(A-e)= -(k*A+q)-B:=by
  refine UF j ?_;rw[ik M,g5,g6];rw[K]at i;rw[f0];exact ic i
 have J:=rc e f c l k w r A M K f0;have Q:=rb e f c B s z l k w ((w-k)*(w-k)-e-A) M (Wa R L) (Wa f2 f1) (by rw[<-J,K]);rw[Jr (λh=>o h.symm) I,Jr H P,io,J,<-Q,iq I]
noncomputable def bad(a b:Pt):List Pt:=[.inf,a,neg a,b,neg b,add a b,neg (add a b),add a (neg b),add (neg a) (neg b)]
theorem Qf{x y z:F}(h1:onE x y)(c:onE x z):Pt.aff x z=.aff x y\/Pt.aff x z=neg (.aff x y):=by
 unfold onE at h1 c;have:(z-y)*(z+y)=0:=by rw[<-c]at h1;grind-lia
 rcases FL this with h|h
 .left;rw[L8 h]
 .right;simp only[neg];congr 1;grind-lia
theorem Qc{a b s:Pt}(l:a.on)(i:b.on)(f:s.on)(h:s∉bad a b):add (add a b) s=add a (add b s):=by
 simp only[bad,List.mem_cons,List.not_mem_nil,or_false,not_or]at h;obtain⟨E,F,G,H,I,B,C,J,K⟩:=h;cases a with
 |inf=>simp only[GB]
 |aff x1 y1=>
  cases b with
  |inf=>simp only[GB,Hb]
  |aff x2 y2=>
   cases s with
   |inf=>exact absurd rfl E
   |aff x3 y3=>
    have o:=on_add l i;have j:=on_add i f;by_cases r:x1=x2/\y1+y2=0
    .have D:add (.aff x1 y1) (.aff x2 y2)=.inf:=by simp only[add,x9 r]
     obtain⟨rfl,L⟩:=r;have z:Pt.aff x1 y2=neg (.aff x1 y1):=by simp only[neg];congr 1;grind-lia
     have A:=Ns f i;rw[z,lQ,<-z]at A;rw[D,GB,add_comm _ _ l j,add_comm _ _ i f,A]
    .refine re l i f r ?_ ?_ ?_ ?_
     .rintro rfl
      rcases Qf l f with e|e
      .exact F e
      .exact G e
     .rintro rfl
      rcases Qf i f with e|e
      .exact H e
      .exact I e
     .intro y e
      rw[e]at o B C;rcases Qf o f with e|e
      .exact B e
      .exact C e
     .intro y e
      rw[e]at j;have c:=Ns f i;rw[add_comm _ _ f i,e]at c;rcases Qf l j with g|g
      .rw[g]at c;exact J c.symm
      .rw[g]at c;exact K c.symm
theorem Qe{α:Type}[DecidableEq α]:∀(l m:List α),l.Nodup->m.length<l.length-> ∃x,x∈l/\x∉m:=by
 intro l m c z;apply uA1;intro o
 have e:l⊆m:=by
  intro x f;apply uA1;intro hm;exact o ⟨x,f,hm⟩
 have h:∀(l m:List α),l.Nodup->l⊆m->l.length<=m.length:=by
  intro l
  induction l with
  |nil=>intro m _ _;simp
  |cons a l ih=>
   intro m c j;rw[List.nodup_cons]at c;have i:a∈m:=j (by simp)
   have h1:=ih (m.erase a) c.2 (by
    intro x f;have g:x≠a:=by rintro rfl;exact c.1 f
    exact(List.mem_erase_of_ne g).2 (j (by simp[f])))
   have r:=List.length_erase_of_mem i;have s:=List.length_pos_of_mem i;simp;omega
 have:=h l m c e;omega
def some:List (F×F):=[(0,46263761741508638697010950048709651021688891777877937875096931459006746039284),(0,69528327468847610065686496900697922508397251637412376320436699849860351814667),(5,31468013646237722594854082025316614106172411895747863909393730389177298123724),(5,84324075564118526167843364924090959423913731519542450286139900919689799730227),(6,24739918328848417526480033809572464882617473122143770809273908485596236620747),(6,91052170881507831236217413139835108647468670293146543386259722823270861233204),(8,82784132184742902406611976374283817475915538652053173371854007222633983132083),(8,33007957025613346356085470575123756054170604763237140823679624086233114721868),(9,64265364456294082747112527522981594904960689488638802860996194286474266915479),(9,51526724754062166015584919426425978625125453926651511334537437022392830938472),(12,66934920894945216687164320457392073305141033253131913951695301233381400331143),(12,48857168315411032075533126492015500224945110162158400243838330075485697522808),(13,53404144414778303508799263379260966483386805595332806637100379275867514529459),(13,62387944795577945253898183570146607046699337819957507558433252032999583324492),(17,43783450011834442217334481138474159509558335318535455861762733939497581045049),(17,72008639198521806545362965810933414020527808096754858333770897369369516808902),(23,37114329264221932393644918276665526732952696771951479144529462133154348400658),(23,78677759946134316369052528672742046797133446643338835051004169175712749453293),(24,26321841318174713433978379012486154109266602617658289202947244817969700794459),(24,89470247892181535328719067936921419420819540797632024992586386490897397059492),(25,101842049421071908540038086255668332854032952517920383898783206756845809129814),(25,13950039789284340222659360693739240676053190897369930296750424552021288724137),(26,24424587111845263483165880188626713615059877529618610383051097479852596134318),(26,91367502098510985279531566760780859915026265885671703812482533829014501719633),(29,18773105118284221259526141573442436911129172592710552834788399784636057579277),(29,97018984092072027503171305375965136618956970822579761360745231524231040274674),(31,51772576644680527507497169225388455048738671303331750808704780383361075168277),(31,64019512565675721255200277724019118481347472111958563386828850925506022685674),(34,59791363792270185952812307835825910484107935385933905162606848621164130833239),(34,56000725418086062809885139113581663045978208029356409032926782687702967020712),(35,40295540095254214384559919770004980525704531316622728644383555421946762207439),(35,75496549115102034378137527179402593004381612098667585551150075886920335646512),(37,27019068728911808621164184721360182012211537658607486295926391355263536972569),(37,88773020481444440141533262228047391517874605756682827899607239953603560881382),(39,111580631210431117360875745014289346788358530860711711829739028359136821314236),(39,4211457999925131401821701935118226741727612554578602365794602949730276539715),(44,70441152804929838592241369407579099569779936506845887129699483765394726397243),(44,45350936405426410170456077541828473960306206908444427065834147543472371456708),(45,80898553851609202973000225381347700523925001632437640323176976999290509256427),(45,34893535358747045789697221568059873006161141782852673872356654309576588597524)]
theorem eu:∀z∈some,onE z.1 z.2:=by
 have:(some.all λz=>decide (z.2*z.2=z.1*z.1*z.1-3*z.1+cb))=true:=by decide+kernel
 intro z c;have h:=y5.1 this z c;simp only[BY]at h;exact h
theorem ev:some.Nodup:=by decide+kernel
def OW:List Pt:=some.map λz=>.aff z.1 z.2
theorem ew:∀p∈OW,p.on:=by
 intro p c;obtain⟨z,e,rfl⟩:=uB8.1 c;exact eu z e
theorem ez:OW.Nodup:=by
 refine YJ _ _ ev ?_;rintro⟨a,b⟩ _ ⟨c,d⟩ _ h;injection h with h1 h2
 simp only at h1 h2;rw[h1,h2]
theorem add_assoc{p q r:Pt}(i:p.on)(j:q.on)(e:r.on):add (add p q) r=add p (add q r):=by
 obtain⟨s,z,o⟩:=Qe OW (bad (add p q) r++(bad p q).map (λx=>add x (neg r))++bad q r++bad p (add q r)) ez (by
  have:OW.length=40:=by decide+kernel
  rw[this];simp[bad])
 have c:=ew s z;simp only[uB3,not_or]at o;obtain⟨⟨⟨A,B⟩,C⟩,D⟩:=o
 have l:add r s∉bad p q:=by
  intro h;refine B (uB8.2 ⟨_,h,?_⟩);show add (add r s) (neg r)=s;rw[add_comm r s e c];exact Ns c e
 have f:=on_add i j;have g:=on_add j e;refine ry (on_add f e) (on_add i g) c ?_;rw[Qc f e c A,Qc i j (on_add e c) l,<-Qc j e c C,<-Qc i g c D]
end TollEc
namespace TollBy
def beV:List Nat->Nat->Nat
 | [],a=>a
 |b::l,a=>beV l (a*256+b)
theorem QV:∀(l:List Nat) (a:Nat),beV l a=a*256^l.length+beV l 0
 | [],a=>by simp[beV]
 |b::l,a=>by
  simp only[beV,List.length_cons];rw[QV l (a*256+b),QV l (0*256+b),CA,PJ,Nat.zero_mul,zW,DP,zE 256,Nat.add_assoc]
theorem beV_lt:∀(l:List Nat),(∀x∈l,x<256)->beV l 0<256^l.length
 | [],_=>by decide
 |b::l,h=>by
  have f:=beV_lt l (λx c=>h x (by simp[c]));have e:=h b (by simp);simp only[beV,List.length_cons];rw[QV,Nat.zero_mul,zW,CA];have:(b+1)*256^l.length<=256*256^l.length:=uC5 _ (by omega);rw[PJ,Nat.one_mul]at this;rw[zE (256^l.length)];omega
theorem beV_get:∀(l:List Nat),(∀x∈l,x<256)-> ∀i,i<l.length->beV l 0/256^(l.length-1-i) %256=l.getD i 0
 | [],_,i,h=>by simp at h
 |b::l,h,i,hi=>by
  have j:=beV_lt l (λx f=>h x (by simp[f]));have g:=h b (by simp);simp only[beV];rw[QV,Nat.zero_mul,zW];cases i with
  |zero=>
   simp only[List.length_cons,Nat.add_sub_cancel,Nat.sub_zero,List.getD_cons_zero];rw[zE b,Nat.mul_add_div (Nat.pow_pos (by decide)),uC9 j,Nat.add_zero,yP g]
  |succ i=>
   simp only[List.length_cons,List.getD_cons_succ]at hi⊢;have c:i<l.length:=by omega
   rw[show l.length+1-1-(i+1)=l.length-1-i by omega,<-beV_get l (λx f=>h x (by simp[f])) i c]
   have e:256^l.length=256^(l.length-1-i)*(256*256^i):=by
    rw[<-Nat.pow_succ',<-Nat.pow_add];congr 1;omega
   rw[e,show b*(256^(l.length-1-i)*(256*256^i))=256^(l.length-1-i)*(256*(256^i*b)) by
    rw[zE b,DP,DP],Nat.mul_add_div (Nat.pow_pos (by decide)),Nat.mul_add_mod]
end TollBy
