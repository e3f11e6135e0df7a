import Derived.Test.YtafbhakmkbehiaaGreatDoorW5
import Derived.Test.YtafbhakmkbehiaaGreatDoorW6
open Go.Proofs.Tryz
set_option maxHeartbeats 4000000
set_option maxRecDepth 100000
namespace TollEc
open TollNt
noncomputable def Au:Nat->Pt->Pt
 |0,_=>.inf
 |k+1,p=>add (Au k p) p
theorem smul_on{p:Pt}(hp:p.on):∀k,(Au k p).on
 |0=>True.intro
 |k+1=>on_add (smul_on hp k) hp
theorem Rh:∀k,Au k .inf=.inf
 |0=>rfl
 |k+1=>by rw[Au,Rh k];rfl
theorem e7(p:Pt):Au 1 p=p:=by simp only[Au,GB]
theorem smul_add{p:Pt}(hp:p.on)(a:Nat):∀b,Au (a+b) p=add (Au a p) (Au b p)
 |0=>by rw[Nat.add_zero];exact(Hb _).symm
 |b+1=>by
  rw[<-Nat.add_assoc,Au,smul_add hp a b,Au,add_assoc (smul_on hp a) (smul_on hp b) hp]
theorem smul_mul{p:Pt}(hp:p.on)(a:Nat):∀b,Au (a*b) p=Au b (Au a p)
 |0=>rfl
 |b+1=>by rw[Nat.mul_succ,smul_add hp,smul_mul hp a b,Au]
def ladder(n:Nat)(t:Jp):Nat->Jp
 |0=>.inf
 |i+1=>let r:=Df (ladder n t i);if n/2^(255-i) %2=1 then D5 r t else r
theorem mJ(n:Nat)(t:Jp)(f:t.rep.on):∀i,i<=256->(ladder n t i).rep=Au (n/2^(256-i) %2^i) t.rep:=by
 intro i
 induction i with
 |zero=>intro _;simp only[ladder,Nat.pow_zero,Nat.mod_one,Au];exact rep_inf rfl
 |succ i ih=>
  intro p;have l:=ih (by omega)
  have d:(Df (ladder n t i)).rep=Au (2*(n/2^(256-i) %2^i)) t.rep:=by
   rw[Zs,l,Nat.two_mul,smul_add f]
  have e1:n/2^(256-i)=n/2^(255-i)/2:=by
   rw[show 256-i=(255-i)+1 by omega,CA,WD]
  have g:256-(i+1)=255-i:=by omega
  have h:∀m:Nat,m %2^(i+1)=2*(m/2 %2^i)+m %2:=by
   intro m;rw[CA,zE,Nat.mod_mul];omega
  have c:(Df (ladder n t i)).rep.on:=by rw[d];exact smul_on f _
  rw[g,h,<-e1];simp only[ladder];split
  .rename_i hb
   rw[jadd_rep _ _ c f,d,hb];rfl
  .rename_i hb
   rw[d];have:n/2^(255-i) %2=0:=by omega
   rw[this,Nat.add_zero]
theorem ladder_all(n:Nat)(c:n<2^256)(t:Jp)(d:t.rep.on):(ladder n t 256).rep=Au n t.rep:=by
 rw[mJ n t d 256 (by omega)];congr 1
 rw[Nat.sub_self,Nat.pow_zero,Nat.div_one];exact yP c
def bx:F:=48439561293906451759052585252797914202762949526041747995844080717082404635286
def bY:F:=36134250956749795798585127919587881956611106672985015071877198253568414405109
def bj:Jp:=⟨bx,bY,1⟩
def base:Pt:=.aff bx bY
abbrev nn:Nat:=115792089210356248762697446949407573529996955224135760342422259061068512044369
theorem base_on:base.on:=by
 show bY*bY=bx*bx*bx-3*bx+cb;decide+kernel
theorem rep_one(x y:F):(⟨x,y,1⟩:Jp).rep=.aff x y:=by
 rw[rep_of (i:=1) (show(1:F)*1=1 by decide+kernel)];congr 1
 .show x*(1*1)=x;grind-lia
 .show y*(1*(1*1))=y;grind-lia
theorem bj_rep:bj.rep=base:=rep_one _ _
theorem kW:(ladder nn bj 256).z=0:=by decide+kernel
theorem X0:Au nn base=.inf:=by
 have:=ladder_all nn (by decide) bj (by rw[bj_rep];exact base_on);rw[bj_rep,rep_inf kW]at this;exact this.symm
theorem smul_mod(k:Nat):Au (k %nn) base=Au k base:=by
 have e:=uD9 k nn
 conv=>rhs;rw[<-e]
 rw[smul_add base_on,smul_mul base_on,X0,Rh,GB]
theorem smul_eq_inf{k:Nat}(h:Au k base=.inf):nn∣k:=by
 have m:Prm nn:=pm0;apply uA1;intro l;have c:=m.coprime l
 have d:∀a b:Nat,Au a base=.inf->Au b base=.inf->Au (Nat.gcd a b) base=.inf:=by
  intro a b
  induction a,b using Nat.gcd.induction with
  |H0 b=>intro _ h;simpa using h
  |H1 a b ha ih=>
   intro f g;rw[Nat.gcd_rec];refine ih ?_ f;have e:=uD9 b a;rw[<-e,smul_add base_on,smul_mul base_on,f,Rh,GB]at g;exact g
 have:=d k nn h X0;rw[c,e7]at this;exact absurd this (by simp[base])
end TollEc
namespace Go.Vx
open Go.RowKit Go.Toll
variable{ki:IntKind}{rd:List Nat}{fr:List SV}{l':List Value}{id j k n off:Nat}{ix x:Operand}{P:Program}{e el ty:TypeId}
def Jq(w:World):World:={w with heap:=#[]}
theorem qP(w:World):Bw (Jq w) w:=⟨rfl,rfl,rfl,y6 _,λk c=>absurd c (Nat.not_lt_zero k)⟩
def LB(w:World)(X:Nat->Prop):Dat:=⟨λ_ w' S=> ∀k,k<w.heap.size-> ¬X k->(w'.heap[k]? =w.heap[k]? /\S k),λh l k d f=>by
 obtain⟨g,c⟩:=h k d f;exact⟨(l k c).trans g,c⟩⟩
theorem dZ{c:Code}{l:List Value}{w:World}{R:Exit->Act->World->Prop}{m:Mem}(d:Nat->Nm)(f:fr.map (SV.c d)=l)(g:Rel (Jq w) d ⟨fr,m⟩ w)
 (h:VOk P (Jq w) ⟨fr,m⟩ c λe q=> ∀p w',Rel (Jq w) p q w'->R e (q.act p) w'):c.wp P R ⟨l.toArray,[]⟩ w:=by
 have r:(⟨l.toArray,[]⟩:Act)=(⟨fr,m⟩:VS).act d:=by
  simp[VS.act,f]
 rw[r];exact h d w R g λ_ p _ w' t u=>t p w' u
section
variable{P:Program}{w0:World}{ops:Array Oper}{o:Oper}{s:VS}
theorem GH(g:o.op=.indexAddr ty x ix)(c:AQ ops o s)(m:AE s x=.p id off)(d:AE s ix=.v (.int ki (k:Nat)))
 (l:P.underlying ty=some (.array n el))(h:∀w,(Go.sizeOf el).run P w=.ok 1 w)(q:k<n)(f:off+k=j):Ev P ops w0 o s ⟨.p id j,[],[],[],[]⟩:=by
 have:=C7 (w0:=w0) g c m d l h (Int.natCast_nonneg k) (by omega);simpa[f] using this
theorem oM{g:Nat}(h:o.op=.indexAddr ty x ix)(c:AQ ops o s)(p:AE s x=.v (.pointer (some ⟨g,off,none⟩)))(d:AE s ix=.v (.int ki (k:Nat)))
 (m:P.underlying ty=some (.array n el))(l:∀w,(Go.sizeOf el).run P w=.ok 1 w)(q:k<n)(f:off+k=j):Ev P ops w0 o s ⟨.v (.pointer (some ⟨g,j,none⟩)),[],[],[],[]⟩:=by
 have:=DK (w0:=w0) h c p d m l (Int.natCast_nonneg k) (by omega);simpa[f] using this
theorem aW{Z:Operand}{q a m f:Nat}{l:List Value}(_hd:o.dst=some q)(ho:o.op=.slice ty x (some Z) none none)(L:AQ ops o s)(hx:AE s x=.d id)(O:s.mem id=some (.row n f e (.exact l)))
 (hu:P.underlying ty=some (.slice e))(hs:∀w,(Go.sizeOf e).run P w=.ok f w)
 (N:AE s Z=.v (.int .i64 (a:Nat)))(V:a<=n)(M:l.drop (a*f)=l')(C:l.length=n*f)(Q:n-a=m):
 Ev P ops w0 o s ⟨.d q,[(q,.row m f e (.exact l'))],[id],[q],[id]⟩:=by
 subst Q;refine⟨by simp[Eff.ok],.inr ⟨L,λρ S w hb W=> ?_⟩⟩;have F:=T9 (a:=a) (b:=n) ho hx hu hs (BI O) N rfl V (yD _) ρ S w hb W;obtain⟨xs,g1,g2,U⟩:=w4 W O (by simp);have H:xs=l:=g2;subst H;have Y:=uC5 f V;have y:(n-a)*f=n*f-a*f:=Nat.sub_mul n a f
 have E:EC w w0.heap.size ⟨(ρ id).g,Ay a n f (ρ id).val⟩ (n-a) f e l':=by
  rcases U with⟨I,u⟩|⟨off,p,z,G,r,u,A,B,J,a0,a1,K⟩
  .left
   subst u;obtain rfl:a=0:=by omega
   refine⟨?_,rfl⟩;rw[I];simp[Ay]
  .right
   have a3:=uC5 f J;by_cases X:p=a
   .have R:n=a:=by omega
    refine⟨off,0,z,G,?_,u,A,B,by omega,by omega,by omega,?_⟩
    .rw[r];simp only[Ay,x9 X];rw[show n-a=0 by omega,show p-a=0 by omega]
    .rw[show n-a=0 by omega,Nat.zero_mul,List.take_zero,<-M,DB (by rw[C,R];exact yD _)]
   .have a4:(p-a)*f=p*f-a*f:=Nat.sub_mul p a f
    have a2:=uC5 f (show a<=p by omega);refine⟨off+a*f,p-a,z,G,?_,u,A,B,by omega,by omega,by omega,?_⟩
    .rw[r];simp[Ay,x8 X,Addr.add]
    .rw[<-M,<-K,List.drop_take,uD4,y]
 have D:Ay a n f (ρ id).val≠ .slice none 0 0->(ρ id).val≠ .slice none 0 0:=λh c=>by
  rcases U with⟨_,h0⟩|⟨off,p,z,G,r,_⟩
  .apply h;rw[c];obtain rfl:a=0:=by omega
   subst h0;simp[Ay]
  .rw[r]at c;cases c
 refine .inl ⟨_,w,F,λj=>if j=q then⟨(ρ id).g,Ay a n f (ρ id).val⟩else ρ j,λ_ _=>False,?_⟩
 have:=Cj (base:=w0.heap.size) (t:=s.mem) (ρ:=ρ) (S:=S) (w:=w) (w':=w) (val:=.d q) (rd:=[id]) (up:=[id]) (id:=q) (b:=.row (n-a) f e (.exact l')) (m:=⟨(ρ id).g,Ay a n f (ρ id).val⟩) (S1:=λ_=>False)
  rfl rfl rfl (yD _) (λk hk _=>rfl) (λa5 I _=>⟨l',by rw[<-M,zH,C,y],rfl,by rw[I];exact E⟩) (λ_ h=>h.elim)
  (λT=>.inl ⟨id,by simp,_,O,D T,rfl⟩)
 simpa[SV.c] using this
theorem Vy(w:World)(A J ty d:TypeId)(g o h m:Nat)(a:Addr)(l u:Nat)(c:Array Value)(t:TypeId)(y:Nat×Nat)(f:List Value)
 (H:P.underlying A=some (.slice d))(B:(P.info? d).map (·.size)=some 1)
 (D:w.heap[g]? =some (.cells c t y))(I:∀k,k<c.size-> ¬(y.1<=k/\k<y.2))(G:f.length=Nat.min l h)
 (q:∀j v,f[j]? =some v->w.cell? (a.add j)=some v)(p:o+f.length<=c.size)(C:∀v∈f,v.oneCell'=true):
 (Builtin.copy_ #[A,J] ty #[.slice (some ⟨g,o,none⟩) h m,.slice (some a) l u]).run P w=
  .ok (goInt f.length) (w.setRow g (c.toList.take o++f++c.toList.drop (o+f.length)).toArray):=by
 have F:=OR (P:=P) w a f q;have r:=Lu (P:=P) g o t y f 0 c w D I (by simpa using p) C;simp only[Nat.add_zero]at r;cases z:P.info? d with
 |none=>simp[z]at B
 |some i=>
  have E:i.size=1:=by simpa[z] using B
  simp[Builtin.copy_,yU H,Builtin.lenOf,Builtin.firstCells,sizeOf,typeInfo,z,E,<-G,F,r]
theorem oU{dT sT:TypeId}{y:Operand}{l f:List Value}{Y:SV}(ho:o.op=.call {callee:=.builtin .copy,args:=#[x,y],argTypes:=#[dT,sT]})(Q:AQ ops o s)
 (hx:AE s x=.d id)(W:s.mem id=some (.row n 1 e (.exact l)))(hy:AE s y=Y)(hr:Rdg w0 s.mem rd Y k 1 f)(R:P.underlying dT=some (.slice e))(hs:(P.info? e).map (·.size)=some 1)
 (a1:k<=n)(a0:0<k)(X:0<n)(h1:f.all (·.oneCell')=true)(E:f++l.drop k=l'):
 Ev P ops w0 o s ⟨.v (.int .i64 (k:Nat)),[(id,.row n 1 e (.exact l'))],[id],[],id::rd⟩:=
 Ev.wrv id _ _ _ _ Q W (by simp) λz S w hb V=>by
  have e1:=AI s z x;rw[hx]at e1;have I:=AI s z y;rw[hy]at I;obtain⟨xs,H,T,F⟩:=w4 V W (by simp);have G:xs=l:=T;subst G
  have O:RelOn w0.heap.size z S w (restr rd s.mem):=by
   have:=V.restr rd
   have e:restr rd (restr (id::rd) s.mem)=restr rd s.mem:=by
    funext j;unfold restr
    by_cases h:j∈rd<;>simp[h]
   rwa [e]at this
  obtain⟨S1,ao,Z,h3,h4,p,D⟩:=hr z S w hb O;rw[yQ]at p H;rcases D with D|⟨a,rfl,_,D⟩
  .exfalso;rw[D]at p;simp at p;omega
  rcases F with⟨_,h⟩|⟨off,A,m,U,t,J,B,C,K,L,M,N⟩
  .omega
  .rw[h3]at I
   simp only[SV.c,t]at e1;have q:=Vy (P:=P) w dT sT o.type e (z id).g off n A a k Z m e U f R hs B (NK C) (by rw[p];simp[Nat.min_def];omega) D (by rw[p];omega) (λu R=>y5.1 h1 u R);rw[p]at q
   have r:(m.toList.take off++f++m.toList.drop (off+k)).toArray.size=m.size:=by
    simp only[uD1,yM,z6,zH,Array.length_toList,p];omega
   refine⟨by simp only[Blk.owns];rw[t];simp,w.setRow (z id).g (m.toList.take off++f++m.toList.drop (off+k)).toArray,?_,⟨rfl,rfl,rfl,by simp,λj hj=>MT w _ j _ hj⟩,?_⟩
   .unfold execOp
    simp only[ho,resolve,invoke,builtin,Sem.run_bind,Sem.run_pure,Result.andThen_ok,List.map_toArray,List.map_cons,List.map_nil,e1,I,q,SV.c,goInt]
   .refine⟨l',by rw[<-E,yM,zH,p,H];omega,rfl,.inr ⟨off,A,_,U,t,J,ID w (z id).g m _ e _ B,by rw[r];exact C,K,L,by rw[r];exact M,?_⟩⟩
    rw[<-E,<-N,yQ];have ht:(m.toList.take off).length=off:=by rw[z6,Array.length_toList];omega
    rw[z7,uF3 (by omega),DB (by omega),List.nil_append];rw[List.take_append,p,zT (by omega),List.drop_take,uD4]
end
end Go.Vx
namespace TollSha
variable{a s:List Nat}
abbrev W:=BitVec 32
def rr(x:W)(n:Nat):W:=(x>>>n)|||(x<<<(32-n))
def g0(x:W):W:=rr x 7^^^rr x 18^^^(x>>>3)
def g1(x:W):W:=rr x 17^^^rr x 19^^^(x>>>10)
def e0(x:W):W:=rr x 2^^^rr x 13^^^rr x 22
def e1(x:W):W:=rr x 6^^^rr x 11^^^rr x 25
def ch(e f g:W):W:=g^^^(e &&& (f^^^g))
def mj(a b c:W):W:=(a &&& b)|||(c &&& (a|||b))
def Kn:List Nat:=[
 0x428a2f98,0x71374491,0xb5c0fbcf,0xe9b5dba5,0x3956c25b,0x59f111f1,0x923f82a4,0xab1c5ed5,
 0xd807aa98,0x12835b01,0x243185be,0x550c7dc3,0x72be5d74,0x80deb1fe,0x9bdc06a7,0xc19bf174,
 0xe49b69c1,0xefbe4786,0x0fc19dc6,0x240ca1cc,0x2de92c6f,0x4a7484aa,0x5cb0a9dc,0x76f988da,
 0x983e5152,0xa831c66d,0xb00327c8,0xbf597fc7,0xc6e00bf3,0xd5a79147,0x06ca6351,0x14292967,
 0x27b70a85,0x2e1b2138,0x4d2c6dfc,0x53380d13,0x650a7354,0x766a0abb,0x81c2c92e,0x92722c85,
 0xa2bfe8a1,0xa81a664b,0xc24b8b70,0xc76c51a3,0xd192e819,0xd6990624,0xf40e3585,0x106aa070,
 0x19a4c116,0x1e376c08,0x2748774c,0x34b0bcb5,0x391c0cb3,0x4ed8aa4a,0x5b9cca4f,0x682e6ff3,
 0x748f82ee,0x78a5636f,0x84c87814,0x8cc70208,0x90befffa,0xa4506ceb,0xbef9a3f7,0xc67178f2]
def K:List W:=Kn.map (BitVec.ofNat 32)
def be4(a b c d:Nat):W:=(((BitVec.ofNat 32 a)<<<24|||(BitVec.ofNat 32 b)<<<16)|||(BitVec.ofNat 32 c)<<<8)|||BitVec.ofNat 32 d
def Qs(b:List Nat)(i:Nat):W:=be4 (b.getD (4*i) 0) (b.getD (4*i+1) 0) (b.getD (4*i+2) 0) (b.getD (4*i+3) 0)
def YV(w:List W):W:=w.getD (w.length-16) 0#32+w.getD (w.length-7) 0#32+g0 (w.getD (w.length-15) 0#32)+g1 (w.getD (w.length-2) 0#32)
def Fv(b:List Nat):Nat->List W
 |0=>[]
 |n+1=>Fv b n++[Qs b n]
def Gp(w:List W):Nat->List W
 |0=>w
 |n+1=>Gp w n++[YV (Gp w n)]
def Vw(b:List Nat):List W:=Gp (Fv b 16) 48
structure St where
 a:W
 b:W
 c:W
 d:W
 e:W
 f:W
 g:W
 h:W
def H0:St:=⟨0x6a09e667#32,0xbb67ae85#32,0x3c6ef372#32,0xa54ff53a#32,0x510e527f#32,0x9b05688c#32,0x1f83d9ab#32,0x5be0cd19#32⟩
def St.l(s:St):List W:=[s.a,s.b,s.c,s.d,s.e,s.f,s.g,s.h]
def tA(s:St)(k w:W):W:=s.h+e1 s.e+ch s.e s.f s.g+k+w
def tB(s:St):W:=e0 s.a+mj s.a s.b s.c
def St.step(s:St)(k w:W):St:=⟨tA s k w+tB s,s.a,s.b,s.c,s.d+tA s k w,s.e,s.f,s.g⟩
def St.run(w:List W)(s:St):Nat->St
 |0=>s
 |n+1=>(St.run w s n).step (K.getD n 0#32) (w.getD n 0#32)
def St.add(s:St)(t:St):St:=⟨s.a+t.a,s.b+t.b,s.c+t.c,s.d+t.d,s.e+t.e,s.f+t.f,s.g+t.g,s.h+t.h⟩
def press(s:St)(b:List Nat):St:=s.add (St.run (Vw b) s 64)
def Bn(h:St)(b:List Nat):Nat->St
 |0=>h
 |n+1=>press (Bn h b n) ((b.drop (64*n)).take 64)
def Fc(x:W):List Nat:=[x.toNat/16777216 %256,x.toNat/65536 %256,x.toNat/256 %256,x.toNat %256]
def out(h:List W):List Nat:=h.flatMap Fc
def F4(n:Nat):List Nat:=[n/2^56 %256,n/2^48 %256,n/2^40 %256,n/2^32 %256,n/2^24 %256,n/2^16 %256,n/2^8 %256,n/2^0 %256]
def Cn(n:Nat):Nat:=(119-n %64) %64
def D3(s:List Nat):List Nat:=s++128::(List.replicate (Cn s.length) 0++F4 (8*s.length))
def sha(s:List Nat):List Nat:=out (Bn H0 (D3 s) ((D3 s).length/64)).l
def keyOf(k:List Nat):List Nat:=if k.length>64 then sha k else k
def D4(k:List Nat)(x:Nat):List Nat:=(List.range 64).map λi=>(k.getD i 0)^^^x
def CH(k s:List Nat):List Nat:=sha (D4 (keyOf k) 92++sha (D4 (keyOf k) 54++s))
theorem Oe(b:List Nat)(n:Nat):(Fv b n).length=n:=by
 induction n with
 |zero=>rfl
 |succ n ih=>simp[Fv,ih]
theorem Yi(w:List W)(n:Nat):(Gp w n).length=w.length+n:=by
 induction n with
 |zero=>rfl
 |succ n ih=>simp[Gp,ih];omega
theorem Xy(h:List W):(out h).length=4*h.length:=by
 induction h with
 |nil=>rfl
 |cons x r ih=>
  have:out (x::r)=Fc x++out r:=rfl;rw[this,yM,ih];show 4+_=4*(r.length+1);omega
theorem kV(h:List W):∀x∈out h,x<256:=by
 intro x c;simp only[out,List.mem_flatMap,Fc,List.mem_cons,List.not_mem_nil,or_false]at c;obtain⟨y,_,h⟩:=c;rcases h with rfl|rfl|rfl|rfl<;>exact yJ _ (by decide)
theorem kN(s:List Nat):(D3 s).length %64=0:=by
 simp only[D3,Cn,F4,yM,List.length_cons,uE5,List.length_nil];omega
theorem kM(h:∀x∈s,x<256):∀x∈D3 s,x<256:=by
 intro x c;simp only[D3,F4,uB3,List.mem_cons,List.mem_replicate,List.not_mem_nil,or_false]at c;rcases c with c|rfl|⟨_,rfl⟩|rfl|rfl|rfl|rfl|rfl|rfl|rfl|rfl
 .exact h x c
 .decide
 .decide
 all_goals exact yJ _ (by decide)
theorem sha_len(s:List Nat):(sha s).length=32:=by
 rw[sha,Xy];rfl
theorem SX{h:St}{a c:List Nat}:∀m,64*m<=a.length->Bn h (a++c) m=Bn h a m
 |0,_=>rfl
 |m+1,hm=>by
  have d:=SX (h:=h) (a:=a) (c:=c) m (by omega);simp only[Bn];rw[d,uF3 (by omega),uE7 (by rw[zH];omega)]
def nb(a:List Nat):Nat:=a.length/64
def stH(a:List Nat):St:=Bn H0 a (nb a)
def stW(a:List Nat):List Nat:=a.drop (64*nb a)
theorem KV(a:List Nat):64*nb a<=a.length:=by unfold nb;omega
theorem Vn(a:List Nat):(stW a).length=a.length %64:=by unfold stW nb;rw[zH];omega
theorem Vm(a:List Nat):(stW a).length<64:=by rw[Vn];exact yJ _ (by decide)
theorem eh(a p:List Nat):stW a++p=(a++p).drop (64*nb a):=by
 unfold stW;rw[uF3 (KV a)]
theorem ep(a p:List Nat):stH a=Bn H0 (a++p) (nb a):=(SX _ (KV a)).symm
theorem ak(a:List Nat)(m:Nat):(a.drop (64*m)).drop 64=a.drop (64*(m+1)):=by rw[uD4];congr 1
theorem o7{m:Nat}(d:64*m<=a.length)(c:(a.drop (64*m)).length<64):m=nb a:=by
 rw[zH]at c;unfold nb;omega
def Q8(a:List Nat):List Nat:=stW a++128::(List.replicate (Cn a.length) 0++F4 (8*a.length))
theorem eI(a:List Nat):Q8 a=(D3 a).drop (64*nb a):=by
 unfold Q8 D3 stW;rw[uF3 (KV a)]
theorem ei(a:List Nat):stH a=Bn H0 (D3 a) (nb a):=by
 unfold D3;exact(SX _ (KV a)).symm
theorem fT{m:Nat}(h:64*m=(D3 a).length):out (Bn H0 (D3 a) m).l=sha a:=by
 unfold sha;rw[<-h,Nat.mul_div_cancel_left _ (by decide)]
theorem lT(a:List Nat):64*nb a<=(D3 a).length:=by
 have:=KV a;simp only[D3,yM];omega
end TollSha
namespace Go.Proofs.YtafbhakmkbehiaaGreatDoor
open Go.RowKit Go.Vx
variable{a b:List Nat}{i j n x:Nat}{S:Nat->Prop}{v wv:Value}{w w':World}
open TollSha
def b8(b:Nat):Value:=.int .u8 (b:Int)
def uv(x:W):Value:=.int .u32 (x.toNat:Int)
theorem w32(x:W):IntKind.u32.wrap (x.toNat:Int)=(x.toNat:Int):=by
 have:=x.isLt;rw[IntKind.wrap_u32];omega
theorem KS(x:W):BitVec.ofInt 32 (x.toNat:Int)=x:=by
 apply BitVec.eq_of_toNat_eq;rw[uC6];have:=x.isLt;omega
theorem bx(x y:W):bits .xor .u32 (x.toNat:Int) (y.toNat:Int)=((x^^^y).toNat:Int):=by
 show IntKind.u32.wrap ((BitVec.ofInt 32 (x.toNat:Int)^^^BitVec.ofInt 32 (y.toNat:Int)).toNat:Int)=_;rw[KS,KS,w32]
theorem ba(x y:W):bits .and .u32 (x.toNat:Int) (y.toNat:Int)=((x &&& y).toNat:Int):=by
 show IntKind.u32.wrap ((BitVec.ofInt 32 (x.toNat:Int) &&& BitVec.ofInt 32 (y.toNat:Int)).toNat:Int)=_;rw[KS,KS,w32]
theorem boS(x y:W):bits .or .u32 (x.toNat:Int) (y.toNat:Int)=((x|||y).toNat:Int):=by
 show IntKind.u32.wrap ((BitVec.ofInt 32 (x.toNat:Int)|||BitVec.ofInt 32 (y.toNat:Int)).toNat:Int)=_;rw[KS,KS,w32]
theorem dJ(x y:W):BOy .xor 247 (uv x) (uv y) (uv (x^^^y)):=by
 intro p q w
 have h:=bx x y;unfold uv
 go_simp
 try exact h
theorem Ua(x y:W):BOy .and 247 (uv x) (uv y) (uv (x &&& y)):=by
 intro p q w
 have h:=ba x y;unfold uv
 go_simp
 try exact h
theorem kf(x y:W):BOy .or 247 (uv x) (uv y) (uv (x|||y)):=by
 intro p q w
 have h:=boS x y;unfold uv
 go_simp
 try exact h
theorem sA(x y:W):BOy .add 247 (uv x) (uv y) (uv (x+y)):=by
 intro p q w
 have h:IntKind.u32.wrap ((x.toNat:Int)+(y.toNat:Int))=((x+y).toNat:Int):=by rw[IntKind.wrap_u32,BitVec.toNat_add];omega
 unfold uv
 go_simp
 try exact h
theorem OZ(x:W)(k:Nat)(f:k<32):BOy .shl 247 (uv x) (.int .u64 (k:Nat)) (uv (x<<<k)):=by
 intro p q w
 have c:(x<<<k).toNat=(x.toNat*2^k) %4294967296:=by rw[BitVec.toNat_shiftLeft,Nat.shiftLeft_eq]
 have h:IntKind.u32.wrap ((x.toNat:Int)*2^k)=((x.toNat*2^k %4294967296:Nat):Int):=by
  rw[IntKind.wrap_u32];have:((x.toNat:Int)*2^k)=((x.toNat*2^k:Nat):Int):=by rw[Int.natCast_mul,Int.natCast_pow];rfl
  rw[this];omega
 unfold uv;rw[c];generalize x.toNat=y at h;obtain⟨z,d⟩:∃z,y*2^k %4294967296=z:=⟨_,rfl⟩
 rw[d]at h⊢
 go_simp
 try rw[Nat.min_eq_left (by omega)]
 try exact h
theorem KB(x:W)(k:Nat)(c:k<32):BOy .shr 247 (uv x) (.int .u64 (k:Nat)) (uv (x>>>k)):=by
 intro p q w
 have h:(x>>>k).toNat=x.toNat/2^k:=by rw[BitVec.toNat_ushiftRight,Nat.shiftRight_eq_div_pow]
 unfold uv;rw[h]
 go_simp
 try rw[Nat.min_eq_left (by omega)]
theorem pJ{b:Nat}(h:b<256)(w:World):(convert 5 247 (b8 b)).run prog w=.ok (uv (BitVec.ofNat 32 b)) w:=by
 have e:(BitVec.ofNat 32 b).toNat=b:=by rw[BitVec.toNat_ofNat];omega
 have c:IntKind.u32.wrap (b:Int)=(b:Int):=by rw[IntKind.wrap_u32];omega
 unfold uv b8 convert;rw[e]
 go_simp
 try exact c
theorem lP(h:n<32)(w:World):(Op.unary .neg (.int .i64 (n:Nat))).run prog w=.ok (.int .i64 (-(n:Int))) w:=by
 have e:IntKind.i64.wrap (-(n:Int))= -(n:Int):=Ah (by omega) (by omega);unfold Op.unary
 go_simp
theorem cvn(c:0<n)(h:n<32)(w:World):(convert 3 125 (.int .i64 (-(n:Int)))).run prog w=.ok (.int .u64 ((18446744073709551616-n:Nat):Int)) w:=by
 unfold convert
 go_simp
 rw[uB6];omega
theorem ri(g:0<n)(h:n<32):BOy .and 125 (.int .u64 ((18446744073709551616-n:Nat):Int)) (.int .u64 31) (.int .u64 ((32-n:Nat):Int)):=by
 intro p q w
 have c:bits .and .u64 ((18446744073709551616-n:Nat):Int) 31=((32-n:Nat):Int):=by
  show IntKind.u64.wrap ((BitVec.ofInt 64 ((18446744073709551616-n:Nat):Int) &&& BitVec.ofInt 64 31).toNat:Int)=_;rw[BitVec.toNat_and,uC6,uC6];have d:(((18446744073709551616-n:Nat):Int) %((2^64:Nat):Int)).toNat=18446744073709551616-n:=by omega
  have f:((31:Int) %((2^64:Nat):Int)).toNat=2^5-1:=by decide
  rw[d,f,Nat.and_two_pow_sub_one_eq_mod,uB6];omega
 generalize 18446744073709551616-n=m at c
 go_simp
 try exact c
theorem fe(h:n<32):BOy .sub 125 (.int .u64 32) (.int .u64 ((32-n:Nat):Int)) (.int .u64 ((n:Nat):Int)):=by
 intro p q w
 have e:IntKind.u64.wrap (32-((32-n:Nat):Int))=(n:Int):=by rw[uB6];omega
 generalize 32-n=m at e
 go_simp
 try exact e
theorem gC(x:W)(c:0<n)(h:n<32)(w:World):CBy 193 #[uv x,.int .i64 (-(n:Int))] w (uv ((x<<<(32-n))|||(x>>>n))):=by
 go_enter func193,ntmps193
 refine A4 ?_;iterate 7 refine dO ?_
 refine iD (by exact B1 rfl gg rfl (λw=>cvn c h w)) ?_;refine iD (by exact AK rfl gg rfl rfl (λw=>ri c h _ _ w)) ?_;iterate 6 refine dO ?_
 refine iD (by exact AK rfl gg rfl rfl (λw=>OZ x (32-n) (by omega) _ _ w)) ?_;iterate 2 refine dO ?_
 refine iD (by exact AK rfl gg rfl rfl (λw=>fe h _ _ w)) ?_;refine iD (by exact AK rfl gg rfl rfl (λw=>KB x n (by omega) _ _ w)) ?_;refine K3 ?_;iterate 2 refine dO ?_
 exact AG (AD (AH results193 (AF rfl)) λ_ _ d=>⟨rfl,d.1⟩)
theorem Ga(x:W)(c:0<n)(h:n<32)(w:World):CBy 189 #[uv x,.int .i64 (n:Nat)] w (uv (rr x n)):=by
 go_enter func189,ntmps189
 refine A4 ?_;iterate 8 refine dO ?_
 refine iD (by exact NR rfl gg rfl (λw=>lP h w)) ?_;refine iD (by exact Ad (v:=uv (rr x n)) rfl gg rfl (eo func193) (λw' g=>by have:=gC x c h w';rw[BitVec.or_comm]at this;exact this)) ?_;iterate 2 refine dO ?_
 exact AG (AD (AH results189 (AF rfl)) λ_ _ d=>⟨rfl,d.1⟩)
def WL(l:List W):List Value:=l.map uv++List.replicate (64-l.length) (uv 0#32)
theorem ci{l:List W}(h:l.length<=64):(WL l).length=64:=by simp[WL];omega
theorem Nt{l:List W}(h:j<l.length):(WL l)[j]? =some (uv (l.getD j 0#32)):=by
 rw[WL,uB5 (by simpa using h)];simp[List.getD,h]
theorem cg{l:List W}(x:W)(h:l.length<64):(WL l).take l.length++[uv x]++(WL l).drop (l.length+1)=WL (l++[x]):=by
 have c:(WL l).take l.length=l.map uv:=by rw[WL,uE7 (by simp),zT (by simp)]
 have d:(WL l).drop (l.length+1)=List.replicate (64-(l.length+1)) (uv 0#32):=by
  rw[WL,uC3,DB (by simp),List.nil_append,List.drop_replicate];congr 1
  simp;omega
 rw[c,d,WL,SW,yM];rfl
theorem Sr(c:n<=1000):BOy .mul 3 (.int .i64 4) (.int .i64 (n:Nat)) (.int .i64 ((4*n:Nat):Int)):=by
 intro p q w
 have e:IntKind.i64.wrap (4*(n:Int))=((4*n:Nat):Int):=by rw[Ah (by omega) (by omega)];omega
 go_simp
 try exact e
theorem qZ(a b c d e f g h:W):prog.built 248 [(0,uv a),(1,uv b),(2,uv c),(3,uv d),(4,uv e),(5,uv f),(6,uv g),(7,uv h)]=some #[uv a,uv b,uv c,uv d,uv e,uv f,uv g,uv h]:=by kernel_rfl
def B6(w:World):Prop:= ∀i,i<64->w.cell? ⟨7,i,none⟩=some (uv (K.getD i 0#32))
theorem B6.bw(h:B6 w)(c:Bw w w'):B6 w':=λi d=>c.cell (h i d)
theorem CL(a c:Nat):decide ((a:Int)<(c:Int))=decide (a<c):=zM.2 (by omega)
theorem Nf(f:AO w v 64 1 (b.map b8) S)(l:b.length=64)(hi:i<16):
 AO w (Ay (4*i) (4*i+4) 1 v) 4 1 [b8 (b.getD (4*i) 0),b8 (b.getD (4*i+1) 0),b8 (b.getD (4*i+2) 0),b8 (b.getD (4*i+3) 0)] S:=by
 have h:=Iw (lo:=4*i) (hi:=4*i+4) f (by omega) (by omega)
 have d:(((b.map b8).drop (4*i*1)).take ((4*i+4-4*i)*1))=[b8 (b.getD (4*i) 0),b8 (b.getD (4*i+1) 0),b8 (b.getD (4*i+2) 0),b8 (b.getD (4*i+3) 0)]:=by
  rw[yQ,yQ,show 4*i+4-4*i=4 by omega];have g:∀j,j<64->b[j]? =some (b.getD j 0):=λj c=>by simp[List.getD,show j<b.length by omega]
  apply uB1;intro j;rw[zP];by_cases c:j<4
  .rw[x9 c,zQ,zC,g (4*i+j) (by omega)]
   have:j=0\/j=1\/j=2\/j=3:=by omega
   rcases this with rfl|rfl|rfl|rfl<;>rfl
  .rw[x8 c,D0 (by simp;omega)]
 rw[d,show 4*i+4-4*i=4 by omega]at h;exact h
theorem P6(h:∀x∈b,x<256)(j:Nat):b.getD j 0<256:=by
 by_cases c:j<b.length
 .simp[List.getD,c];exact h _ (List.getElem_mem c)
 .simp[List.getD,c]
theorem Xg(s:St)(w:World)(T:B6 w)(hv:AO w v 64 1 (b.map b8) S)(hb:b.length=64)(h8:∀x∈b,x<256):CBy 176 #[.agg #[uv (s).a,uv (s).b,uv (s).c,uv (s).d,uv (s).e,uv (s).f,uv (s).g,uv (s).h],v] w (.agg #[uv (press s b).a,uv (press s b).b,uv (press s b).c,uv (press s b).d,uv (press s b).e,uv (press s b).f,uv (press s b).g,uv (press s b).h]):=by
 obtain⟨y,z⟩:∃y,Fv b 16=y:=⟨_,rfl⟩
 have u:y.length=16:=by rw[<-z,Oe]
 obtain⟨m,A⟩:∃m,Gp y 48=m:=⟨_,rfl⟩
 have U:m.length=64:=by rw[<-A,Yi,u]
 have hs1:∀i,i<16->(WL (Fv b i)).take i++(uv (Qs b i)).cells.toList++(WL (Fv b i)).drop (i+1)=WL (Fv b (i+1)):=λi R=>by
  have:=cg (l:=Fv b i) (Qs b i) (by rw[Oe];omega);rw[Oe]at this;exact this
 go_enter func176,ntmps176
 refine A4 ?_;iterate 3 refine dO ?_
 refine iD (by exact BZ rfl rfl gg zeroValue248) ?_;iterate 3 refine dO ?_
 refine iD (by exact NW (l:=WL []) rfl rfl gg zeroValue262 rfl) ?_;iterate 7 refine dO ?_
 refine Bo (α:={i:Nat // i<=16}) (fun(x:{i:Nat // i<=16}) f=>⟨.v (f 0)::.v v::.p 2 0::.v (f 3)::.p 4 0::.p 5 0::fv f 16 6 (.v (.int .i64 (x.1:Nat))::fv f 184 23 []),AJ [(5,.arr (WL (Fv b x.1)) 262),(4,.cells [.v (.int .u32 0),.v (.int .u32 0),.v (.int .u32 0),.v (.int .u32 0),.v (.int .u32 0),.v (.int .u32 0),.v (.int .u32 0),.v (.int .u32 0)] 248),(2,.cells [.v (uv s.a),.v (uv s.b),.v (uv s.c),.v (uv s.d),.v (uv s.e),.v (uv s.f),.v (uv s.g),.v (uv s.h)] 248)]⟩) (λx=>16-x.1) ?_ (⟨0,y6 _⟩) ?_
 .rintro⟨i,R⟩ f
  obtain⟨q,B⟩:∃q,decide (i<16)=q:=⟨_,rfl⟩
  have H:=(CL i 16).trans B;change VOk _ _ _ _ _;simp only[fv,Nat.reduceAdd];iterate 2 refine dO ?_
  refine iD (by exact BM rfl gg rfl rfl H) ?_;iterate 2 refine dO ?_
  cases q
  .refine dO ?_
   have J:i=16:=by have:=yC B;omega
   subst J;rw[z];refine As ?_;change VOk _ _ _ _ _;iterate 6 refine dO ?_
   refine Bo (α:={i:Nat // i<=48}) (fun(x:{i:Nat // i<=48}) f=>⟨.v (f 0)::.v (f 1)::.p 2 0::.v (f 3)::.p 4 0::.p 5 0::.v (f 6)::.v (f 7)::.v (.int .i64 ((16+x.1:Nat):Int))::fv f 198 9 [],AJ [(5,.arr (WL (Gp y x.1)) 262),(4,.cells [.v (.int .u32 0),.v (.int .u32 0),.v (.int .u32 0),.v (.int .u32 0),.v (.int .u32 0),.v (.int .u32 0),.v (.int .u32 0),.v (.int .u32 0)] 248),(2,.cells [.v (uv s.a),.v (uv s.b),.v (uv s.c),.v (uv s.d),.v (uv s.e),.v (uv s.f),.v (uv s.g),.v (uv s.h)] 248)]⟩) (λx=>48-x.1) ?_ (⟨0,y6 _⟩) ?_
   .rintro⟨i,R⟩ f
    obtain⟨W,r⟩:∃q,decide (16+i<64)=q:=⟨_,rfl⟩
    have C:=(CL (16+i) 64).trans r;obtain⟨M,G⟩:∃M,Gp y i=M:=⟨_,rfl⟩
    have hMl:M.length=16+i:=by rw[<-G,Yi,u]
    rw[G];change VOk _ _ _ _ _;simp only[fv,Nat.reduceAdd];iterate 4 refine dO ?_
    refine iD (by exact BM rfl gg rfl rfl C) ?_;refine dO ?_;cases W
    .refine dO ?_
     have F:i=48:=by have:=yC r;omega
     have N:M=m:=by rw[<-G,F];exact A
     clear G;subst F;rw[N];refine As ?_;refine Ki ?_
     refine Du ?_;refine Dt ?_;refine Du ?_;refine Dt ?_;refine Du ?_;refine Dt ?_;refine Du ?_;refine Dt ?_;refine Du ?_;refine Dt ?_;refine Du ?_;refine Dt ?_;refine Du ?_;refine Dt ?_;refine Du ?_;refine Dt ?_;iterate 15 refine dO ?_
     refine Bo (α:={i:Nat // i<=64}) (fun(x:{i:Nat // i<=64}) f=>⟨.v (f 0)::.v (f 1)::.p 2 0::.v (f 3)::.p 4 0::.p 5 0::.v (f 6)::.v (f 7)::.v (f 8)::.v (f 9)::.v (f 10)::.v (uv (St.run m s x.1).a)::.v (uv (St.run m s x.1).b)::.v (uv (St.run m s x.1).c)::.v (uv (St.run m s x.1).d)::.v (uv (St.run m s x.1).e)::.v (uv (St.run m s x.1).f)::.v (uv (St.run m s x.1).g)::.v (uv (St.run m s x.1).h)::fv f 95 19 (.v (.int .i64 (x.1:Nat))::fv f 92 115 []),AJ [(5,.arr (WL (m)) 262),(4,.cells [.v (.int .u32 0),.v (.int .u32 0),.v (.int .u32 0),.v (.int .u32 0),.v (.int .u32 0),.v (.int .u32 0),.v (.int .u32 0),.v (.int .u32 0)] 248),(2,.cells [.v (uv s.a),.v (uv s.b),.v (uv s.c),.v (uv s.d),.v (uv s.e),.v (uv s.f),.v (uv s.g),.v (uv s.h)] 248)]⟩) (λx=>64-x.1) ?_ (⟨0,y6 _⟩) ?_
     .rintro⟨j,Y⟩ f
      obtain⟨X,t⟩:∃q,decide (j<64)=q:=⟨_,rfl⟩
      have D:=(CL j 64).trans t;obtain⟨Q,O⟩:∃Q,St.run m s j=Q:=⟨_,rfl⟩
      rw[O];change VOk _ _ _ _ _;simp only[fv,Nat.reduceAdd];iterate 2 refine dO ?_
      refine iD (by exact BM rfl gg rfl rfl D) ?_;iterate 2 refine dO ?_
      cases X
      .refine dO ?_
       have L:j=64:=by have:=yC t;omega
       subst L;refine As ?_;refine Ki ?_
       refine Du ?_;refine Dt ?_;refine F5 ?_;refine Du ?_;refine Dt ?_;refine F5 ?_;refine Du ?_;refine Dt ?_;refine F5 ?_;refine Du ?_;refine Dt ?_;refine F5 ?_;refine Du ?_;refine Dt ?_;refine F5 ?_;refine Du ?_;refine Dt ?_;refine F5 ?_;refine Du ?_;refine Dt ?_;refine F5 ?_;refine Du ?_;refine Dt ?_;refine F5 ?_;refine iD (by exact A6 rfl gg rfl (qZ _ _ _ _ _ _ _ _)) ?_;refine Pj ?_;refine dO ?_;refine AG ?_;refine AD (AH results176 (Ac rfl rfl uA4 rfl sizeOf248 rfl rfl)) ?_;intro Z w' V;refine⟨?_,V.1⟩;have e:press s b=s.add Q:=by unfold press Vw;rw[z,A,O]
       rw[e];rfl
      .refine dO ?_
       have I:j<64:=yA t;iterate 12 refine dO ?_
       refine iD (by exact Ad (v:=uv (rr (Q.e) 6)) rfl gg rfl (eo func189) (λw' hb=>Ga (Q.e) (by decide) (by decide) w')) ?_;refine dO ?_;refine iD (by exact Ad (v:=uv (rr (Q.e) 11)) rfl gg rfl (eo func189) (λw' hb=>Ga (Q.e) (by decide) (by decide) w')) ?_;refine Gu ?_;refine dO ?_;refine iD (by exact Ad (v:=uv (rr (Q.e) 25)) rfl gg rfl (eo func189) (λw' hb=>Ga (Q.e) (by decide) (by decide) w')) ?_;refine Gu ?_;refine F8 ?_;iterate 4 refine dO ?_
       refine Gu ?_;refine iD (by exact AK rfl gg rfl rfl (λw=>Ua _ _ _ _ w)) ?_;refine Gu ?_;refine F8 ?_;refine dO ?_;refine iD (by exact oM (k:=j) (j:=j) rfl gg rfl rfl uC7 RW (by omega) (by omega)) ?_;refine iD (by exact BR rfl gg rfl uA5 rfl (T j (by omega))) ?_;refine F8 ?_;refine dO ?_;refine iD (by exact GH (k:=j) (j:=j) rfl gg rfl rfl uC7 RW (by omega) (by omega)) ?_;refine iD (by exact NT (v:=uv (m.getD j 0#32)) rfl gg rfl rfl uA5 rfl (Nt (by omega))) ?_;refine F8 ?_;iterate 5 refine dO ?_
       refine iD (by exact Ad (v:=uv (rr (Q.a) 2)) rfl gg rfl (eo func189) (λw' hb=>Ga (Q.a) (by decide) (by decide) w')) ?_;refine dO ?_;refine iD (by exact Ad (v:=uv (rr (Q.a) 13)) rfl gg rfl (eo func189) (λw' hb=>Ga (Q.a) (by decide) (by decide) w')) ?_;refine Gu ?_;refine dO ?_;refine iD (by exact Ad (v:=uv (rr (Q.a) 22)) rfl gg rfl (eo func189) (λw' hb=>Ga (Q.a) (by decide) (by decide) w')) ?_;refine Gu ?_;iterate 2 refine dO ?_
       refine iD (by exact AK rfl gg rfl rfl (λw=>Ua _ _ _ _ w)) ?_;iterate 3 refine dO ?_
       refine K3 ?_;refine iD (by exact AK rfl gg rfl rfl (λw=>Ua _ _ _ _ w)) ?_;refine K3 ?_;refine F8 ?_;iterate 8 refine dO ?_
       refine F8 ?_;iterate 5 refine dO ?_
       refine F8 ?_;iterate 10 refine dO ?_
       refine iD (by exact BE (c:=((j+1:Nat):Int)) rfl gg rfl rfl (by rw[Ah (by omega) (by omega)];omega)) ?_;iterate 2 refine dO ?_
       refine⟨⟨j+1,by omega⟩,by show 64-(j+1)<64-j;omega,?_⟩;have E:St.run m s (j+1)=Q.step (K.getD j 0#32) (m.getD j 0#32):=by rw[<-O];rfl
       simp only[E];exact Ar (λi=>i==2||i==4||i==5||i==11||i==12||i==13||i==14||i==15||i==16||i==17||i==18||i==114) []
     .exact Ar (λi=>i==2||i==4||i==5||i==11||i==12||i==13||i==14||i==15||i==16||i==17||i==18||i==114) []
    .refine dO ?_
     have I:16+i<64:=yA r;iterate 6 refine dO ?_
     refine iD (by exact Bu (c:=((1+i:Nat):Int)) rfl gg rfl rfl (by rw[Ah (by omega) (by omega)];omega)) ?_;refine iD (by exact GH (k:=1+i) (j:=1+i) rfl gg rfl rfl uC7 RW (by omega) (by omega)) ?_;refine iD (by exact NT (v:=uv (M.getD (1+i) 0#32)) rfl gg rfl rfl uA5 rfl (Nt (by omega))) ?_;refine dO ?_;refine iD (by exact Bu (c:=((14+i:Nat):Int)) rfl gg rfl rfl (by rw[Ah (by omega) (by omega)];omega)) ?_;refine iD (by exact GH (k:=14+i) (j:=14+i) rfl gg rfl rfl uC7 RW (by omega) (by omega)) ?_;refine iD (by exact NT (v:=uv (M.getD (14+i) 0#32)) rfl gg rfl rfl uA5 rfl (Nt (by omega))) ?_;iterate 6 refine dO ?_
     refine iD (by exact Bu (c:=((i:Nat):Int)) rfl gg rfl rfl (by rw[Ah (by omega) (by omega)];omega)) ?_;refine iD (by exact GH (k:=i) (j:=i) rfl gg rfl rfl uC7 RW (by omega) (by omega)) ?_;refine iD (by exact NT (v:=uv (M.getD i 0#32)) rfl gg rfl rfl uA5 rfl (Nt (by omega))) ?_;refine dO ?_;refine iD (by exact Bu (c:=((9+i:Nat):Int)) rfl gg rfl rfl (by rw[Ah (by omega) (by omega)];omega)) ?_;refine iD (by exact GH (k:=9+i) (j:=9+i) rfl gg rfl rfl uC7 RW (by omega) (by omega)) ?_;refine iD (by exact NT (v:=uv (M.getD (9+i) 0#32)) rfl gg rfl rfl uA5 rfl (Nt (by omega))) ?_;refine F8 ?_;refine dO ?_;refine iD (by exact Ad (v:=uv (rr ((M.getD (1+i) 0#32)) 7)) rfl gg rfl (eo func189) (λw' hb=>Ga ((M.getD (1+i) 0#32)) (by decide) (by decide) w')) ?_;refine dO ?_;refine iD (by exact Ad (v:=uv (rr ((M.getD (1+i) 0#32)) 18)) rfl gg rfl (eo func189) (λw' hb=>Ga ((M.getD (1+i) 0#32)) (by decide) (by decide) w')) ?_;refine Gu ?_;refine dO ?_;refine iD (by exact AK rfl gg rfl rfl (λw=>KB _ 3 (by decide) _ _ w)) ?_;refine Gu ?_;refine F8 ?_;refine dO ?_;refine iD (by exact Ad (v:=uv (rr ((M.getD (14+i) 0#32)) 17)) rfl gg rfl (eo func189) (λw' hb=>Ga ((M.getD (14+i) 0#32)) (by decide) (by decide) w')) ?_;refine dO ?_;refine iD (by exact Ad (v:=uv (rr ((M.getD (14+i) 0#32)) 19)) rfl gg rfl (eo func189) (λw' hb=>Ga ((M.getD (14+i) 0#32)) (by decide) (by decide) w')) ?_;refine Gu ?_;refine dO ?_;refine iD (by exact AK rfl gg rfl rfl (λw=>KB _ 10 (by decide) _ _ w)) ?_;refine Gu ?_;refine F8 ?_;refine iD (by exact GH (k:=16+i) (j:=16+i) rfl gg rfl rfl uC7 RW (by omega) (by omega)) ?_;refine ZH ?_;iterate 3 refine dO ?_
     refine iD (by exact BE (c:=((16+i+1:Nat):Int)) rfl gg rfl rfl (by rw[Ah (by omega) (by omega)];omega)) ?_;iterate 2 refine dO ?_
     refine⟨⟨i+1,by omega⟩,by show 48-(i+1)<48-i;omega,?_⟩
     have E:M++[M.getD i 0#32+M.getD (9+i) 0#32+(rr (M.getD (1+i) 0#32) 7^^^rr (M.getD (1+i) 0#32) 18^^^M.getD (1+i) 0#32>>>3)+(rr (M.getD (14+i) 0#32) 17^^^rr (M.getD (14+i) 0#32) 19^^^M.getD (14+i) 0#32>>>10)]=Gp y (i+1):=by
      simp only[Gp,YV,G,hMl,g0,g1];rw[show 16+i-16=i by omega,show 16+i-7=9+i by omega,show 16+i-15=1+i by omega,show 16+i-2=14+i by omega]
     rw[E];exact Ar (λi=>i==2||i==4||i==5||i==8) []
   .exact Ar (λi=>i==2||i==4||i==5||i==8) []
  .refine dO ?_
   have I:i<16:=yA B;iterate 12 refine dO ?_
   refine iD (by exact AK rfl gg rfl rfl (λw=>Sr (n:=i) (by omega) _ _ w)) ?_;refine dO ?_;refine iD (by exact AK rfl gg rfl rfl (λw=>Sr (n:=i) (by omega) _ _ w)) ?_;refine iD (by exact BE (c:=((4*i+4:Nat):Int)) rfl gg rfl rfl (by rw[Ah (by omega) (by omega)];omega)) ?_;refine iD (by exact Fa (a:=4*i) (b:=4*i+4) (v':=Ay (4*i) (4*i+4) 1 v) rfl gg rfl x7 yG (AW hv) rfl rfl (by omega) (by omega) rfl) ?_;iterate 5 refine dO ?_
   refine iD (by exact Bc (k:=0) rfl gg rfl rfl x7 yG (AW (Nf hv hb (by omega))) (by decide) (by decide)) ?_;refine Pr ?_;refine Ph ?_;refine iD (by exact AK rfl gg rfl rfl (λw=>OZ _ 24 (by decide) _ _ w)) ?_;refine dO ?_;refine iD (by exact Bc (k:=1) rfl gg rfl rfl x7 yG (AW (Nf hv hb (by omega))) (by decide) (by decide)) ?_;refine Pr ?_;refine Ph ?_;refine iD (by exact AK rfl gg rfl rfl (λw=>OZ _ 16 (by decide) _ _ w)) ?_;refine K3 ?_;refine dO ?_;refine iD (by exact Bc (k:=2) rfl gg rfl rfl x7 yG (AW (Nf hv hb (by omega))) (by decide) (by decide)) ?_;refine Pr ?_;refine Ph ?_;refine iD (by exact AK rfl gg rfl rfl (λw=>OZ _ 8 (by decide) _ _ w)) ?_;refine K3 ?_;refine dO ?_;refine iD (by exact Bc (k:=3) rfl gg rfl rfl x7 yG (AW (Nf hv hb (by omega))) (by decide) (by decide)) ?_;refine Pr ?_;refine Ph ?_;refine K3 ?_;refine iD (by exact GH (k:=i) (j:=i) rfl gg rfl rfl uC7 RW (by omega) (by omega)) ?_;refine ZH ?_;iterate 2 refine dO ?_
   refine ER ?_;iterate 2 refine dO ?_
   refine⟨⟨i+1,by omega⟩,by show 16-(i+1)<16-i;omega,?_⟩;exact Ar (λi=>i==1||i==2||i==4||i==5||i==22) []
 .exact Ar (λi=>i==1||i==2||i==4||i==5||i==22) []
theorem el5:DT prog 5 1 1:=by unfold DT;kernel_rfl
theorem DR(c:List Nat):(c.map b8).all (·.oneCell')=true:=by
 rw[List.all_map];exact y5.2 λ_ _=>rfl
theorem Cr(a c:Nat):decide ((a:Int)>(c:Int))=decide (a>c):=zM.2 (by omega)
theorem A5{d:Nat}{l:List Value}(h:AO w v n d l S)(u:Bw w w'):AO w' v n d l S:=by
 obtain⟨m,f,p,q,r,t⟩:=h;exact⟨m,f,p,q,r,t.imp id λ⟨g,a,b,c⟩=>⟨g,a,b,λi x y=>u.cell (c i x y)⟩⟩
theorem Im{c:Type}{l:List c}{x:c}(h:l[i]? =some x):l.take (i+1)=l.take i++[x]:=by
 obtain⟨d,e⟩:=uD0.1 h;rw[List.take_succ_eq_append_getElem d,e]
def HH(a:List Nat)(wv:Value):List Value:=[uv (stH a).a,uv (stH a).b,uv (stH a).c,uv (stH a).d,uv (stH a).e,uv (stH a).f,uv (stH a).g,uv (stH a).h,wv,.int .i64 (a.length:Nat)]
def ck(w:World)(g:Nat)(wv:Value)(a:List Nat):Prop:= ∀j v,(HH a wv)[j]? =some v->w.cell? ⟨g,j,none⟩=some v
theorem Xe(a:Addr):BOy .eql 211 (.pointer (some a)) (.pointer none) (.bool false):=by
 intro p q w
 go_simp
theorem gX(x:Nat):BOy .rem 3 (.int .i64 (x:Nat)) (.int .i64 64) (.int .i64 ((x %64:Nat):Int)):=by
 intro p q w
 have c:((x:Int).tmod 64)=((x %64:Nat):Int):=by rw[uD5 (Int.natCast_nonneg _)];rfl
 go_simp
 all_goals (try exact c)
 all_goals (try omega)
theorem pI(c:x<1099511627776)(w:World):(convert 3 49 (.int .i64 (x:Nat))).run prog w=.ok (.int .u64 ((x:Nat):Int)) w:=by
 have e:IntKind.u64.wrap (x:Int)=(x:Int):=by rw[uB6];omega
 unfold convert
 go_simp
 try exact e
theorem fS(c:x<1099511627776):BOy .shl 49 (.int .u64 (x:Nat)) (.int .u64 3) (.int .u64 ((8*x:Nat):Int)):=by
 intro p q w
 have e:IntKind.u64.wrap ((x:Int)*8)=((8*x:Nat):Int):=by rw[uB6];omega
 go_simp
 try exact e
 try omega
theorem lc(c:n<=1000):BOy .mul 3 (.int .i64 8) (.int .i64 (n:Nat)) (.int .i64 ((8*n:Nat):Int)):=by
 intro p q w
 have e:IntKind.i64.wrap (8*(n:Int))=((8*n:Nat):Int):=by rw[Ah (by omega) (by omega)];omega
 go_simp
 try exact e
theorem fQ(m k:Nat)(d:k<64):BOy .shr 49 (.int .u64 (m:Nat)) (.int .i64 (k:Nat)) (.int .u64 ((m/2^k:Nat):Int)):=by
 intro p q w
 have c: ¬((k:Int)<0):=by omega
 go_simp
 try simp[c]
 try rw[Nat.min_eq_left (by omega)]
theorem pG(x:Nat)(w:World):(convert 49 5 (.int .u64 (x:Nat))).run prog w=.ok (b8 (x %256)) w:=by
 have e:IntKind.u8.wrap (x:Int)=((x %256:Nat):Int):=by rw[uD8];omega
 unfold convert b8
 go_simp
 try exact e
theorem pH(x:W)(w:World):(convert 247 5 (uv x)).run prog w=.ok (b8 (x.toNat %256)) w:=by
 have e:IntKind.u8.wrap (x.toNat:Int)=((x.toNat %256:Nat):Int):=by rw[uD8];omega
 unfold convert b8 uv;generalize x.toNat=y at e;obtain⟨z,c⟩:∃z,y %256=z:=⟨_,rfl⟩
 rw[c]at e⊢
 go_simp
 try exact e
theorem mI{m:Nat}(h:i<8):(F4 m)[i]? =some (m/2^(8*(7-i)) %256):=by
 have:i=0\/i=1\/i=2\/i=3\/i=4\/i=5\/i=6\/i=7:=by omega
 rcases this with rfl|rfl|rfl|rfl|rfl|rfl|rfl|rfl<;>rfl
theorem kP(h:x<=Cn n):decide ((((n %64+1+x) %64:Nat):Int)≠56)=decide (x<Cn n):=by
 unfold Cn at*;exact zM.2 (by omega)
def OL(l:List Nat):List Value:=l.map b8++List.replicate (32-l.length) (b8 0)
theorem Fi{l:List Nat}(h:l.length<=32):(OL l).length=32:=by simp[OL];omega
theorem Qn{l:List Nat}(x:Nat){k:Nat}(f:k=l.length)(h:l.length<32):(OL l).take k++(b8 x).cells.toList++(OL l).drop (k+1)=OL (l++[x]):=by
 subst f;have c:(OL l).take l.length=l.map b8:=by rw[OL,uE7 (by simp),zT (by simp)]
 have d:(OL l).drop (l.length+1)=List.replicate (32-(l.length+1)) (b8 0):=by
  rw[OL,uC3,DB (by simp),List.nil_append,List.drop_replicate];congr 1
  simp;omega
 rw[c,d,OL,SW,yM];rfl
theorem sP{l:List Nat}(h:l.length=32):OL l=l.map b8:=by simp[OL,h]
theorem qN(x:W):Fc x=[(x>>>24).toNat %256,(x>>>16).toNat %256,(x>>>8).toNat %256,x.toNat %256]:=by
 simp only[Fc,BitVec.toNat_ushiftRight,Nat.shiftRight_eq_div_pow]
theorem Yz{H:St}(h:i<8):H.l[i]? =some (H.l.getD i 0#32):=by
 have:i<H.l.length:=h;simp[List.getD,this]
theorem np{H:St}(h:i<8):(H.l.take (i+1)).flatMap Fc=(H.l.take i).flatMap Fc++Fc (H.l.getD i 0#32):=by
 rw[Im (Yz h),List.flatMap_append];simp
theorem nq{H:St}(h:i<=8):((H.l.take i).flatMap Fc).length=4*i:=by
 have:=Xy (H.l.take i);unfold TollSha.out at this;rw[this,z6];have:H.l.length=8:=rfl;omega
theorem er(h:([uv (stH a).a,uv (stH a).b,uv (stH a).c,uv (stH a).d,uv (stH a).e,uv (stH a).f,uv (stH a).g,uv (stH a).h]:List Value)[j]? =some v):(HH a wv)[j]? =some v:=by
 unfold HH;rw[show([uv (stH a).a,uv (stH a).b,uv (stH a).c,uv (stH a).d,uv (stH a).e,uv (stH a).f,uv (stH a).g,uv (stH a).h,wv,.int .i64 (a.length:Nat)]:List Value)=[uv (stH a).a,uv (stH a).b,uv (stH a).c,uv (stH a).d,uv (stH a).e,uv (stH a).f,uv (stH a).g,uv (stH a).h]++[wv,.int .i64 (a.length:Nat)] from rfl];rw[uB5 (uD0.1 h).1];exact h
theorem sG{g:Nat}(w:World)(hL:B6 w)(Z:ck w g wv a)(hw:AO w wv (stW a).length 1 ((stW a).map b8) S)(h8:∀x∈a,x<256)(hm:a.length<1048576):CBy 144 #[.pointer (some ⟨g,0,none⟩)] w (.agg ((sha a).map b8).toArray):=by
 obtain⟨r,C⟩:∃r,D3 a=r:=⟨_,rfl⟩
 have O:=Vn a;have a5:=Vm a;have a6:Cn a.length<64:=yJ _ (by decide);have V:[]++(stW a).map b8++[b8 128]=(stW a++128::List.replicate 0 0).map b8:=by simp
 have Y:64*nb a<=r.length:=by rw[<-C];exact lT a
 have b2:r.length %64=0:=by rw[<-C];exact kN a
 have E:∀m,r.length-64*m>0->64<=r.length-64*m:=λm h=>by omega
 have U:∀x∈r,x<256:=by rw[<-C];exact kM h8
 have a0:stH a=Bn H0 r (nb a):=by rw[<-C];exact ei a
 have N:(stW a++128::List.replicate (Cn a.length) 0)++(F4 (8*a.length)).take 8=r.drop (64*nb a):=by
  rw[<-C,<-eI];unfold Q8;rw[z7];rfl
 have a1:a.length %64+1+Cn a.length+8=r.length-64*nb a:=by
  have:=BT List.length N;simp only[yM,List.length_cons,uE5,zH,O]at this;have a8:((F4 (8*a.length)).take 8).length=8:=rfl;omega
 go_enter func144,ntmps144
 refine A4 ?_;iterate 2 refine dO ?_
 refine M7 ?_;iterate 5 refine dO ?_
 refine iD (by exact AK rfl gg rfl rfl (λw=>Xe _ _ _ w)) ?_;iterate 5 refine dO ?_
 refine iD (by exact BL rfl rfl gg rfl (e:=5) (l:=[]) rfl (by decide) (λ_=>by kernel_rfl)) ?_;iterate 2 refine dO ?_
 refine JY ?_;refine iD (by exact BR rfl gg rfl x7 rfl (Z 8 _ rfl)) ?_;refine iD (by exact Di rfl rfl gg rfl rfl rfl (AW hw) x7 el5 (by decide) (by simp) (DR _) (by simp only[maxLen];omega) (by omega) (by simp)) ?_;refine iD (by exact BL rfl rfl gg rfl (e:=5) (l:=[b8 (128)]) rfl (by decide) (λ_=>by kernel_rfl)) ?_;refine ZY ?_;iterate 4 refine dO ?_
 refine Bo (α:={x:Nat // x<=Cn a.length}) (fun(x:{x:Nat // x<=Cn a.length}) f=>⟨.v (.pointer (some ⟨g,0,none⟩))::.v (f 1)::.p 2 0::.d 900::fv f 89 4 [],AJ [(900,.row (a.length %64+1+x.1) 1 5 (.exact (((stW a++128::List.replicate x.1 0)).map b8))),(2,.arr (OL []) 64)]⟩) (λx=>Cn a.length-x.1) ?_ (⟨0,y6 _⟩) ?_
 .rintro⟨x,hx⟩ f
  obtain⟨q,D⟩:∃q,decide (x<Cn a.length)=q:=⟨_,rfl⟩
  have K:=(kP hx).trans D;change VOk _ _ _ _ _;simp only[fv,Nat.reduceAdd];iterate 4 refine dO ?_
  refine El ?_;refine iD (by exact AK rfl gg rfl rfl (λw=>gX _ _ _ w)) ?_;refine iD (by exact BB rfl gg rfl rfl K) ?_;refine dO ?_;cases q
  .refine dO ?_
   have a2:x=Cn a.length:=by have:=yC D;omega
   subst a2;refine As ?_;change VOk _ _ _ _ _;iterate 4 refine dO ?_
   refine TX ?_;refine iD (by exact BR rfl gg rfl uA7 rfl (Z 9 _ rfl)) ?_;refine iD (by exact B1 rfl gg rfl (λw=>pI (by omega) w)) ?_;refine iD (by exact AK rfl gg rfl rfl (λw=>fS (by omega) _ _ w)) ?_;iterate 8 refine dO ?_
   refine Bo (α:={x:Nat // x<=8}) (fun(x:{x:Nat // x<=8}) f=>⟨.v (.pointer (some ⟨g,0,none⟩))::.v (f 1)::.p 2 0::.d 900::.v (.int .u64 ((8*a.length:Nat):Int))::fv f 29 5 (.v (.int .i64 (x.1:Nat))::fv f 58 35 []),AJ [(900,.row (a.length %64+1+Cn a.length+x.1) 1 5 (.exact (((stW a++128::List.replicate (Cn a.length) 0)++(F4 (8*a.length)).take x.1).map b8))),(2,.arr (OL []) 64)]⟩) (λx=>8-x.1) ?_ (⟨0,y6 _⟩) ?_
   .rintro⟨y,hy⟩ f
    obtain⟨q2,B⟩:∃q,decide (y<8)=q:=⟨_,rfl⟩
    have G:=(CL y 8).trans B;change VOk _ _ _ _ _;simp only[fv,Nat.reduceAdd];iterate 2 refine dO ?_
    refine iD (by exact BM rfl gg rfl rfl G) ?_;iterate 2 refine dO ?_
    cases q2
    .refine dO ?_
     have a3:y=8:=by have:=yC B;omega
     subst a3;refine As ?_;change VOk _ _ _ _ _;iterate 4 refine dO ?_
     refine TZ ?_;refine iD (by exact A2 (vs:=[uv (stH a).a,uv (stH a).b,uv (stH a).c,uv (stH a).d,uv (stH a).e,uv (stH a).f,uv (stH a).g,uv (stH a).h]) rfl gg rfl uA4 rfl sizeOf248 (λj v hj=>(by rw[zW];exact Z j v (er hj))) rfl) ?_;refine iD (by exact BZ rfl rfl gg zeroValue248) ?_;refine Pj ?_;iterate 3 refine dO ?_
     refine Bo (α:={m:Nat // nb a<=m/\64*m<=r.length}) (fun(x:{m:Nat // nb a<=m/\64*m<=r.length}) f=>⟨.v (.pointer (some ⟨g,0,none⟩))::.v (f 1)::.p 2 0::.d 900::.v (f 4)::.v (f 5)::.p 6 0::fv f 86 7 [],AJ [(900,.row (r.length-64*x.1) 1 5 (.exact ((r.drop (64*x.1)).map b8))),(6,.cells [.v (uv (Bn H0 r x.1).a),.v (uv (Bn H0 r x.1).b),.v (uv (Bn H0 r x.1).c),.v (uv (Bn H0 r x.1).d),.v (uv (Bn H0 r x.1).e),.v (uv (Bn H0 r x.1).f),.v (uv (Bn H0 r x.1).g),.v (uv (Bn H0 r x.1).h)] 248),(2,.arr (OL []) 64)]⟩) (λx=>r.length-64*x.1) ?_ (⟨nb a,yD _,Y⟩) ?_
     .rintro⟨m,b0,b1⟩ f
      obtain⟨q3,A⟩:∃q,decide (r.length-64*m>0)=q:=⟨_,rfl⟩
      have I:=(Cr (r.length-64*m) 0).trans A;obtain⟨H,R⟩:∃H,Bn H0 r m=H:=⟨_,rfl⟩
      rw[R];change VOk _ _ _ _ _;simp only[fv,Nat.reduceAdd];iterate 4 refine dO ?_
      refine El ?_;refine iD (by exact BV rfl gg rfl rfl I) ?_;refine dO ?_;cases q3
      .refine dO ?_
       have W:64*m=r.length:=by have:=yC A;omega
       have T:Bn H0 r m=H:=R;refine As ?_;refine Ki ?_
       refine M7 ?_;iterate 4 refine dO ?_
       refine TC ?_;iterate 3 refine dO ?_
       refine Bo (α:={x:Nat // x<=8}) (fun(x:{x:Nat // x<=8}) f=>⟨.v (f 0)::.v (f 1)::.p 2 0::.v (f 3)::.v (f 4)::.v (f 5)::.v (f 6)::.p 7 0::fv f 52 8 (.v (.agg #[uv (H).a,uv (H).b,uv (H).c,uv (H).d,uv (H).e,uv (H).f,uv (H).g,uv (H).h])::.v (.int .i64 (x.1:Nat))::fv f 31 62 []),AJ [(7,.arr (OL ((H.l.take x.1).flatMap Fc)) 64),(2,.arr (OL []) 64)]⟩) (λx=>8-x.1) ?_ (⟨0,y6 _⟩) ?_
       .rintro⟨z,hz⟩ f
        obtain⟨q4,u⟩:∃q,decide (z<8)=q:=⟨_,rfl⟩
        have J:=(CL z 8).trans u;obtain⟨F,Q⟩:∃F,(H.l.take z).flatMap Fc=F:=⟨_,rfl⟩
        have a9:F.length=4*z:=by rw[<-Q];exact nq hz
        rw[Q];obtain⟨X,hX⟩:∃X,H.l.getD z 0#32=X:=⟨_,rfl⟩
        change VOk _ _ _ _ _;simp only[fv,Nat.reduceAdd];iterate 2 refine dO ?_
        refine iD (by exact BM rfl gg rfl rfl J) ?_;iterate 2 refine dO ?_
        cases q4
        .refine dO ?_
         have a4:z=8:=by have:=yC u;omega
         subst a4;have M:F=sha a:=by rw[<-Q,<-T,<-fT (m:=m) (a:=a) (by rw[C];exact W),C];rfl
         refine As ?_;refine Ki ?_
         refine iD (by exact aR (vs:=(sha a).map b8) rfl gg rfl rfl yY rfl yR (by rw[M,sP (sha_len a),List.drop_zero,zT (by simp[sha_len])]) (by simp[sha_len])) ?_;refine iD (by exact Et (l':=(sha a).map b8) rfl gg rfl rfl rfl yR (by simp[Value.cells,sha_len]) (by rw[Fi (by simp)];decide) (by show((sha a).map b8).toArray.toList.all _=true;exact DR _) (by rw[List.take_zero,List.nil_append,DB (by rw[Fi (by simp)];decide),List.append_nil];simp[Value.cells])) ?_;refine dO ?_;refine AG ?_;refine AD (AH results144 (KC (vs:=(sha a).map b8) rfl rfl yY rfl yR (zT (by simp[sha_len])) (by simp[sha_len]))) ?_;intro ρ w' hr;exact⟨rfl,hr.1⟩
        .refine dO ?_
         have L:z<8:=yA u;iterate 6 refine dO ?_
         refine iD (by exact Tt (k:=z) (v:=uv X) rfl gg rfl rfl uA4 RW uA5 rfl (yA u) (by have:=Yz (H:=H) (yA u);rw[hX]at this;have h9:=BT (Option.map uv) this;rw[<-zC]at h9;exact h9)) ?_;iterate 5 refine dO ?_
         refine Pm ?_;refine dO ?_;refine Pm ?_;refine iD (by exact BE (c:=((4*z+1:Nat):Int)) rfl gg rfl rfl (by rw[Ah (by omega) (by omega)];omega)) ?_;refine dO ?_;refine Pm ?_;refine iD (by exact BE (c:=((4*z+2:Nat):Int)) rfl gg rfl rfl (by rw[Ah (by omega) (by omega)];omega)) ?_;refine dO ?_;refine Pm ?_;refine iD (by exact BE (c:=((4*z+3:Nat):Int)) rfl gg rfl rfl (by rw[Ah (by omega) (by omega)];omega)) ?_;refine dO ?_;refine iD (by exact AK rfl gg rfl rfl (λw=>KB _ 24 (by decide) _ _ w)) ?_;refine Pg ?_;refine dO ?_;refine iD (by exact AK rfl gg rfl rfl (λw=>KB _ 16 (by decide) _ _ w)) ?_;refine Pg ?_;refine dO ?_;refine iD (by exact AK rfl gg rfl rfl (λw=>KB _ 8 (by decide) _ _ w)) ?_;refine Pg ?_;refine dO ?_;refine Pg ?_;refine iD (by exact GH (k:=4*z) (j:=4*z) rfl gg rfl rfl yY yG (by omega) (by omega)) ?_;refine k_6 ?_;refine iD (by exact GH (k:=4*z+1) (j:=4*z+1) rfl gg rfl rfl yY yG (by omega) (by omega)) ?_;refine k_6 ?_;refine iD (by exact GH (k:=4*z+2) (j:=4*z+2) rfl gg rfl rfl yY yG (by omega) (by omega)) ?_;refine k_6 ?_;refine iD (by exact GH (k:=4*z+3) (j:=4*z+3) rfl gg rfl rfl yY yG (by omega) (by omega)) ?_;refine k_6 ?_;iterate 2 refine dO ?_
         refine iD (by exact BE (c:=((z+1:Nat):Int)) rfl gg rfl rfl (by rw[Ah (by omega) (by omega)];omega)) ?_;iterate 2 refine dO ?_
         refine⟨⟨z+1,by have:=yA u;omega⟩,by show 8-(z+1)<8-z;have:=yA u;omega,?_⟩;have e4:F++[(X>>>24).toNat %256]++[(X>>>16).toNat %256]++[(X>>>8).toNat %256]++[X.toNat %256]=(H.l.take (z+1)).flatMap Fc:=by rw[np (yA u),Q,hX,qN];simp
         rw[e4];exact Ar (λi=>i==2||i==7||i==60||i==61) []
       .exact Ar (λi=>i==2||i==7||i==60||i==61) [900,6]
      .iterate 5 refine dO ?_
       refine TC ?_;refine dO ?_;refine iD (by exact Jh (a:=0) (b:=64) (size:=1) rfl gg rfl x7 yG (BI rfl) rfl rfl (by decide) (E m (yA A))) ?_;refine iD (by exact Aj (v:=.agg #[uv (TollSha.press H ((r.drop (64*m)).take 64)).a,uv (TollSha.press H ((r.drop (64*m)).take 64)).b,uv (TollSha.press H ((r.drop (64*m)).take 64)).c,uv (TollSha.press H ((r.drop (64*m)).take 64)).d,uv (TollSha.press H ((r.drop (64*m)).take 64)).e,uv (TollSha.press H ((r.drop (64*m)).take 64)).f,uv (TollSha.press H ((r.drop (64*m)).take 64)).g,uv (TollSha.press H ((r.drop (64*m)).take 64)).h]) [900] rfl gg rfl (eo func176) (λρ S w' hb hR=>by obtain⟨S0,s0⟩:=WV (lo:=0) (hi:=64) (n':=64) (l':=((r.drop (64*m)).take 64).map b8) (BI (id:=900) rfl) (y6 _) (E m (yA A)) (by rw[yQ,yQ,List.drop_zero,Nat.sub_zero,uB7]) rfl ρ S w' hb hR;exact Xg H w' (hL.bw hb) s0 (by rw[z6,zH];have:=E m (yA A);omega) (λx hx=>U x (DO (PA hx))))) ?_;refine Pj ?_;iterate 3 refine dO ?_
       refine iD (by exact aW (a:=64) (m:=r.length-64*(m+1)) (l':=(r.drop (64*(m+1))).map b8) rfl rfl gg rfl rfl x7 yG rfl (E m (yA A)) (by rw[<-RM,ak]) (by simp) (by omega)) ?_;iterate 2 refine dO ?_
       have a7:64<=r.length-64*m:=E m (yA A);refine⟨⟨m+1,by omega,by omega⟩,by show r.length-64*(m+1)<r.length-64*m;omega,?_⟩;have e3:TollSha.press H ((r.drop (64*m)).take 64)=Bn H0 r (m+1):=by rw[<-R];rfl
       rw[e3];exact(Ar (λi=>i==0||i==2||i==3||i==6) []).trans2 (λf=>Dk 55 900 (by decide) rfl)
     .rw[a0,N,a1]
      exact(Ar (λi=>i==0||i==2||i==3||i==6) []).trans2 (λf=>Lc (a:=(6,_)) (b:=(900,_)) (show(6:Nat)≠900 by decide))
    .refine dO ?_
     have L:y<8:=yA B;iterate 12 refine dO ?_
     refine iD (by exact Bu (c:=((7-y:Nat):Int)) rfl gg rfl rfl (by rw[Ah (by omega) (by omega)];omega)) ?_;refine iD (by exact AK rfl gg rfl rfl (λw=>lc (n:=7-y) (by omega) _ _ w)) ?_;refine iD (by exact AK rfl gg rfl rfl (λw=>fQ (8*a.length) (8*(7-y)) (by omega) _ _ w)) ?_;refine iD (by exact B1 rfl gg rfl (λw=>pG _ w)) ?_;refine iD (by exact BL rfl rfl gg rfl (e:=5) (l:=[b8 (8*a.length/2^(8*(7-y)) %256)]) rfl (by decide) (λ_=>by kernel_rfl)) ?_;refine iD (by exact Di rfl rfl gg rfl rfl rfl (BI rfl) x7 el5 (by decide) (by simp[F4];omega) rfl (by simp only[maxLen];omega) (by omega) (by simp)) ?_;iterate 3 refine dO ?_
     refine iD (by exact BE (c:=((y+1:Nat):Int)) rfl gg rfl rfl (by rw[Ah (by omega) (by omega)];omega)) ?_;iterate 2 refine dO ?_
     refine⟨⟨y+1,by have:=yA B;omega⟩,by show 8-(y+1)<8-y;have:=yA B;omega,?_⟩;have e2:((stW a++128::List.replicate (Cn a.length) 0)++(F4 (8*a.length)).take y).map b8++[b8 (8*a.length/2^(8*(7-y)) %256)]=((stW a++128::List.replicate (Cn a.length) 0)++(F4 (8*a.length)).take (y+1)).map b8:=by rw[Im (mI (yA B))];simp
     rw[e2];exact(Ar (λi=>i==0||i==2||i==3||i==4||i==34) [44]).trans2 (λf=>Dk 45 900 (by decide) rfl)
   .refine(Ar (λi=>i==0||i==2||i==3||i==4||i==34) []).trans2 (λf=>Qv (λ_=>undef) ?_)
    simp[fv,B0,BQ]
  .refine dO ?_
   have L:x<Cn a.length:=yA D;iterate 4 refine dO ?_
   refine iD (by exact BL rfl rfl gg rfl (e:=5) (l:=[b8 (0)]) rfl (by decide) (λ_=>by kernel_rfl)) ?_;refine ZY ?_;iterate 2 refine dO ?_
   refine⟨⟨x+1,by have:=yA D;omega⟩,by show Cn a.length-(x+1)<Cn a.length-x;have:=yA D;omega,?_⟩;have e1:((stW a++128::List.replicate x 0)).map b8++[b8 0]=((stW a++128::List.replicate (x+1) 0)).map b8:=by rw[List.replicate_succ'];simp
   rw[e1];exact(Ar (λi=>i==0||i==2||i==3) [26]).trans2 (λf=>Dk 27 900 (by decide) rfl)
 .rw[V,O,show a.length %64+1=a.length %64+1+0 from rfl]
  exact(Ar (λi=>i==0||i==2||i==3) [19]).trans2 (λf=>Dk 20 900 (by decide) rfl)
end Go.Proofs.YtafbhakmkbehiaaGreatDoor
