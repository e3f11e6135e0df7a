import Derived.Test.YtafbhakmkbehiaaGreatDoorZ9
import Derived.Test.YtafbhakmkbehiaaGreatDoorZ10
open Go.Proofs.Tryz
set_option maxHeartbeats 4000000
set_option maxRecDepth 100000
namespace TollEc
open TollNt
noncomputable def Au:Nat→Pt→Pt
 |0,_=> .inf
 |k+1,p=>add (Au k p) p
theorem smul_on{p:Pt}(hp:p.on): ∀k,(Au k p).on
 |0=>True.intro
 |k+1=>on_add (smul_on hp k) hp
theorem Rh: ∀k,Au k .inf= .inf
 |0=>rfl
 |k+1=>by rw[Au,Rh k];rfl
theorem e7(p:Pt):Au 1 p=p:=by simp only[Au,GB]
theorem smul_add{p:Pt}(hp:p.on)(a:Nat): ∀b,Au (a+b) p=add (Au a p) (Au b p)
 |0=>by rw[Nat.add_zero];exact(Hb _).symm
 |b+1=>by
  rw[←Nat.add_assoc,Au,smul_add hp a b,Au,add_assoc (smul_on hp a) (smul_on hp b) hp]
theorem smul_mul{p:Pt}(hp:p.on)(a:Nat): ∀b,Au (a*b) p=Au b (Au a p)
 |0=>rfl
 |b+1=>by rw[Nat.mul_succ,smul_add hp,smul_mul hp a b,Au]
def ladder(n:Nat)(t:Jp):Nat→Jp
 |0=> .inf
 |i+1=>let r:=Df (ladder n t i);if n/2^(255-i) %2=1 then D5 r t else r
theorem mJ(n:Nat)(t:Jp)(ht:t.rep.on): ∀i,i≤256→(ladder n t i).rep=Au (n/2^(256-i) %2^i) t.rep:=by
 intro i
 induction i with
 |zero=>intro _;simp only[ladder,Nat.pow_zero,Nat.mod_one,Au];exact rep_inf rfl
 |succ i ih=>
  intro hi;have h1:=ih (by omega)
  have hd:(Df (ladder n t i)).rep=Au (2*(n/2^(256-i) %2^i)) t.rep:=by
   rw[Zs,h1,Nat.two_mul,smul_add ht]
  have e1:n/2^(256-i)=n/2^(255-i)/2:=by
   rw[show 256-i=(255-i)+1 by omega,Nat.pow_succ,Nat.div_div_eq_div_mul]
  have e2:256-(i+1)=255-i:=by omega
  have e3: ∀m:Nat,m %2^(i+1)=2*(m/2 %2^i)+m %2:=by
   intro m;rw[Nat.pow_succ,Nat.mul_comm,Nat.mod_mul];omega
  have hdon:(Df (ladder n t i)).rep.on:=by rw[hd];exact smul_on ht _
  rw[e2,e3,←e1];simp only[ladder];split
  ·rename_i hb
   rw[jadd_rep _ _ hdon ht,hd,hb];rfl
  ·rename_i hb
   rw[hd];have:n/2^(255-i) %2=0:=by omega
   rw[this,Nat.add_zero]
theorem ladder_all(n:Nat)(hn:n<2^256)(t:Jp)(ht:t.rep.on):(ladder n t 256).rep=Au n t.rep:=by
 rw[mJ n t ht 256 (by omega)];congr 1
 rw[Nat.sub_self,Nat.pow_zero,Nat.div_one];exact Nat.mod_eq_of_lt hn
def bx:F:=48439561293906451759052585252797914202762949526041747995844080717082404635286
def bY:F:=36134250956749795798585127919587881956611106672985015071877198253568414405109
def bj:Jp:=⟨bx,bY,1⟩
def base:Pt:= .aff bx bY
abbrev nn:Nat:=115792089210356248762697446949407573529996955224135760342422259061068512044369
theorem base_on:base.on:=by
 show bY*bY=bx*bx*bx-3*bx+cb;decide+kernel
theorem rep_one(x y:F):(⟨x,y,1⟩:Jp).rep= .aff x y:=by
 rw[rep_of (i:=1) (show(1:F)*1=1 by decide+kernel)];congr 1
 ·show x*(1*1)=x;grind-lia
 ·show y*(1*(1*1))=y;grind-lia
theorem bj_rep:bj.rep=base:=rep_one _ _
theorem kW:(ladder nn bj 256).z=0:=by decide+kernel
theorem X0:Au nn base= .inf:=by
 have:=ladder_all nn (by decide) bj (by rw[bj_rep];exact base_on);rw[bj_rep,rep_inf kW]at this;exact this.symm
theorem smul_mod(k:Nat):Au (k %nn) base=Au k base:=by
 have e:=Nat.div_add_mod k nn
 conv=>rhs;rw[←e]
 rw[smul_add base_on,smul_mul base_on,X0,Rh,GB]
theorem smul_eq_inf{k:Nat}(h:Au k base= .inf):nn∣k:=by
 have hp:Prm nn:=prm_115792089210356248762697446949407573529996955224135760342422259061068512044369;apply Classical.byContradiction;intro hc;have hcop:=hp.coprime hc
 have key: ∀a b:Nat,Au a base= .inf→Au b base= .inf→Au (Nat.gcd a b) base= .inf:=by
  intro a b
  induction a,b using Nat.gcd.induction with
  |H0 b=>intro _ h;simpa using h
  |H1 a b ha ih=>
   intro h1 h2;rw[Nat.gcd_rec];refine ih ?_ h1;have e:=Nat.div_add_mod b a;rw[←e,smul_add base_on,smul_mul base_on,h1,Rh,GB]at h2;exact h2
 have:=key k nn h X0;rw[hcop,e7]at this;exact absurd this (by simp[base])
end TollEc
namespace Go.Vx
open Go.RowKit Go.Toll
variable{ki:IntKind}{rd:List Nat}{fr:List SV}{l':List Value}{id j k n off:Nat}{ix x:Operand}{P:Program}{e el ty:TypeId}
def Jq(w:World):World:={w with heap:= #[]}
theorem qP(w:World):Bw (Jq w) w:=⟨rfl,rfl,rfl,Nat.zero_le _,fun k hk=>absurd hk (Nat.not_lt_zero k)⟩
def LB(w:World)(X:Nat→Prop):Dat:=⟨fun _ w' S=> ∀k,k<w.heap.size→ ¬X k→(w'.heap[k]? =w.heap[k]? ∧S k),fun h hk k h1 h2=>by
 obtain⟨h3,h4⟩:=h k h1 h2;exact⟨(hk k h4).trans h3,h4⟩⟩
theorem dZ{c:Code}{l:List Value}{w:World}{R:Exit→Act→World→Prop}{m:Mem}(ρ0:Nat→Nm)(hact:fr.map (SV.c ρ0)=l)(hrel:Rel (Jq w) ρ0 ⟨fr,m⟩ w)
 (h:VOk P (Jq w) ⟨fr,m⟩ c fun e s'=> ∀ρ w',Rel (Jq w) ρ s' w'→R e (s'.act ρ) w'):c.wp P R ⟨l.toArray,[]⟩ w:=by
 have h1:(⟨l.toArray,[]⟩:Act)=(⟨fr,m⟩:VS).act ρ0:=by
  simp[VS.act,hact]
 rw[h1];exact h ρ0 w R hrel fun _ ρ _ w' hq hr=>hq ρ w' hr
section
variable{P:Program}{w0:World}{ops:Array Oper}{o:Oper}{s:VS}
theorem GH(ho:o.op= .indexAddr ty x ix)(hgd:AQ ops o s)(hx:AE s x= .p id off)(hi:AE s ix= .v (.int ki (k:Nat)))
 (hu:P.underlying ty=some (.array n el))(hs: ∀w,(Go.sizeOf el).run P w= .ok 1 w)(hk:k<n)(hj:off+k=j):Ev P ops w0 o s ⟨.p id j,[],[],[],[]⟩:=by
 have:=C7 (w0:=w0) ho hgd hx hi hu hs (Int.natCast_nonneg k) (by omega);simpa[hj] using this
theorem oM{g:Nat}(ho:o.op= .indexAddr ty x ix)(hgd:AQ ops o s)(hx:AE s x= .v (.pointer (some ⟨g,off,none⟩)))(hi:AE s ix= .v (.int ki (k:Nat)))
 (hu:P.underlying ty=some (.array n el))(hs: ∀w,(Go.sizeOf el).run P w= .ok 1 w)(hk:k<n)(hj:off+k=j):Ev P ops w0 o s ⟨.v (.pointer (some ⟨g,j,none⟩)),[],[],[],[]⟩:=by
 have:=DK (w0:=w0) ho hgd hx hi hu hs (Int.natCast_nonneg k) (by omega);simpa[hj] using this
theorem aW{lo:Operand}{id2 a m size:Nat}{l:List Value}(_hd:o.dst=some id2)(ho:o.op= .slice ty x (some lo) none none)(hgd:AQ ops o s)(hx:AE s x= .d id)(hm:s.mem id=some (.row n size e (.exact l)))
 (hu:P.underlying ty=some (.slice e))(hs: ∀w,(Go.sizeOf e).run P w= .ok size w)
 (hlo:AE s lo= .v (.int .i64 (a:Nat)))(h2:a≤n)(hl:l.drop (a*size)=l')(hln:l.length=n*size)(hmn:n-a=m):
 Ev P ops w0 o s ⟨.d id2,[(id2,.row m size e (.exact l'))],[id],[id2],[id]⟩:=by
 subst hmn;refine⟨by simp[Eff.ok],.inr ⟨hgd,fun ρ S w hb hR=> ?_⟩⟩;have hrun:=T9 (a:=a) (b:=n) ho hx hu hs (BI hm) hlo rfl h2 (Nat.le_refl _) ρ S w hb hR;obtain⟨xs,g1,g2,g3⟩:=relon_get hR hm (by simp);have g2':xs=l:=g2;subst g2';have hmul:=Nat.mul_le_mul_right size h2;have hsub:(n-a)*size=n*size-a*size:=Nat.sub_mul n a size
 have hrow:EC w w0.heap.size ⟨(ρ id).g,Ay a n size (ρ id).val⟩ (n-a) size e l':=by
  rcases g3 with⟨h1,h2'⟩|⟨off,cap,cur,fz,h1',h2',h3',h4',h5',h6',h7',h8'⟩
  ·left
   subst h2';obtain rfl:a=0:=by omega
   refine⟨?_,rfl⟩;rw[h1];simp[Ay]
  ·right
   have hcm:=Nat.mul_le_mul_right size h5';by_cases hc:cap=a
   ·have hna:n=a:=by omega
    refine⟨off,0,cur,fz,?_,h2',h3',h4',by omega,by omega,by omega,?_⟩
    ·rw[h1'];simp only[Ay,if_pos hc];rw[show n-a=0 by omega,show cap-a=0 by omega]
    ·rw[show n-a=0 by omega,Nat.zero_mul,List.take_zero,←hl,List.drop_of_length_le (by rw[hln,hna];exact Nat.le_refl _)]
   ·have hcs:(cap-a)*size=cap*size-a*size:=Nat.sub_mul cap a size
    have hac:=Nat.mul_le_mul_right size (show a≤cap by omega);refine⟨off+a*size,cap-a,cur,fz,?_,h2',h3',h4',by omega,by omega,by omega,?_⟩
    ·rw[h1'];simp[Ay,if_neg hc,Addr.add]
    ·rw[←hl,←h8',List.drop_take,List.drop_drop,hsub]
 have hnil:Ay a n size (ρ id).val≠ .slice none 0 0→(ρ id).val≠ .slice none 0 0:=fun h c=>by
  rcases g3 with⟨_,h0⟩|⟨off,cap,cur,fz,h1',_⟩
  ·apply h;rw[c];obtain rfl:a=0:=by omega
   subst h0;simp[Ay]
  ·rw[h1']at c;cases c
 refine .inl ⟨_,w,hrun,fun j=>if j=id2 then⟨(ρ id).g,Ay a n size (ρ id).val⟩else ρ j,fun _ _=>False,?_⟩
 have:=Cj (base:=w0.heap.size) (t:=s.mem) (ρ:=ρ) (S:=S) (w:=w) (w':=w) (val:= .d id2) (rd:=[id]) (up:=[id]) (id:=id2) (b:= .row (n-a) size e (.exact l')) (m:=⟨(ρ id).g,Ay a n size (ρ id).val⟩) (S1:=fun _=>False)
  rfl rfl rfl (Nat.le_refl _) (fun k hk _=>rfl) (fun ρ2 h1 _=>⟨l',by rw[←hl,List.length_drop,hln,hsub],rfl,by rw[h1];exact hrow⟩) (fun _ h=>h.elim)
  (fun hob=> .inl ⟨id,by simp,_,hm,hnil hob,rfl⟩)
 simpa[SV.c] using this
theorem Vy(w:World)(dT sT ty elem:TypeId)(g o dLen dCap:Nat)(a:Addr)(sLen sCap:Nat)(cur:Array Value)(t:TypeId)(fz:Nat×Nat)(cs:List Value)
 (hu:P.underlying dT=some (.slice elem))(hs:(P.info? elem).map (·.size)=some 1)
 (hg:w.heap[g]? =some (.cells cur t fz))(hz: ∀k,k<cur.size→ ¬(fz.1≤k∧k<fz.2))(hn:cs.length=Nat.min sLen dLen)
 (hsrc: ∀j v,cs[j]? =some v→w.cell? (a.add j)=some v)(hfit:o+cs.length≤cur.size)(h1: ∀v∈cs,v.oneCell'=true):
 (Builtin.copy_ #[dT,sT] ty #[.slice (some ⟨g,o,none⟩) dLen dCap,.slice (some a) sLen sCap]).run P w=
  .ok (goInt cs.length) (w.setRow g (cur.toList.take o++cs++cur.toList.drop (o+cs.length)).toArray):=by
 have hl:=run_loadCells_list (P:=P) w a cs hsrc;have hst:=Lu (P:=P) g o t fz cs 0 cur w hg hz (by simpa using hfit) h1;simp only[Nat.add_zero]at hst;cases hq:P.info? elem with
 |none=>simp[hq]at hs
 |some i=>
  have hi:i.size=1:=by simpa[hq] using hs
  simp[Builtin.copy_,run_underlying hu,Builtin.lenOf,Builtin.firstCells,sizeOf,typeInfo,hq,hi,←hn,hl,hst]
theorem oU{dT sT:TypeId}{y:Operand}{l news:List Value}{sv:SV}(ho:o.op= .call {callee:= .builtin .copy,args:= #[x,y],argTypes:= #[dT,sT]})(hgd:AQ ops o s)
 (hx:AE s x= .d id)(hm:s.mem id=some (.row n 1 e (.exact l)))(hy:AE s y=sv)(hr:Rdg w0 s.mem rd sv k 1 news)(hu:P.underlying dT=some (.slice e))(hs:(P.info? e).map (·.size)=some 1)
 (hkn:k≤n)(hk0:0<k)(hpos:0<n)(h1:news.all (·.oneCell')=true)(hl':news++l.drop k=l'):
 Ev P ops w0 o s ⟨.v (.int .i64 (k:Nat)),[(id,.row n 1 e (.exact l'))],[id],[],id::rd⟩:=
 Ev.wrv id _ _ _ _ hgd hm (by simp) fun ρ S w hb hR=>by
  have e1:=AI s ρ x;rw[hx]at e1;have e2:=AI s ρ y;rw[hy]at e2;obtain⟨xs,hxl,hxe,hrow⟩:=relon_get hR hm (by simp);have hxe':xs=l:=hxe;subst hxe'
  have hR2:RelOn w0.heap.size ρ S w (restr rd s.mem):=by
   have:=hR.restr rd
   have e:restr rd (restr (id::rd) s.mem)=restr rd s.mem:=by
    funext j;unfold restr
    by_cases h:j∈rd<;>simp[h]
   rwa [e]at this
  obtain⟨S1,ao,cp,h3,h4,h5,h6⟩:=hr ρ S w hb hR2;rw[Nat.mul_one]at h5 hxl;rcases h6 with h6|⟨a,rfl,_,h6⟩
  ·exfalso;rw[h6]at h5;simp at h5;omega
  rcases hrow with⟨_,h⟩|⟨off,cap,cur,fz,h1',h2',h3',h4',h5',h6',h7',h8'⟩
  ·omega
  ·rw[h3]at e2
   simp only[SV.c,h1']at e1;have hrun:=Vy (P:=P) w dT sT o.type e (ρ id).g off n cap a k cp cur e fz news hu hs h3' (NK h4') (by rw[h5];simp[Nat.min_def];omega) h6 (by rw[h5];omega) (fun u hu=>List.all_eq_true.1 h1 u hu);rw[h5]at hrun
   have hsz2:(cur.toList.take off++news++cur.toList.drop (off+k)).toArray.size=cur.size:=by
    simp only[List.size_toArray,List.length_append,List.length_take,List.length_drop,Array.length_toList,h5];omega
   refine⟨by simp only[Blk.owns];rw[h1'];simp,w.setRow (ρ id).g (cur.toList.take off++news++cur.toList.drop (off+k)).toArray,?_,⟨rfl,rfl,rfl,by simp,fun j hj=>setRow_other w _ j _ hj⟩,?_⟩
   ·unfold execOp
    simp only[ho,resolve,invoke,builtin,Sem.run_bind,Sem.run_pure,Result.andThen_ok,List.map_toArray,List.map_cons,List.map_nil,e1,e2,hrun,SV.c,goInt]
   ·refine⟨l',by rw[←hl',List.length_append,List.length_drop,h5,hxl];omega,rfl,.inr ⟨off,cap,_,fz,h1',h2',setRow_heap w (ρ id).g cur _ e _ h3',by rw[hsz2];exact h4',h5',h6',by rw[hsz2];exact h7',?_⟩⟩
    rw[←hl',←h8',Nat.mul_one];have ht:(cur.toList.take off).length=off:=by rw[List.length_take,Array.length_toList];omega
    rw[List.append_assoc,List.drop_append_of_le_length (by omega),List.drop_of_length_le (by omega),List.nil_append];rw[List.take_append,h5,List.take_of_length_le (by omega),List.drop_take,List.drop_drop]
end
end Go.Vx
namespace TollSha
variable{a s:List Nat}
abbrev W:=BitVec 32
def rr(x:W)(n:Nat):W:=(x>>>n)|||(x<<<(32-n))
def g0(x:W):W:=rr x 7^^^rr x 18^^^(x>>>3)
def g1(x:W):W:=rr x 17^^^rr x 19^^^(x>>>10)
def e0(x:W):W:=rr x 2^^^rr x 13^^^rr x 22
def e1(x:W):W:=rr x 6^^^rr x 11^^^rr x 25
def ch(e f g:W):W:=g^^^(e &&& (f^^^g))
def mj(a b c:W):W:=(a &&& b)|||(c &&& (a|||b))
def Kn:List Nat:=[
 0x428a2f98,0x71374491,0xb5c0fbcf,0xe9b5dba5,0x3956c25b,0x59f111f1,0x923f82a4,0xab1c5ed5,
 0xd807aa98,0x12835b01,0x243185be,0x550c7dc3,0x72be5d74,0x80deb1fe,0x9bdc06a7,0xc19bf174,
 0xe49b69c1,0xefbe4786,0x0fc19dc6,0x240ca1cc,0x2de92c6f,0x4a7484aa,0x5cb0a9dc,0x76f988da,
 0x983e5152,0xa831c66d,0xb00327c8,0xbf597fc7,0xc6e00bf3,0xd5a79147,0x06ca6351,0x14292967,
 0x27b70a85,0x2e1b2138,0x4d2c6dfc,0x53380d13,0x650a7354,0x766a0abb,0x81c2c92e,0x92722c85,
 0xa2bfe8a1,0xa81a664b,0xc24b8b70,0xc76c51a3,0xd192e819,0xd6990624,0xf40e3585,0x106aa070,
 0x19a4c116,0x1e376c08,0x2748774c,0x34b0bcb5,0x391c0cb3,0x4ed8aa4a,0x5b9cca4f,0x682e6ff3,
 0x748f82ee,0x78a5636f,0x84c87814,0x8cc70208,0x90befffa,0xa4506ceb,0xbef9a3f7,0xc67178f2]
def K:List W:=Kn.map (BitVec.ofNat 32)
def be4(a b c d:Nat):W:=(((BitVec.ofNat 32 a)<<<24|||(BitVec.ofNat 32 b)<<<16)|||(BitVec.ofNat 32 c)<<<8)|||BitVec.ofNat 32 d
def Qs(b:List Nat)(i:Nat):W:=be4 (b.getD (4*i) 0) (b.getD (4*i+1) 0) (b.getD (4*i+2) 0) (b.getD (4*i+3) 0)
def YV(w:List W):W:=w.getD (w.length-16) 0#32+w.getD (w.length-7) 0#32+g0 (w.getD (w.length-15) 0#32)+g1 (w.getD (w.length-2) 0#32)
def Fv(b:List Nat):Nat→List W
 |0=>[]
 |n+1=>Fv b n++[Qs b n]
def Gp(w:List W):Nat→List W
 |0=>w
 |n+1=>Gp w n++[YV (Gp w n)]
def Vw(b:List Nat):List W:=Gp (Fv b 16) 48
structure St where
 a:W
 b:W
 c:W
 d:W
 e:W
 f:W
 g:W
 h:W
def H0:St:=⟨0x6a09e667#32,0xbb67ae85#32,0x3c6ef372#32,0xa54ff53a#32,0x510e527f#32,0x9b05688c#32,0x1f83d9ab#32,0x5be0cd19#32⟩
def St.l(s:St):List W:=[s.a,s.b,s.c,s.d,s.e,s.f,s.g,s.h]
def tA(s:St)(k w:W):W:=s.h+e1 s.e+ch s.e s.f s.g+k+w
def tB(s:St):W:=e0 s.a+mj s.a s.b s.c
def St.step(s:St)(k w:W):St:=⟨tA s k w+tB s,s.a,s.b,s.c,s.d+tA s k w,s.e,s.f,s.g⟩
def St.run(w:List W)(s:St):Nat→St
 |0=>s
 |n+1=>(St.run w s n).step (K.getD n 0#32) (w.getD n 0#32)
def St.add(s:St)(t:St):St:=⟨s.a+t.a,s.b+t.b,s.c+t.c,s.d+t.d,s.e+t.e,s.f+t.f,s.g+t.g,s.h+t.h⟩
def press(s:St)(b:List Nat):St:=s.add (St.run (Vw b) s 64)
def Bn(h:St)(b:List Nat):Nat→St
 |0=>h
 |n+1=>press (Bn h b n) ((b.drop (64*n)).take 64)
def Fc(x:W):List Nat:=[x.toNat/16777216 %256,x.toNat/65536 %256,x.toNat/256 %256,x.toNat %256]
def out(h:List W):List Nat:=h.flatMap Fc
def F4(n:Nat):List Nat:=[n/2^56 %256,n/2^48 %256,n/2^40 %256,n/2^32 %256,n/2^24 %256,n/2^16 %256,n/2^8 %256,n/2^0 %256]
def Cn(n:Nat):Nat:=(119-n %64) %64
def D3(s:List Nat):List Nat:=s++128::(List.replicate (Cn s.length) 0++F4 (8*s.length))
def sha(s:List Nat):List Nat:=out (Bn H0 (D3 s) ((D3 s).length/64)).l
def keyOf(k:List Nat):List Nat:=if k.length>64 then sha k else k
def D4(k:List Nat)(x:Nat):List Nat:=(List.range 64).map fun i=>(k.getD i 0)^^^x
def CH(k s:List Nat):List Nat:=sha (D4 (keyOf k) 92++sha (D4 (keyOf k) 54++s))
theorem Oe(b:List Nat)(n:Nat):(Fv b n).length=n:=by
 induction n with
 |zero=>rfl
 |succ n ih=>simp[Fv,ih]
theorem Yi(w:List W)(n:Nat):(Gp w n).length=w.length+n:=by
 induction n with
 |zero=>rfl
 |succ n ih=>simp[Gp,ih];omega
theorem Xy(h:List W):(out h).length=4*h.length:=by
 induction h with
 |nil=>rfl
 |cons x r ih=>
  have:out (x::r)=Fc x++out r:=rfl;rw[this,List.length_append,ih];show 4+_=4*(r.length+1);omega
theorem kV(h:List W): ∀x∈out h,x<256:=by
 intro x hx;simp only[out,List.mem_flatMap,Fc,List.mem_cons,List.not_mem_nil,or_false]at hx;obtain⟨y,_,h⟩:=hx;rcases h with rfl|rfl|rfl|rfl<;>exact Nat.mod_lt _ (by decide)
theorem kN(s:List Nat):(D3 s).length %64=0:=by
 simp only[D3,Cn,F4,List.length_append,List.length_cons,List.length_replicate,List.length_nil];omega
theorem kM(h: ∀x∈s,x<256): ∀x∈D3 s,x<256:=by
 intro x hx;simp only[D3,F4,List.mem_append,List.mem_cons,List.mem_replicate,List.not_mem_nil,or_false]at hx;rcases hx with hx|rfl|⟨_,rfl⟩|rfl|rfl|rfl|rfl|rfl|rfl|rfl|rfl
 ·exact h x hx
 ·decide
 ·decide
 all_goals exact Nat.mod_lt _ (by decide)
theorem sha_len(s:List Nat):(sha s).length=32:=by
 rw[sha,Xy];rfl
theorem SX{h:St}{a c:List Nat}: ∀m,64*m≤a.length→Bn h (a++c) m=Bn h a m
 |0,_=>rfl
 |m+1,hm=>by
  have ih:=SX (h:=h) (a:=a) (c:=c) m (by omega);simp only[Bn];rw[ih,List.drop_append_of_le_length (by omega),List.take_append_of_le_length (by rw[List.length_drop];omega)]
def nb(a:List Nat):Nat:=a.length/64
def stH(a:List Nat):St:=Bn H0 a (nb a)
def stW(a:List Nat):List Nat:=a.drop (64*nb a)
theorem KV(a:List Nat):64*nb a≤a.length:=by unfold nb;omega
theorem Vn(a:List Nat):(stW a).length=a.length %64:=by unfold stW nb;rw[List.length_drop];omega
theorem Vm(a:List Nat):(stW a).length<64:=by rw[Vn];exact Nat.mod_lt _ (by decide)
theorem eh(a p:List Nat):stW a++p=(a++p).drop (64*nb a):=by
 unfold stW;rw[List.drop_append_of_le_length (KV a)]
theorem ep(a p:List Nat):stH a=Bn H0 (a++p) (nb a):=(SX _ (KV a)).symm
theorem ak(a:List Nat)(m:Nat):(a.drop (64*m)).drop 64=a.drop (64*(m+1)):=by rw[List.drop_drop];congr 1
theorem o7{m:Nat}(h1:64*m≤a.length)(h2:(a.drop (64*m)).length<64):m=nb a:=by
 rw[List.length_drop]at h2;unfold nb;omega
def Q8(a:List Nat):List Nat:=stW a++128::(List.replicate (Cn a.length) 0++F4 (8*a.length))
theorem eI(a:List Nat):Q8 a=(D3 a).drop (64*nb a):=by
 unfold Q8 D3 stW;rw[List.drop_append_of_le_length (KV a)]
theorem ei(a:List Nat):stH a=Bn H0 (D3 a) (nb a):=by
 unfold D3;exact(SX _ (KV a)).symm
theorem fT{m:Nat}(h:64*m=(D3 a).length):out (Bn H0 (D3 a) m).l=sha a:=by
 unfold sha;rw[←h,Nat.mul_div_cancel_left _ (by decide)]
theorem lT(a:List Nat):64*nb a≤(D3 a).length:=by
 have:=KV a;simp only[D3,List.length_append];omega
end TollSha
namespace Go.Proofs.YtafbhakmkbehiaaGreatDoor
open Go.RowKit Go.Vx
variable{b:List Nat}{n:Nat}{S:Nat→Prop}{v:Value}{w:World}
open TollSha
open Go.Toll (Gw)
def b8(b:Nat):Value:= .int .u8 (b:Int)
def uv(x:W):Value:= .int .u32 (x.toNat:Int)
theorem w32(x:W):IntKind.u32.wrap (x.toNat:Int)=(x.toNat:Int):=by
 have:=x.isLt;rw[IntKind.wrap_u32];omega
theorem KS(x:W):BitVec.ofInt 32 (x.toNat:Int)=x:=by
 apply BitVec.eq_of_toNat_eq;rw[BitVec.toNat_ofInt];have:=x.isLt;omega
theorem bx(x y:W):bits .xor .u32 (x.toNat:Int) (y.toNat:Int)=((x^^^y).toNat:Int):=by
 show IntKind.u32.wrap ((BitVec.ofInt 32 (x.toNat:Int)^^^BitVec.ofInt 32 (y.toNat:Int)).toNat:Int)=_;rw[KS,KS,w32]
theorem ba(x y:W):bits .and .u32 (x.toNat:Int) (y.toNat:Int)=((x &&& y).toNat:Int):=by
 show IntKind.u32.wrap ((BitVec.ofInt 32 (x.toNat:Int) &&& BitVec.ofInt 32 (y.toNat:Int)).toNat:Int)=_;rw[KS,KS,w32]
theorem boS(x y:W):bits .or .u32 (x.toNat:Int) (y.toNat:Int)=((x|||y).toNat:Int):=by
 show IntKind.u32.wrap ((BitVec.ofInt 32 (x.toNat:Int)|||BitVec.ofInt 32 (y.toNat:Int)).toNat:Int)=_;rw[KS,KS,w32]
theorem dJ(x y:W)(p q:Operand)(w:World):(do eqGuard .xor 247 p q (uv x) (uv y);binOp .xor 247 (uv x) (uv y):Sem Value).run prog w= .ok (uv (x^^^y)) w:=by
 have h:=bx x y;unfold uv
 go_simp
 try exact h
theorem Ua(x y:W)(p q:Operand)(w:World):(do eqGuard .and 247 p q (uv x) (uv y);binOp .and 247 (uv x) (uv y):Sem Value).run prog w= .ok (uv (x &&& y)) w:=by
 have h:=ba x y;unfold uv
 go_simp
 try exact h
theorem kf(x y:W)(p q:Operand)(w:World):(do eqGuard .or 247 p q (uv x) (uv y);binOp .or 247 (uv x) (uv y):Sem Value).run prog w= .ok (uv (x|||y)) w:=by
 have h:=boS x y;unfold uv
 go_simp
 try exact h
theorem sA(x y:W)(p q:Operand)(w:World):(do eqGuard .add 247 p q (uv x) (uv y);binOp .add 247 (uv x) (uv y):Sem Value).run prog w= .ok (uv (x+y)) w:=by
 have h:IntKind.u32.wrap ((x.toNat:Int)+(y.toNat:Int))=((x+y).toNat:Int):=by rw[IntKind.wrap_u32,BitVec.toNat_add];omega
 unfold uv
 go_simp
 try exact h
theorem OZ(x:W)(k:Nat)(hk:k<32)(p q:Operand)(w:World):(do eqGuard .shl 247 p q (uv x) (.int .u64 (k:Nat));binOp .shl 247 (uv x) (.int .u64 (k:Nat)):Sem Value).run prog w= .ok (uv (x<<<k)) w:=by
 have h2:(x<<<k).toNat=(x.toNat*2^k) %4294967296:=by rw[BitVec.toNat_shiftLeft,Nat.shiftLeft_eq]
 have h:IntKind.u32.wrap ((x.toNat:Int)*2^k)=((x.toNat*2^k %4294967296:Nat):Int):=by
  rw[IntKind.wrap_u32];have:((x.toNat:Int)*2^k)=((x.toNat*2^k:Nat):Int):=by rw[Int.natCast_mul,Int.natCast_pow];rfl
  rw[this];omega
 unfold uv;rw[h2];generalize x.toNat=y at h;obtain⟨z,hz⟩: ∃z,y*2^k %4294967296=z:=⟨_,rfl⟩
 rw[hz]at h⊢
 go_simp
 try rw[Nat.min_eq_left (by omega)]
 try exact h
theorem KB(x:W)(k:Nat)(hk:k<32)(p q:Operand)(w:World):(do eqGuard .shr 247 p q (uv x) (.int .u64 (k:Nat));binOp .shr 247 (uv x) (.int .u64 (k:Nat)):Sem Value).run prog w= .ok (uv (x>>>k)) w:=by
 have h:(x>>>k).toNat=x.toNat/2^k:=by rw[BitVec.toNat_ushiftRight,Nat.shiftRight_eq_div_pow]
 unfold uv;rw[h]
 go_simp
 try rw[Nat.min_eq_left (by omega)]
theorem pJ{b:Nat}(h:b<256)(w:World):(convert 5 247 (b8 b)).run prog w= .ok (uv (BitVec.ofNat 32 b)) w:=by
 have e:(BitVec.ofNat 32 b).toNat=b:=by rw[BitVec.toNat_ofNat];omega
 have e2:IntKind.u32.wrap (b:Int)=(b:Int):=by rw[IntKind.wrap_u32];omega
 unfold uv b8 convert;rw[e]
 go_simp
 try exact e2
theorem lP(h:n<32)(w:World):(Op.unary .neg (.int .i64 (n:Nat))).run prog w= .ok (.int .i64 (-(n:Int))) w:=by
 have e:IntKind.i64.wrap (-(n:Int))= -(n:Int):=Ah (by omega) (by omega);unfold Op.unary
 go_simp
theorem cvn(h0:0<n)(h:n<32)(w:World):(convert 3 125 (.int .i64 (-(n:Int)))).run prog w= .ok (.int .u64 ((18446744073709551616-n:Nat):Int)) w:=by
 unfold convert
 go_simp
 rw[IntKind.wrap_u64];omega
theorem ri(h0:0<n)(h:n<32)(p q:Operand)(w:World):(do eqGuard .and 125 p q (.int .u64 ((18446744073709551616-n:Nat):Int)) (.int .u64 31);binOp .and 125 (.int .u64 ((18446744073709551616-n:Nat):Int)) (.int .u64 31):Sem Value).run prog w= .ok (.int .u64 ((32-n:Nat):Int)) w:=by
 have h3:bits .and .u64 ((18446744073709551616-n:Nat):Int) 31=((32-n:Nat):Int):=by
  show IntKind.u64.wrap ((BitVec.ofInt 64 ((18446744073709551616-n:Nat):Int) &&& BitVec.ofInt 64 31).toNat:Int)=_;rw[BitVec.toNat_and,BitVec.toNat_ofInt,BitVec.toNat_ofInt];have h1:(((18446744073709551616-n:Nat):Int) %((2^64:Nat):Int)).toNat=18446744073709551616-n:=by omega
  have h2:((31:Int) %((2^64:Nat):Int)).toNat=2^5-1:=by decide
  rw[h1,h2,Nat.and_two_pow_sub_one_eq_mod,IntKind.wrap_u64];omega
 generalize 18446744073709551616-n=m at h3
 go_simp
 try exact h3
theorem fe(h:n<32)(p q:Operand)(w:World):(do eqGuard .sub 125 p q (.int .u64 32) (.int .u64 ((32-n:Nat):Int));binOp .sub 125 (.int .u64 32) (.int .u64 ((32-n:Nat):Int)):Sem Value).run prog w= .ok (.int .u64 ((n:Nat):Int)) w:=by
 have e:IntKind.u64.wrap (32-((32-n:Nat):Int))=(n:Int):=by rw[IntKind.wrap_u64];omega
 generalize 32-n=m at e
 go_simp
 try exact e
theorem gC(x:W)(h0:0<n)(h:n<32)(w:World):Calls prog 193 #[uv x,.int .i64 (-(n:Int))] w fun e w'=>e= .returned (uv ((x<<<(32-n))|||(x>>>n)))∧Bw w w':=by
 go_enter func193,ntmps193
 refine Hy ?_
 refine k_s (by exact B1 rfl gg rfl (fun w=>cvn h0 h w)) ?_;refine k_s (by exact AK rfl gg rfl rfl (fun w=>ri h0 h _ _ w)) ?_;iterate 6 refine k_k ?_
 refine k_s (by exact AK rfl gg rfl rfl (fun w=>OZ x (32-n) (by omega) _ _ w)) ?_;iterate 2 refine k_k ?_
 refine k_s (by exact AK rfl gg rfl rfl (fun w=>fe h _ _ w)) ?_;refine k_s (by exact AK rfl gg rfl rfl (fun w=>KB x n (by omega) _ _ w)) ?_;refine K3 ?_;iterate 2 refine k_k ?_
 exact AG (AD (AH results193 (AF rfl)) fun _ _ hr=>⟨rfl,hr.1⟩)
theorem Ga(x:W)(h0:0<n)(h:n<32)(w:World):Calls prog 189 #[uv x,.int .i64 (n:Nat)] w fun e w'=>e= .returned (uv (rr x n))∧Bw w w':=by
 go_enter func189,ntmps189
 refine C6 ?_
 refine k_s (by exact NR rfl gg rfl (fun w=>lP h w)) ?_;refine k_s (by exact Ad (v:=uv (rr x n)) rfl gg rfl (eo func193) (fun w' hb=>by have:=gC x h0 h w';rw[BitVec.or_comm]at this;exact this)) ?_;iterate 2 refine k_k ?_
 exact AG (AD (AH results189 (AF rfl)) fun _ _ hr=>⟨rfl,hr.1⟩)
def WL(l:List W):List Value:=l.map uv++List.replicate (64-l.length) (uv 0#32)
theorem ci{l:List W}(h:l.length≤64):(WL l).length=64:=by simp[WL];omega
theorem Nt{l:List W}{j:Nat}(h:j<l.length):(WL l)[j]? =some (uv (l.getD j 0#32)):=by
 rw[WL,List.getElem?_append_left (by simpa using h)];simp[List.getD,h]
theorem cg{l:List W}(x:W)(h:l.length<64):(WL l).take l.length++[uv x]++(WL l).drop (l.length+1)=WL (l++[x]):=by
 have h1:(WL l).take l.length=l.map uv:=by rw[WL,List.take_append_of_le_length (by simp),List.take_of_length_le (by simp)]
 have h2:(WL l).drop (l.length+1)=List.replicate (64-(l.length+1)) (uv 0#32):=by
  rw[WL,List.drop_append,List.drop_of_length_le (by simp),List.nil_append,List.drop_replicate];congr 1
  simp;omega
 rw[h1,h2,WL,List.map_append,List.length_append];rfl
theorem Sr(hn:n≤1000)(p q:Operand)(w:World):(do eqGuard .mul 3 p q (.int .i64 4) (.int .i64 (n:Nat));binOp .mul 3 (.int .i64 4) (.int .i64 (n:Nat)):Sem Value).run prog w= .ok (.int .i64 ((4*n:Nat):Int)) w:=by
 have e:IntKind.i64.wrap (4*(n:Int))=((4*n:Nat):Int):=by rw[Ah (by omega) (by omega)];omega
 go_simp
 try exact e
theorem qZ(a b c d e f g h:W):prog.built 248 [(0,uv a),(1,uv b),(2,uv c),(3,uv d),(4,uv e),(5,uv f),(6,uv g),(7,uv h)]=some #[uv a,uv b,uv c,uv d,uv e,uv f,uv g,uv h]:=by kernel_rfl
def B6(w:World):Prop:= ∀i,i<64→w.cell? ⟨7,i,none⟩=some (uv (K.getD i 0#32))
theorem B6.bw{w':World}(h:B6 w)(hb:Bw w w'):B6 w':=fun i hi=>hb.cell (h i hi)
theorem CL(a c:Nat):decide ((a:Int)<(c:Int))=decide (a<c):=decide_eq_decide.2 (by omega)
theorem Nf{i:Nat}(hv:AO w v 64 1 (b.map b8) S)(hb:b.length=64)(hi:i<16):
 AO w (Ay (4*i) (4*i+4) 1 v) 4 1 [b8 (b.getD (4*i) 0),b8 (b.getD (4*i+1) 0),b8 (b.getD (4*i+2) 0),b8 (b.getD (4*i+3) 0)] S:=by
 have h:=Iw (lo:=4*i) (hi:=4*i+4) hv (by omega) (by omega)
 have hl:(((b.map b8).drop (4*i*1)).take ((4*i+4-4*i)*1))=[b8 (b.getD (4*i) 0),b8 (b.getD (4*i+1) 0),b8 (b.getD (4*i+2) 0),b8 (b.getD (4*i+3) 0)]:=by
  rw[Nat.mul_one,Nat.mul_one,show 4*i+4-4*i=4 by omega];have g: ∀j,j<64→b[j]? =some (b.getD j 0):=fun j hj=>by simp[List.getD,show j<b.length by omega]
  apply List.ext_getElem?;intro j;rw[List.getElem?_take];by_cases hj:j<4
  ·rw[if_pos hj,List.getElem?_drop,List.getElem?_map,g (4*i+j) (by omega)]
   have:j=0∨j=1∨j=2∨j=3:=by omega
   rcases this with rfl|rfl|rfl|rfl<;>rfl
  ·rw[if_neg hj,List.getElem?_eq_none (by simp;omega)]
 rw[hl,show 4*i+4-4*i=4 by omega]at h;exact h
theorem P6(h: ∀x∈b,x<256)(j:Nat):b.getD j 0<256:=by
 by_cases hj:j<b.length
 ·simp[List.getD,hj];exact h _ (List.getElem_mem hj)
 ·simp[List.getD,hj]
theorem Xg(s:St)(w:World)(hL:B6 w)(hv:AO w v 64 1 (b.map b8) S)(hb:b.length=64)(h8: ∀x∈b,x<256):Calls prog 176 #[.agg #[uv (s).a,uv (s).b,uv (s).c,uv (s).d,uv (s).e,uv (s).f,uv (s).g,uv (s).h],v] w fun e w'=>e= .returned (.agg #[uv (press s b).a,uv (press s b).b,uv (press s b).c,uv (press s b).d,uv (press s b).e,uv (press s b).f,uv (press s b).g,uv (press s b).h])∧Bw w w':=by
 obtain⟨M0,hM0⟩: ∃M0,Fv b 16=M0:=⟨_,rfl⟩
 have hM0l:M0.length=16:=by rw[←hM0,Oe]
 obtain⟨Wd,hWd⟩: ∃Wd,Gp M0 48=Wd:=⟨_,rfl⟩
 have hWl:Wd.length=64:=by rw[←hWd,Yi,hM0l]
 have hs1: ∀i,i<16→(WL (Fv b i)).take i++(uv (Qs b i)).cells.toList++(WL (Fv b i)).drop (i+1)=WL (Fv b (i+1)):=fun i hi=>by
  have:=cg (l:=Fv b i) (Qs b i) (by rw[Oe];omega);rw[Oe]at this;exact this
 go_enter func176,ntmps176
 refine A4 ?_;iterate 3 refine k_k ?_
 refine k_s (by exact BZ rfl rfl gg zeroValue248) ?_;iterate 3 refine k_k ?_
 refine k_s (by exact NW (l:=WL []) rfl rfl gg zeroValue262 rfl) ?_;iterate 7 refine k_k ?_
 refine Bo (α:={i:Nat // i≤16}) (fun(x:{i:Nat // i≤16}) f=>⟨[.v (f 0),.v v,.p 2 0,.v (f 3),.p 4 0,.p 5 0,.v (f 6),.v (f 7),.v (f 8),.v (f 9),.v (f 10),.v (f 11),.v (f 12),.v (f 13),.v (f 14),.v (f 15),.v (f 16),.v (f 17),.v (f 18),.v (f 19),.v (f 20),.v (f 21),.v (.int .i64 (x.1:Nat)),.v (f 23),.v (f 24),.v (f 25),.v (f 26),.v (f 27),.v (f 28),.v (f 29),.v (f 30),.v (f 31),.v (f 32),.v (f 33),.v (f 34),.v (f 35),.v (f 36),.v (f 37),.v (f 38),.v (f 39),.v (f 40),.v (f 41),.v (f 42),.v (f 43),.v (f 44),.v (f 45),.v (f 46),.v (f 47),.v (f 48),.v (f 49),.v (f 50),.v (f 51),.v (f 52),.v (f 53),.v (f 54),.v (f 55),.v (f 56),.v (f 57),.v (f 58),.v (f 59),.v (f 60),.v (f 61),.v (f 62),.v (f 63),.v (f 64),.v (f 65),.v (f 66),.v (f 67),.v (f 68),.v (f 69),.v (f 70),.v (f 71),.v (f 72),.v (f 73),.v (f 74),.v (f 75),.v (f 76),.v (f 77),.v (f 78),.v (f 79),.v (f 80),.v (f 81),.v (f 82),.v (f 83),.v (f 84),.v (f 85),.v (f 86),.v (f 87),.v (f 88),.v (f 89),.v (f 90),.v (f 91),.v (f 92),.v (f 93),.v (f 94),.v (f 95),.v (f 96),.v (f 97),.v (f 98),.v (f 99),.v (f 100),.v (f 101),.v (f 102),.v (f 103),.v (f 104),.v (f 105),.v (f 106),.v (f 107),.v (f 108),.v (f 109),.v (f 110),.v (f 111),.v (f 112),.v (f 113),.v (f 114),.v (f 115),.v (f 116),.v (f 117),.v (f 118),.v (f 119),.v (f 120),.v (f 121),.v (f 122),.v (f 123),.v (f 124),.v (f 125),.v (f 126),.v (f 127),.v (f 128),.v (f 129),.v (f 130),.v (f 131),.v (f 132),.v (f 133),.v (f 134),.v (f 135),.v (f 136),.v (f 137),.v (f 138),.v (f 139),.v (f 140),.v (f 141),.v (f 142),.v (f 143),.v (f 144),.v (f 145),.v (f 146),.v (f 147),.v (f 148),.v (f 149),.v (f 150),.v (f 151),.v (f 152),.v (f 153),.v (f 154),.v (f 155),.v (f 156),.v (f 157),.v (f 158),.v (f 159),.v (f 160),.v (f 161),.v (f 162),.v (f 163),.v (f 164),.v (f 165),.v (f 166),.v (f 167),.v (f 168),.v (f 169),.v (f 170),.v (f 171),.v (f 172),.v (f 173),.v (f 174),.v (f 175),.v (f 176),.v (f 177),.v (f 178),.v (f 179),.v (f 180),.v (f 181),.v (f 182),.v (f 183),.v (f 184),.v (f 185),.v (f 186),.v (f 187),.v (f 188),.v (f 189),.v (f 190),.v (f 191),.v (f 192),.v (f 193),.v (f 194),.v (f 195),.v (f 196),.v (f 197),.v (f 198),.v (f 199),.v (f 200),.v (f 201),.v (f 202),.v (f 203),.v (f 204),.v (f 205),.v (f 206)],AJ [(5,.arr (WL (Fv b x.1)) 262),(4,.cells [.v (.int .u32 0),.v (.int .u32 0),.v (.int .u32 0),.v (.int .u32 0),.v (.int .u32 0),.v (.int .u32 0),.v (.int .u32 0),.v (.int .u32 0)] 248),(2,.cells [.v (uv s.a),.v (uv s.b),.v (uv s.c),.v (uv s.d),.v (uv s.e),.v (uv s.f),.v (uv s.g),.v (uv s.h)] 248)]⟩) (fun x=>16-x.1) ?_ (⟨0,Nat.zero_le _⟩) ?_
 ·rintro⟨i,hi⟩ f
  obtain⟨q,h_q⟩: ∃q,decide (i<16)=q:=⟨_,rfl⟩
  have h_q':=(CL i 16).trans h_q;refine Ch ?_
  refine k_s (by exact BM rfl gg rfl rfl h_q') ?_;iterate 2 refine k_k ?_
  cases q
  ·refine k_k ?_
   have h16:i=16:=by have:=of_decide_eq_false h_q;omega
   subst h16;rw[hM0];refine As ?_;change VOk _ _ _ _ _;iterate 6 refine k_k ?_
   refine Bo (α:={i:Nat // i≤48}) (fun(x:{i:Nat // i≤48}) f=>⟨[.v (f 0),.v (f 1),.p 2 0,.v (f 3),.p 4 0,.p 5 0,.v (f 6),.v (f 7),.v (.int .i64 ((16+x.1:Nat):Int)),.v (f 9),.v (f 10),.v (f 11),.v (f 12),.v (f 13),.v (f 14),.v (f 15),.v (f 16),.v (f 17),.v (f 18),.v (f 19),.v (f 20),.v (f 21),.v (f 22),.v (f 23),.v (f 24),.v (f 25),.v (f 26),.v (f 27),.v (f 28),.v (f 29),.v (f 30),.v (f 31),.v (f 32),.v (f 33),.v (f 34),.v (f 35),.v (f 36),.v (f 37),.v (f 38),.v (f 39),.v (f 40),.v (f 41),.v (f 42),.v (f 43),.v (f 44),.v (f 45),.v (f 46),.v (f 47),.v (f 48),.v (f 49),.v (f 50),.v (f 51),.v (f 52),.v (f 53),.v (f 54),.v (f 55),.v (f 56),.v (f 57),.v (f 58),.v (f 59),.v (f 60),.v (f 61),.v (f 62),.v (f 63),.v (f 64),.v (f 65),.v (f 66),.v (f 67),.v (f 68),.v (f 69),.v (f 70),.v (f 71),.v (f 72),.v (f 73),.v (f 74),.v (f 75),.v (f 76),.v (f 77),.v (f 78),.v (f 79),.v (f 80),.v (f 81),.v (f 82),.v (f 83),.v (f 84),.v (f 85),.v (f 86),.v (f 87),.v (f 88),.v (f 89),.v (f 90),.v (f 91),.v (f 92),.v (f 93),.v (f 94),.v (f 95),.v (f 96),.v (f 97),.v (f 98),.v (f 99),.v (f 100),.v (f 101),.v (f 102),.v (f 103),.v (f 104),.v (f 105),.v (f 106),.v (f 107),.v (f 108),.v (f 109),.v (f 110),.v (f 111),.v (f 112),.v (f 113),.v (f 114),.v (f 115),.v (f 116),.v (f 117),.v (f 118),.v (f 119),.v (f 120),.v (f 121),.v (f 122),.v (f 123),.v (f 124),.v (f 125),.v (f 126),.v (f 127),.v (f 128),.v (f 129),.v (f 130),.v (f 131),.v (f 132),.v (f 133),.v (f 134),.v (f 135),.v (f 136),.v (f 137),.v (f 138),.v (f 139),.v (f 140),.v (f 141),.v (f 142),.v (f 143),.v (f 144),.v (f 145),.v (f 146),.v (f 147),.v (f 148),.v (f 149),.v (f 150),.v (f 151),.v (f 152),.v (f 153),.v (f 154),.v (f 155),.v (f 156),.v (f 157),.v (f 158),.v (f 159),.v (f 160),.v (f 161),.v (f 162),.v (f 163),.v (f 164),.v (f 165),.v (f 166),.v (f 167),.v (f 168),.v (f 169),.v (f 170),.v (f 171),.v (f 172),.v (f 173),.v (f 174),.v (f 175),.v (f 176),.v (f 177),.v (f 178),.v (f 179),.v (f 180),.v (f 181),.v (f 182),.v (f 183),.v (f 184),.v (f 185),.v (f 186),.v (f 187),.v (f 188),.v (f 189),.v (f 190),.v (f 191),.v (f 192),.v (f 193),.v (f 194),.v (f 195),.v (f 196),.v (f 197),.v (f 198),.v (f 199),.v (f 200),.v (f 201),.v (f 202),.v (f 203),.v (f 204),.v (f 205),.v (f 206)],AJ [(5,.arr (WL (Gp M0 x.1)) 262),(4,.cells [.v (.int .u32 0),.v (.int .u32 0),.v (.int .u32 0),.v (.int .u32 0),.v (.int .u32 0),.v (.int .u32 0),.v (.int .u32 0),.v (.int .u32 0)] 248),(2,.cells [.v (uv s.a),.v (uv s.b),.v (uv s.c),.v (uv s.d),.v (uv s.e),.v (uv s.f),.v (uv s.g),.v (uv s.h)] 248)]⟩) (fun x=>48-x.1) ?_ (⟨0,Nat.zero_le _⟩) ?_
   ·rintro⟨i,hi⟩ f
    obtain⟨q2,h_q2⟩: ∃q,decide (16+i<64)=q:=⟨_,rfl⟩
    have h_q2':=(CL (16+i) 64).trans h_q2;obtain⟨M,hM⟩: ∃M,Gp M0 i=M:=⟨_,rfl⟩
    have hMl:M.length=16+i:=by rw[←hM,Yi,hM0l]
    rw[hM];refine CN ?_
    refine k_s (by exact BM rfl gg rfl rfl h_q2') ?_;refine k_k ?_;cases q2
    ·refine k_k ?_
     have h48:i=48:=by have:=of_decide_eq_false h_q2;omega
     have hMs:M=Wd:=by rw[←hM,h48];exact hWd
     clear hM;subst h48;rw[hMs];refine As ?_;refine Ch ?_
     refine Du ?_;refine Dt ?_;refine Du ?_;refine Dt ?_;refine Du ?_;refine Dt ?_;refine Du ?_;refine Dt ?_;refine Du ?_;refine Dt ?_;refine Du ?_;refine Dt ?_;refine Du ?_;refine Dt ?_;refine Du ?_;refine Dt ?_;iterate 15 refine k_k ?_
     refine Bo (α:={i:Nat // i≤64}) (fun(x:{i:Nat // i≤64}) f=>⟨[.v (f 0),.v (f 1),.p 2 0,.v (f 3),.p 4 0,.p 5 0,.v (f 6),.v (f 7),.v (f 8),.v (f 9),.v (f 10),.v (uv (St.run Wd s x.1).a),.v (uv (St.run Wd s x.1).b),.v (uv (St.run Wd s x.1).c),.v (uv (St.run Wd s x.1).d),.v (uv (St.run Wd s x.1).e),.v (uv (St.run Wd s x.1).f),.v (uv (St.run Wd s x.1).g),.v (uv (St.run Wd s x.1).h),.v (f 19),.v (f 20),.v (f 21),.v (f 22),.v (f 23),.v (f 24),.v (f 25),.v (f 26),.v (f 27),.v (f 28),.v (f 29),.v (f 30),.v (f 31),.v (f 32),.v (f 33),.v (f 34),.v (f 35),.v (f 36),.v (f 37),.v (f 38),.v (f 39),.v (f 40),.v (f 41),.v (f 42),.v (f 43),.v (f 44),.v (f 45),.v (f 46),.v (f 47),.v (f 48),.v (f 49),.v (f 50),.v (f 51),.v (f 52),.v (f 53),.v (f 54),.v (f 55),.v (f 56),.v (f 57),.v (f 58),.v (f 59),.v (f 60),.v (f 61),.v (f 62),.v (f 63),.v (f 64),.v (f 65),.v (f 66),.v (f 67),.v (f 68),.v (f 69),.v (f 70),.v (f 71),.v (f 72),.v (f 73),.v (f 74),.v (f 75),.v (f 76),.v (f 77),.v (f 78),.v (f 79),.v (f 80),.v (f 81),.v (f 82),.v (f 83),.v (f 84),.v (f 85),.v (f 86),.v (f 87),.v (f 88),.v (f 89),.v (f 90),.v (f 91),.v (f 92),.v (f 93),.v (f 94),.v (f 95),.v (f 96),.v (f 97),.v (f 98),.v (f 99),.v (f 100),.v (f 101),.v (f 102),.v (f 103),.v (f 104),.v (f 105),.v (f 106),.v (f 107),.v (f 108),.v (f 109),.v (f 110),.v (f 111),.v (f 112),.v (f 113),.v (.int .i64 (x.1:Nat)),.v (f 115),.v (f 116),.v (f 117),.v (f 118),.v (f 119),.v (f 120),.v (f 121),.v (f 122),.v (f 123),.v (f 124),.v (f 125),.v (f 126),.v (f 127),.v (f 128),.v (f 129),.v (f 130),.v (f 131),.v (f 132),.v (f 133),.v (f 134),.v (f 135),.v (f 136),.v (f 137),.v (f 138),.v (f 139),.v (f 140),.v (f 141),.v (f 142),.v (f 143),.v (f 144),.v (f 145),.v (f 146),.v (f 147),.v (f 148),.v (f 149),.v (f 150),.v (f 151),.v (f 152),.v (f 153),.v (f 154),.v (f 155),.v (f 156),.v (f 157),.v (f 158),.v (f 159),.v (f 160),.v (f 161),.v (f 162),.v (f 163),.v (f 164),.v (f 165),.v (f 166),.v (f 167),.v (f 168),.v (f 169),.v (f 170),.v (f 171),.v (f 172),.v (f 173),.v (f 174),.v (f 175),.v (f 176),.v (f 177),.v (f 178),.v (f 179),.v (f 180),.v (f 181),.v (f 182),.v (f 183),.v (f 184),.v (f 185),.v (f 186),.v (f 187),.v (f 188),.v (f 189),.v (f 190),.v (f 191),.v (f 192),.v (f 193),.v (f 194),.v (f 195),.v (f 196),.v (f 197),.v (f 198),.v (f 199),.v (f 200),.v (f 201),.v (f 202),.v (f 203),.v (f 204),.v (f 205),.v (f 206)],AJ [(5,.arr (WL (Wd)) 262),(4,.cells [.v (.int .u32 0),.v (.int .u32 0),.v (.int .u32 0),.v (.int .u32 0),.v (.int .u32 0),.v (.int .u32 0),.v (.int .u32 0),.v (.int .u32 0)] 248),(2,.cells [.v (uv s.a),.v (uv s.b),.v (uv s.c),.v (uv s.d),.v (uv s.e),.v (uv s.f),.v (uv s.g),.v (uv s.h)] 248)]⟩) (fun x=>64-x.1) ?_ (⟨0,Nat.zero_le _⟩) ?_
     ·rintro⟨j,hj⟩ f
      obtain⟨q3,h_q3⟩: ∃q,decide (j<64)=q:=⟨_,rfl⟩
      have h_q3':=(CL j 64).trans h_q3;obtain⟨Q,hQ⟩: ∃Q,St.run Wd s j=Q:=⟨_,rfl⟩
      rw[hQ];refine Ch ?_
      refine k_s (by exact BM rfl gg rfl rfl h_q3') ?_;iterate 2 refine k_k ?_
      cases q3
      ·refine k_k ?_
       have h64:j=64:=by have:=of_decide_eq_false h_q3;omega
       subst h64;refine As ?_;refine Ch ?_
       refine Du ?_;refine Dt ?_;refine E3 ?_;refine Du ?_;refine Dt ?_;refine E3 ?_;refine Du ?_;refine Dt ?_;refine E3 ?_;refine Du ?_;refine Dt ?_;refine E3 ?_;refine Du ?_;refine Dt ?_;refine E3 ?_;refine Du ?_;refine Dt ?_;refine E3 ?_;refine Du ?_;refine Dt ?_;refine E3 ?_;refine Du ?_;refine Dt ?_;refine E3 ?_;refine k_s (by exact A6 rfl gg rfl (qZ _ _ _ _ _ _ _ _)) ?_;refine Pj ?_;refine EP ?_;refine AD (AH results176 (Ac rfl rfl underlying248 rfl sizeOf248 rfl rfl)) ?_;intro ρ w' hr;refine⟨?_,hr.1⟩;have e:press s b=s.add Q:=by unfold press Vw;rw[hM0,hWd,hQ]
       rw[e];rfl
      ·refine k_k ?_
       have hlt:j<64:=of_decide_eq_true h_q3;iterate 12 refine k_k ?_
       refine k_s (by exact Ad (v:=uv (rr (Q.e) 6)) rfl gg rfl (eo func189) (fun w' hb=>Ga (Q.e) (by decide) (by decide) w')) ?_;refine k_k ?_;refine k_s (by exact Ad (v:=uv (rr (Q.e) 11)) rfl gg rfl (eo func189) (fun w' hb=>Ga (Q.e) (by decide) (by decide) w')) ?_;refine Gu ?_;refine k_k ?_;refine k_s (by exact Ad (v:=uv (rr (Q.e) 25)) rfl gg rfl (eo func189) (fun w' hb=>Ga (Q.e) (by decide) (by decide) w')) ?_;refine Gu ?_;refine F8 ?_;iterate 4 refine k_k ?_
       refine Gu ?_;refine k_s (by exact AK rfl gg rfl rfl (fun w=>Ua _ _ _ _ w)) ?_;refine Gu ?_;refine F8 ?_;refine k_k ?_;refine k_s (by exact oM (k:=j) (j:=j) rfl gg rfl rfl underlying262 sizeOf247 (by omega) (by omega)) ?_;refine k_s (by exact BR rfl gg rfl underlying247 rfl (hL j (by omega))) ?_;refine F8 ?_;refine k_k ?_;refine k_s (by exact GH (k:=j) (j:=j) rfl gg rfl rfl underlying262 sizeOf247 (by omega) (by omega)) ?_;refine k_s (by exact NT (v:=uv (Wd.getD j 0#32)) rfl gg rfl rfl underlying247 rfl (Nt (by omega))) ?_;refine F8 ?_;iterate 5 refine k_k ?_
       refine k_s (by exact Ad (v:=uv (rr (Q.a) 2)) rfl gg rfl (eo func189) (fun w' hb=>Ga (Q.a) (by decide) (by decide) w')) ?_;refine k_k ?_;refine k_s (by exact Ad (v:=uv (rr (Q.a) 13)) rfl gg rfl (eo func189) (fun w' hb=>Ga (Q.a) (by decide) (by decide) w')) ?_;refine Gu ?_;refine k_k ?_;refine k_s (by exact Ad (v:=uv (rr (Q.a) 22)) rfl gg rfl (eo func189) (fun w' hb=>Ga (Q.a) (by decide) (by decide) w')) ?_;refine Gu ?_;iterate 2 refine k_k ?_
       refine k_s (by exact AK rfl gg rfl rfl (fun w=>Ua _ _ _ _ w)) ?_;iterate 3 refine k_k ?_
       refine K3 ?_;refine k_s (by exact AK rfl gg rfl rfl (fun w=>Ua _ _ _ _ w)) ?_;refine K3 ?_;refine F8 ?_;iterate 8 refine k_k ?_
       refine F8 ?_;iterate 5 refine k_k ?_
       refine F8 ?_;iterate 10 refine k_k ?_
       refine k_s (by exact BE (c:=((j+1:Nat):Int)) rfl gg rfl rfl (by rw[Ah (by omega) (by omega)];omega)) ?_;iterate 2 refine k_k ?_
       refine⟨⟨j+1,by omega⟩,by show 64-(j+1)<64-j;omega,?_⟩;have hst:St.run Wd s (j+1)=Q.step (K.getD j 0#32) (Wd.getD j 0#32):=by rw[←hQ];rfl
       simp only[hst];exact Ar (fun i=>i==2||i==4||i==5||i==11||i==12||i==13||i==14||i==15||i==16||i==17||i==18||i==114) []
     ·exact Ar (fun i=>i==2||i==4||i==5||i==11||i==12||i==13||i==14||i==15||i==16||i==17||i==18||i==114) []
    ·refine k_k ?_
     have hlt:16+i<64:=of_decide_eq_true h_q2;iterate 6 refine k_k ?_
     refine k_s (by exact Bu (c:=((1+i:Nat):Int)) rfl gg rfl rfl (by rw[Ah (by omega) (by omega)];omega)) ?_;refine k_s (by exact GH (k:=1+i) (j:=1+i) rfl gg rfl rfl underlying262 sizeOf247 (by omega) (by omega)) ?_;refine k_s (by exact NT (v:=uv (M.getD (1+i) 0#32)) rfl gg rfl rfl underlying247 rfl (Nt (by omega))) ?_;refine k_k ?_;refine k_s (by exact Bu (c:=((14+i:Nat):Int)) rfl gg rfl rfl (by rw[Ah (by omega) (by omega)];omega)) ?_;refine k_s (by exact GH (k:=14+i) (j:=14+i) rfl gg rfl rfl underlying262 sizeOf247 (by omega) (by omega)) ?_;refine k_s (by exact NT (v:=uv (M.getD (14+i) 0#32)) rfl gg rfl rfl underlying247 rfl (Nt (by omega))) ?_;iterate 6 refine k_k ?_
     refine k_s (by exact Bu (c:=((i:Nat):Int)) rfl gg rfl rfl (by rw[Ah (by omega) (by omega)];omega)) ?_;refine k_s (by exact GH (k:=i) (j:=i) rfl gg rfl rfl underlying262 sizeOf247 (by omega) (by omega)) ?_;refine k_s (by exact NT (v:=uv (M.getD i 0#32)) rfl gg rfl rfl underlying247 rfl (Nt (by omega))) ?_;refine k_k ?_;refine k_s (by exact Bu (c:=((9+i:Nat):Int)) rfl gg rfl rfl (by rw[Ah (by omega) (by omega)];omega)) ?_;refine k_s (by exact GH (k:=9+i) (j:=9+i) rfl gg rfl rfl underlying262 sizeOf247 (by omega) (by omega)) ?_;refine k_s (by exact NT (v:=uv (M.getD (9+i) 0#32)) rfl gg rfl rfl underlying247 rfl (Nt (by omega))) ?_;refine F8 ?_;refine k_k ?_;refine k_s (by exact Ad (v:=uv (rr ((M.getD (1+i) 0#32)) 7)) rfl gg rfl (eo func189) (fun w' hb=>Ga ((M.getD (1+i) 0#32)) (by decide) (by decide) w')) ?_;refine k_k ?_;refine k_s (by exact Ad (v:=uv (rr ((M.getD (1+i) 0#32)) 18)) rfl gg rfl (eo func189) (fun w' hb=>Ga ((M.getD (1+i) 0#32)) (by decide) (by decide) w')) ?_;refine Gu ?_;refine k_k ?_;refine k_s (by exact AK rfl gg rfl rfl (fun w=>KB _ 3 (by decide) _ _ w)) ?_;refine Gu ?_;refine F8 ?_;refine k_k ?_;refine k_s (by exact Ad (v:=uv (rr ((M.getD (14+i) 0#32)) 17)) rfl gg rfl (eo func189) (fun w' hb=>Ga ((M.getD (14+i) 0#32)) (by decide) (by decide) w')) ?_;refine k_k ?_;refine k_s (by exact Ad (v:=uv (rr ((M.getD (14+i) 0#32)) 19)) rfl gg rfl (eo func189) (fun w' hb=>Ga ((M.getD (14+i) 0#32)) (by decide) (by decide) w')) ?_;refine Gu ?_;refine k_k ?_;refine k_s (by exact AK rfl gg rfl rfl (fun w=>KB _ 10 (by decide) _ _ w)) ?_;refine Gu ?_;refine F8 ?_;refine k_s (by exact GH (k:=16+i) (j:=16+i) rfl gg rfl rfl underlying262 sizeOf247 (by omega) (by omega)) ?_;refine ZH ?_;iterate 3 refine k_k ?_
     refine k_s (by exact BE (c:=((16+i+1:Nat):Int)) rfl gg rfl rfl (by rw[Ah (by omega) (by omega)];omega)) ?_;iterate 2 refine k_k ?_
     refine⟨⟨i+1,by omega⟩,by show 48-(i+1)<48-i;omega,?_⟩
     have hst:M++[M.getD i 0#32+M.getD (9+i) 0#32+(rr (M.getD (1+i) 0#32) 7^^^rr (M.getD (1+i) 0#32) 18^^^M.getD (1+i) 0#32>>>3)+(rr (M.getD (14+i) 0#32) 17^^^rr (M.getD (14+i) 0#32) 19^^^M.getD (14+i) 0#32>>>10)]=Gp M0 (i+1):=by
      simp only[Gp,YV,hM,hMl,g0,g1];rw[show 16+i-16=i by omega,show 16+i-7=9+i by omega,show 16+i-15=1+i by omega,show 16+i-2=14+i by omega]
     rw[hst];exact Ar (fun i=>i==2||i==4||i==5||i==8) []
   ·exact Ar (fun i=>i==2||i==4||i==5||i==8) []
  ·refine k_k ?_
   have hlt:i<16:=of_decide_eq_true h_q;iterate 12 refine k_k ?_
   refine k_s (by exact AK rfl gg rfl rfl (fun w=>Sr (n:=i) (by omega) _ _ w)) ?_;refine k_k ?_;refine k_s (by exact AK rfl gg rfl rfl (fun w=>Sr (n:=i) (by omega) _ _ w)) ?_;refine k_s (by exact BE (c:=((4*i+4:Nat):Int)) rfl gg rfl rfl (by rw[Ah (by omega) (by omega)];omega)) ?_;refine k_s (by exact Fa (a:=4*i) (b:=4*i+4) (v':=Ay (4*i) (4*i+4) 1 v) rfl gg rfl underlying23 sizeOf5 (AW hv) rfl rfl (by omega) (by omega) rfl) ?_;iterate 5 refine k_k ?_
   refine k_s (by exact Bc (k:=0) rfl gg rfl rfl underlying23 sizeOf5 (AW (Nf hv hb (by omega))) (by decide) (by decide)) ?_;refine Pr ?_;refine Ph ?_;refine k_s (by exact AK rfl gg rfl rfl (fun w=>OZ _ 24 (by decide) _ _ w)) ?_;refine k_k ?_;refine k_s (by exact Bc (k:=1) rfl gg rfl rfl underlying23 sizeOf5 (AW (Nf hv hb (by omega))) (by decide) (by decide)) ?_;refine Pr ?_;refine Ph ?_;refine k_s (by exact AK rfl gg rfl rfl (fun w=>OZ _ 16 (by decide) _ _ w)) ?_;refine K3 ?_;refine k_k ?_;refine k_s (by exact Bc (k:=2) rfl gg rfl rfl underlying23 sizeOf5 (AW (Nf hv hb (by omega))) (by decide) (by decide)) ?_;refine Pr ?_;refine Ph ?_;refine k_s (by exact AK rfl gg rfl rfl (fun w=>OZ _ 8 (by decide) _ _ w)) ?_;refine K3 ?_;refine k_k ?_;refine k_s (by exact Bc (k:=3) rfl gg rfl rfl underlying23 sizeOf5 (AW (Nf hv hb (by omega))) (by decide) (by decide)) ?_;refine Pr ?_;refine Ph ?_;refine K3 ?_;refine k_s (by exact GH (k:=i) (j:=i) rfl gg rfl rfl underlying262 sizeOf247 (by omega) (by omega)) ?_;refine ZH ?_;iterate 2 refine k_k ?_
   refine ER ?_;iterate 2 refine k_k ?_
   refine⟨⟨i+1,by omega⟩,by show 16-(i+1)<16-i;omega,?_⟩;exact Ar (fun i=>i==1||i==2||i==4||i==5||i==22) []
 ·exact Ar (fun i=>i==1||i==2||i==4||i==5||i==22) []
end Go.Proofs.YtafbhakmkbehiaaGreatDoor
