import Derived.Test.YtefpajmkaaielaaGreatDoorW5
import Derived.Test.YtefpajmkaaielaaGreatDoorW6
open Go.Proofs.Tryz
set_option maxHeartbeats 4000000
set_option maxRecDepth 100000
namespace TollEc
open TollNt
noncomputable def AZ:Nat→Pt→Pt
 |0,_=> .inf
 |k+1,p=>add (AZ k p) p
theorem smul_on{p:Pt}(hp:p.on): ∀k,(AZ k p).on
 |0=>True.intro
 |k+1=>on_add (smul_on hp k) hp
theorem Oy: ∀k,AZ k .inf= .inf
 |0=>rfl
 |k+1=>by rw[AZ,Oy k];rfl
theorem S4(p:Pt):AZ 1 p=p:=by simp only[AZ,EN]
theorem smul_add{p:Pt}(hp:p.on)(a:Nat): ∀b,AZ (a+b) p=add (AZ a p) (AZ b p)
 |0=>by rw[Nat.add_zero];exact(F1 _).symm
 |b+1=>by
  rw[←Nat.add_assoc,AZ,smul_add hp a b,AZ,add_assoc (smul_on hp a) (smul_on hp b) hp]
theorem smul_mul{p:Pt}(hp:p.on)(a:Nat): ∀b,AZ (a*b) p=AZ b (AZ a p)
 |0=>rfl
 |b+1=>by rw[Nat.mul_succ,smul_add hp,smul_mul hp a b,AZ]
def ladder(n:Nat)(t:Jp):Nat→Jp
 |0=> .inf
 |i+1=>let r:=CX (ladder n t i);if n/2^(255-i) %2=1 then Cz r t else r
theorem kb(n:Nat)(t:Jp)(ht:t.rep.on): ∀i,i≤256→(ladder n t i).rep=AZ (n/2^(256-i) %2^i) t.rep:=by
 intro i
 induction i with
 |zero=>intro _;simp only[ladder,Nat.pow_zero,Nat.mod_one,AZ];exact rep_inf rfl
 |succ i ih=>
  intro hi;have h1:=ih (by omega)
  have hd:(CX (ladder n t i)).rep=AZ (2*(n/2^(256-i) %2^i)) t.rep:=by
   rw[NC,h1,Nat.two_mul,smul_add ht]
  have e1:n/2^(256-i)=n/2^(255-i)/2:=by
   rw[show 256-i=(255-i)+1 by omega,Nat.pow_succ,Nat.div_div_eq_div_mul]
  have e2:256-(i+1)=255-i:=by omega
  have e3: ∀m:Nat,m %2^(i+1)=2*(m/2 %2^i)+m %2:=by
   intro m;rw[Nat.pow_succ,Nat.mul_comm,Nat.mod_mul];omega
  have hdon:(CX (ladder n t i)).rep.on:=by rw[hd];exact smul_on ht _
  rw[e2,e3,←e1];simp only[ladder];split
  ·rename_i hb
   rw[jadd_rep _ _ hdon ht,hd,hb];rfl
  ·rename_i hb
   rw[hd];have:n/2^(255-i) %2=0:=by omega
   rw[this,Nat.add_zero]
theorem ladder_all(n:Nat)(hn:n<2^256)(t:Jp)(ht:t.rep.on):(ladder n t 256).rep=AZ n t.rep:=by
 rw[kb n t ht 256 (by omega)];congr 1
 rw[Nat.sub_self,Nat.pow_zero,Nat.div_one];exact Nat.mod_eq_of_lt hn
def bx:F:=48439561293906451759052585252797914202762949526041747995844080717082404635286
def bY:F:=36134250956749795798585127919587881956611106672985015071877198253568414405109
def bj:Jp:=⟨bx,bY,1⟩
def base:Pt:= .aff bx bY
abbrev nn:Nat:=115792089210356248762697446949407573529996955224135760342422259061068512044369
theorem base_on:base.on:=by
 show bY*bY=bx*bx*bx-3*bx+cb;decide+kernel
theorem rep_one(x y:F):(⟨x,y,1⟩:Jp).rep= .aff x y:=by
 rw[rep_of (i:=1) (show(1:F)*1=1 by decide+kernel)];congr 1
 ·show x*(1*1)=x;grind-lia
 ·show y*(1*(1*1))=y;grind-lia
theorem bj_rep:bj.rep=base:=rep_one _ _
theorem fN:(ladder nn bj 256).z=0:=by decide+kernel
theorem UE:AZ nn base= .inf:=by
 have:=ladder_all nn (by decide) bj (by rw[bj_rep];exact base_on);rw[bj_rep,rep_inf fN]at this;exact this.symm
theorem smul_mod(k:Nat):AZ (k %nn) base=AZ k base:=by
 have e:=Nat.div_add_mod k nn
 conv=>rhs;rw[←e]
 rw[smul_add base_on,smul_mul base_on,UE,Oy,EN]
theorem smul_eq_inf{k:Nat}(h:AZ k base= .inf):nn∣k:=by
 have hp:Prm nn:=prm_115792089210356248762697446949407573529996955224135760342422259061068512044369;apply Classical.byContradiction;intro hc;have hcop:=hp.coprime hc
 have key: ∀a b:Nat,AZ a base= .inf→AZ b base= .inf→AZ (Nat.gcd a b) base= .inf:=by
  intro a b
  induction a,b using Nat.gcd.induction with
  |H0 b=>intro _ h;simpa using h
  |H1 a b ha ih=>
   intro h1 h2;rw[Nat.gcd_rec];refine ih ?_ h1;have e:=Nat.div_add_mod b a;rw[←e,smul_add base_on,smul_mul base_on,h1,Oy,EN]at h2;exact h2
 have:=key k nn h UE;rw[hcop,S4]at this;exact absurd this (by simp[base])
end TollEc
namespace Go.Vx
open Go.RowKit Go.Toll
variable{ki:IntKind}{rd:List Nat}{fr:List SV}{l':List Value}{id j k n off:Nat}{ix x:Operand}{P:Program}{e el:TypeId}
def Hy(w:World):World:={w with heap:= #[]}
theorem qp(w:World):Bw (Hy w) w:=⟨rfl,rfl,rfl,Nat.zero_le _,fun k hk=>absurd hk (Nat.not_lt_zero k)⟩
def I5(w:World)(X:Nat→Prop):Dat:=⟨fun _ w' S=> ∀k,k<w.heap.size→ ¬X k→(w'.heap[k]? =w.heap[k]? ∧S k),fun h hk k h1 h2=>by
 obtain⟨h3,h4⟩:=h k h1 h2;exact⟨(hk k h4).trans h3,h4⟩⟩
theorem Z1{c:Code}{l:List Value}{w:World}{R:Exit→Act→World→Prop}{m:Mem}(ρ0:Nat→Nm)(hact:fr.map (SV.c ρ0)=l)(hrel:Rel (Hy w) ρ0 ⟨fr,m⟩ w)
 (h:VOk P (Hy w) ⟨fr,m⟩ c fun e s'=> ∀ρ w',Rel (Hy w) ρ s' w'→R e (s'.act ρ) w'):c.wp P R ⟨l.toArray,[]⟩ w:=by
 have h1:(⟨l.toArray,[]⟩:Act)=(⟨fr,m⟩:VS).act ρ0:=by
  simp[VS.act,hact]
 rw[h1];exact h ρ0 w R hrel fun _ ρ _ w' hq hr=>hq ρ w' hr
section
variable{P:Program}{w0:World}{ops:Array Oper}{o:Oper}{s:VS}
theorem Eo{ty:TypeId}(ho:o.op= .indexAddr ty x ix)(hgd:AR ops o s)(hx:AC s x= .p id off)(hi:AC s ix= .v (.int ki (k:Nat)))
 (hu:P.underlying ty=some (.array n el))(hs: ∀w,(Go.sizeOf el).run P w= .ok 1 w)(hk:k<n)(hj:off+k=j):Ev P ops w0 o s ⟨.p id j,[],[],[],[]⟩:=by
 have:=Gk (w0:=w0) ho hgd hx hi hu hs (Int.natCast_nonneg k) (by omega);simpa[hj] using this
theorem oC{ty:TypeId}{g:Nat}(ho:o.op= .indexAddr ty x ix)(hgd:AR ops o s)(hx:AC s x= .v (.pointer (some ⟨g,off,none⟩)))(hi:AC s ix= .v (.int ki (k:Nat)))
 (hu:P.underlying ty=some (.array n el))(hs: ∀w,(Go.sizeOf el).run P w= .ok 1 w)(hk:k<n)(hj:off+k=j):Ev P ops w0 o s ⟨.v (.pointer (some ⟨g,j,none⟩)),[],[],[],[]⟩:=by
 have:=Gj (w0:=w0) ho hgd hx hi hu hs (Int.natCast_nonneg k) (by omega);simpa[hj] using this
theorem XN{ty:TypeId}{lo:Operand}{id2 a m size:Nat}{l:List Value}(_hd:o.dst=some id2)(ho:o.op= .slice ty x (some lo) none none)(hgd:AR ops o s)(hx:AC s x= .d id)(hm:s.mem id=some (.row n size e (.exact l)))
 (hu:P.underlying ty=some (.slice e))(hs: ∀w,(Go.sizeOf e).run P w= .ok size w)
 (hlo:AC s lo= .v (.int .i64 (a:Nat)))(h2:a≤n)(hl:l.drop (a*size)=l')(hln:l.length=n*size)(hmn:n-a=m):
 Ev P ops w0 o s ⟨.d id2,[(id2,.row m size e (.exact l'))],[id],[id2],[id]⟩:=by
 subst hmn;refine⟨by simp[Eff.ok],.inr ⟨hgd,fun ρ S w hb hR=> ?_⟩⟩;have hrun:=Q3 (a:=a) (b:=n) ho hx hu hs (BI hm) hlo rfl h2 (Nat.le_refl _) ρ S w hb hR;obtain⟨xs,g1,g2,g3⟩:=A6 hR hm (by simp);have g2':xs=l:=g2;subst g2';have hmul:=Nat.mul_le_mul_right size h2;have hsub:(n-a)*size=n*size-a*size:=Nat.sub_mul n a size
 have hrow:Ey w w0.heap.size ⟨(ρ id).g,As a n size (ρ id).val⟩ (n-a) size e l':=by
  rcases g3 with⟨h1,h2'⟩|⟨off,cap,cur,fz,h1',h2',h3',h4',h5',h6',h7',h8'⟩
  ·left
   subst h2';obtain rfl:a=0:=by omega
   refine⟨?_,rfl⟩;rw[h1];simp[As]
  ·right
   have hcm:=Nat.mul_le_mul_right size h5';by_cases hc:cap=a
   ·have hna:n=a:=by omega
    refine⟨off,0,cur,fz,?_,h2',h3',h4',by omega,by omega,by omega,?_⟩
    ·rw[h1'];simp only[As,if_pos hc];rw[show n-a=0 by omega,show cap-a=0 by omega]
    ·rw[show n-a=0 by omega,Nat.zero_mul,List.take_zero,←hl,List.drop_of_length_le (by rw[hln,hna];exact Nat.le_refl _)]
   ·have hcs:(cap-a)*size=cap*size-a*size:=Nat.sub_mul cap a size
    have hac:=Nat.mul_le_mul_right size (show a≤cap by omega);refine⟨off+a*size,cap-a,cur,fz,?_,h2',h3',h4',by omega,by omega,by omega,?_⟩
    ·rw[h1'];simp[As,if_neg hc,Addr.add]
    ·rw[←hl,←h8',List.drop_take,List.drop_drop,hsub]
 have hnil:As a n size (ρ id).val≠ .slice none 0 0→(ρ id).val≠ .slice none 0 0:=fun h c=>by
  rcases g3 with⟨_,h0⟩|⟨off,cap,cur,fz,h1',_⟩
  ·apply h;rw[c];obtain rfl:a=0:=by omega
   subst h0;simp[As]
  ·rw[h1']at c;cases c
 refine .inl ⟨_,w,hrun,fun j=>if j=id2 then⟨(ρ id).g,As a n size (ρ id).val⟩else ρ j,fun _ _=>False,?_⟩
 have:=Cu (base:=w0.heap.size) (t:=s.mem) (ρ:=ρ) (S:=S) (w:=w) (w':=w) (val:= .d id2) (rd:=[id]) (up:=[id]) (id:=id2) (b:= .row (n-a) size e (.exact l')) (m:=⟨(ρ id).g,As a n size (ρ id).val⟩) (S1:=fun _=>False)
  rfl rfl rfl (Nat.le_refl _) (fun k hk _=>rfl) (fun ρ2 h1 _=>⟨l',by rw[←hl,List.length_drop,hln,hsub],rfl,by rw[h1];exact hrow⟩) (fun _ h=>h.elim)
  (fun hob=> .inl ⟨id,by simp,_,hm,hnil hob,rfl⟩)
 simpa[SV.c] using this
theorem TD(w:World)(dT sT ty elem:TypeId)(g o dLen dCap:Nat)(a:Addr)(sLen sCap:Nat)(cur:Array Value)(t:TypeId)(fz:Nat×Nat)(cs:List Value)
 (hu:P.underlying dT=some (.slice elem))(hs:(P.info? elem).map (·.size)=some 1)
 (hg:w.heap[g]? =some (.cells cur t fz))(hz: ∀k,k<cur.size→ ¬(fz.1≤k∧k<fz.2))(hn:cs.length=Nat.min sLen dLen)
 (hsrc: ∀j v,cs[j]? =some v→w.cell? (a.add j)=some v)(hfit:o+cs.length≤cur.size)(h1: ∀v∈cs,v.oneCell'=true):
 (Builtin.copy_ #[dT,sT] ty #[.slice (some ⟨g,o,none⟩) dLen dCap,.slice (some a) sLen sCap]).run P w=
  .ok (goInt cs.length) (w.setRow g (cur.toList.take o++cs++cur.toList.drop (o+cs.length)).toArray):=by
 have hl:=run_loadCells_list (P:=P) w a cs hsrc;have hst:=L9 (P:=P) g o t fz cs 0 cur w hg hz (by simpa using hfit) h1;simp only[Nat.add_zero]at hst;cases hq:P.info? elem with
 |none=>simp[hq]at hs
 |some i=>
  have hi:i.size=1:=by simpa[hq] using hs
  simp[Builtin.copy_,run_underlying hu,Builtin.lenOf,Builtin.firstCells,sizeOf,typeInfo,hq,hi,←hn,hl,hst]
theorem oL{dT sT:TypeId}{y:Operand}{l news:List Value}{sv:SV}(ho:o.op= .call {callee:= .builtin .copy,args:= #[x,y],argTypes:= #[dT,sT]})(hgd:AR ops o s)
 (hx:AC s x= .d id)(hm:s.mem id=some (.row n 1 e (.exact l)))(hy:AC s y=sv)(hr:Rdg w0 s.mem rd sv k 1 news)(hu:P.underlying dT=some (.slice e))(hs:(P.info? e).map (·.size)=some 1)
 (hkn:k≤n)(hk0:0<k)(hpos:0<n)(h1:news.all (·.oneCell')=true)(hl':news++l.drop k=l'):
 Ev P ops w0 o s ⟨.v (.int .i64 (k:Nat)),[(id,.row n 1 e (.exact l'))],[id],[],id::rd⟩:=
 Ev.wrv id _ _ _ _ hgd hm (by simp) fun ρ S w hb hR=>by
  have e1:=AH s ρ x;rw[hx]at e1;have e2:=AH s ρ y;rw[hy]at e2;obtain⟨xs,hxl,hxe,hrow⟩:=A6 hR hm (by simp);have hxe':xs=l:=hxe;subst hxe'
  have hR2:RelOn w0.heap.size ρ S w (restr rd s.mem):=by
   have:=hR.restr rd
   have e:restr rd (restr (id::rd) s.mem)=restr rd s.mem:=by
    funext j;unfold restr
    by_cases h:j∈rd<;>simp[h]
   rwa [e]at this
  obtain⟨S1,ao,cp,h3,h4,h5,h6⟩:=hr ρ S w hb hR2;rw[Nat.mul_one]at h5 hxl;rcases h6 with h6|⟨a,rfl,_,h6⟩
  ·exfalso;rw[h6]at h5;simp at h5;omega
  rcases hrow with⟨_,h⟩|⟨off,cap,cur,fz,h1',h2',h3',h4',h5',h6',h7',h8'⟩
  ·omega
  ·rw[h3]at e2
   simp only[SV.c,h1']at e1;have hrun:=TD (P:=P) w dT sT o.type e (ρ id).g off n cap a k cp cur e fz news hu hs h3' (NK h4') (by rw[h5];simp[Nat.min_def];omega) h6 (by rw[h5];omega) (fun u hu=>List.all_eq_true.1 h1 u hu);rw[h5]at hrun
   have hsz2:(cur.toList.take off++news++cur.toList.drop (off+k)).toArray.size=cur.size:=by
    simp only[List.size_toArray,List.length_append,List.length_take,List.length_drop,Array.length_toList,h5];omega
   refine⟨by simp only[Blk.owns];rw[h1'];simp,w.setRow (ρ id).g (cur.toList.take off++news++cur.toList.drop (off+k)).toArray,?_,⟨rfl,rfl,rfl,by simp,fun j hj=>setRow_other w _ j _ hj⟩,?_⟩
   ·unfold execOp
    simp only[ho,resolve,invoke,builtin,Sem.run_bind,Sem.run_pure,Result.andThen_ok,List.map_toArray,List.map_cons,List.map_nil,e1,e2,hrun,SV.c,goInt]
   ·refine⟨l',by rw[←hl',List.length_append,List.length_drop,h5,hxl];omega,rfl,.inr ⟨off,cap,_,fz,h1',h2',setRow_heap w (ρ id).g cur _ e _ h3',by rw[hsz2];exact h4',h5',h6',by rw[hsz2];exact h7',?_⟩⟩
    rw[←hl',←h8',Nat.mul_one];have ht:(cur.toList.take off).length=off:=by rw[List.length_take,Array.length_toList];omega
    rw[List.append_assoc,List.drop_append_of_le_length (by omega),List.drop_of_length_le (by omega),List.nil_append];rw[List.take_append,h5,List.take_of_length_le (by omega),List.drop_take,List.drop_drop]
end
end Go.Vx
namespace TollSha
variable{a s:List Nat}
abbrev W:=BitVec 32
def rr(x:W)(n:Nat):W:=(x>>>n)|||(x<<<(32-n))
def g0(x:W):W:=rr x 7^^^rr x 18^^^(x>>>3)
def g1(x:W):W:=rr x 17^^^rr x 19^^^(x>>>10)
def e0(x:W):W:=rr x 2^^^rr x 13^^^rr x 22
def e1(x:W):W:=rr x 6^^^rr x 11^^^rr x 25
def ch(e f g:W):W:=g^^^(e &&& (f^^^g))
def mj(a b c:W):W:=(a &&& b)|||(c &&& (a|||b))
def Kn:List Nat:=[
 0x428a2f98,0x71374491,0xb5c0fbcf,0xe9b5dba5,0x3956c25b,0x59f111f1,0x923f82a4,0xab1c5ed5,
 0xd807aa98,0x12835b01,0x243185be,0x550c7dc3,0x72be5d74,0x80deb1fe,0x9bdc06a7,0xc19bf174,
 0xe49b69c1,0xefbe4786,0x0fc19dc6,0x240ca1cc,0x2de92c6f,0x4a7484aa,0x5cb0a9dc,0x76f988da,
 0x983e5152,0xa831c66d,0xb00327c8,0xbf597fc7,0xc6e00bf3,0xd5a79147,0x06ca6351,0x14292967,
 0x27b70a85,0x2e1b2138,0x4d2c6dfc,0x53380d13,0x650a7354,0x766a0abb,0x81c2c92e,0x92722c85,
 0xa2bfe8a1,0xa81a664b,0xc24b8b70,0xc76c51a3,0xd192e819,0xd6990624,0xf40e3585,0x106aa070,
 0x19a4c116,0x1e376c08,0x2748774c,0x34b0bcb5,0x391c0cb3,0x4ed8aa4a,0x5b9cca4f,0x682e6ff3,
 0x748f82ee,0x78a5636f,0x84c87814,0x8cc70208,0x90befffa,0xa4506ceb,0xbef9a3f7,0xc67178f2]
def K:List W:=Kn.map (BitVec.ofNat 32)
def be4(a b c d:Nat):W:=(((BitVec.ofNat 32 a)<<<24|||(BitVec.ofNat 32 b)<<<16)|||(BitVec.ofNat 32 c)<<<8)|||BitVec.ofNat 32 d
def Dl(b:List Nat)(i:Nat):W:=be4 (b.getD (4*i) 0) (b.getD (4*i+1) 0) (b.getD (4*i+2) 0) (b.getD (4*i+3) 0)
def HR(w:List W):W:=w.getD (w.length-16) 0#32+w.getD (w.length-7) 0#32+g0 (w.getD (w.length-15) 0#32)+g1 (w.getD (w.length-2) 0#32)
def B8(b:List Nat):Nat→List W
 |0=>[]
 |n+1=>B8 b n++[Dl b n]
def CK(w:List W):Nat→List W
 |0=>w
 |n+1=>CK w n++[HR (CK w n)]
def D3(b:List Nat):List W:=CK (B8 b 16) 48
structure St where
 a:W
 b:W
 c:W
 d:W
 e:W
 f:W
 g:W
 h:W
def H0:St:=⟨0x6a09e667#32,0xbb67ae85#32,0x3c6ef372#32,0xa54ff53a#32,0x510e527f#32,0x9b05688c#32,0x1f83d9ab#32,0x5be0cd19#32⟩
def St.l(s:St):List W:=[s.a,s.b,s.c,s.d,s.e,s.f,s.g,s.h]
def tA(s:St)(k w:W):W:=s.h+e1 s.e+ch s.e s.f s.g+k+w
def tB(s:St):W:=e0 s.a+mj s.a s.b s.c
def St.step(s:St)(k w:W):St:=⟨tA s k w+tB s,s.a,s.b,s.c,s.d+tA s k w,s.e,s.f,s.g⟩
def St.run(w:List W)(s:St):Nat→St
 |0=>s
 |n+1=>(St.run w s n).step (K.getD n 0#32) (w.getD n 0#32)
def St.add(s:St)(t:St):St:=⟨s.a+t.a,s.b+t.b,s.c+t.c,s.d+t.d,s.e+t.e,s.f+t.f,s.g+t.g,s.h+t.h⟩
def press(s:St)(b:List Nat):St:=s.add (St.run (D3 b) s 64)
def A7(h:St)(b:List Nat):Nat→St
 |0=>h
 |n+1=>press (A7 h b n) ((b.drop (64*n)).take 64)
def Br(x:W):List Nat:=[x.toNat/16777216 %256,x.toNat/65536 %256,x.toNat/256 %256,x.toNat %256]
def out(h:List W):List Nat:=h.flatMap Br
def Bl(n:Nat):List Nat:=[n/2^56 %256,n/2^48 %256,n/2^40 %256,n/2^32 %256,n/2^24 %256,n/2^16 %256,n/2^8 %256,n/2^0 %256]
def BE(n:Nat):Nat:=(119-n %64) %64
def An(s:List Nat):List Nat:=s++128::(List.replicate (BE s.length) 0++Bl (8*s.length))
def sha(s:List Nat):List Nat:=out (A7 H0 (An s) ((An s).length/64)).l
def keyOf(k:List Nat):List Nat:=if k.length>64 then sha k else k
def CP(k:List Nat)(x:Nat):List Nat:=(List.range 64).map fun i=>(k.getD i 0)^^^x
def Ap(k s:List Nat):List Nat:=sha (CP (keyOf k) 92++sha (CP (keyOf k) 54++s))
theorem row16_len(b:List Nat)(n:Nat):(B8 b n).length=n:=by
 induction n with
 |zero=>rfl
 |succ n ih=>simp[B8,ih]
theorem more_len(w:List W)(n:Nat):(CK w n).length=w.length+n:=by
 induction n with
 |zero=>rfl
 |succ n ih=>simp[CK,ih];omega
theorem out_len(h:List W):(out h).length=4*h.length:=by
 induction h with
 |nil=>rfl
 |cons x r ih=>
  have:out (x::r)=Br x++out r:=rfl;rw[this,List.length_append,ih];show 4+_=4*(r.length+1);omega
theorem fJ(h:List W): ∀x∈out h,x<256:=by
 intro x hx;simp only[out,List.mem_flatMap,Br,List.mem_cons,List.not_mem_nil,or_false]at hx;obtain⟨y,_,h⟩:=hx;rcases h with rfl|rfl|rfl|rfl<;>exact Nat.mod_lt _ (by decide)
theorem et(s:List Nat):(An s).length %64=0:=by
 simp only[An,BE,Bl,List.length_append,List.length_cons,List.length_replicate,List.length_nil];omega
theorem padded_lt(h: ∀x∈s,x<256): ∀x∈An s,x<256:=by
 intro x hx;simp only[An,Bl,List.mem_append,List.mem_cons,List.mem_replicate,List.not_mem_nil,or_false]at hx;rcases hx with hx|rfl|⟨_,rfl⟩|rfl|rfl|rfl|rfl|rfl|rfl|rfl|rfl
 ·exact h x hx
 ·decide
 ·decide
 all_goals exact Nat.mod_lt _ (by decide)
theorem sha_len(s:List Nat):(sha s).length=32:=by
 rw[sha,out_len];rfl
theorem PI{h:St}{a c:List Nat}: ∀m,64*m≤a.length→A7 h (a++c) m=A7 h a m
 |0,_=>rfl
 |m+1,hm=>by
  have ih:=PI (h:=h) (a:=a) (c:=c) m (by omega);simp only[A7];rw[ih,List.drop_append_of_le_length (by omega),List.take_append_of_le_length (by rw[List.length_drop];omega)]
def nb(a:List Nat):Nat:=a.length/64
def stH(a:List Nat):St:=A7 H0 a (nb a)
def stW(a:List Nat):List Nat:=a.drop (64*nb a)
theorem Ii(a:List Nat):64*nb a≤a.length:=by unfold nb;omega
theorem S3(a:List Nat):(stW a).length=a.length %64:=by unfold stW nb;rw[List.length_drop];omega
theorem Sz(a:List Nat):(stW a).length<64:=by rw[S3];exact Nat.mod_lt _ (by decide)
theorem bZ(a p:List Nat):stW a++p=(a++p).drop (64*nb a):=by
 unfold stW;rw[List.drop_append_of_le_length (Ii a)]
theorem bh(a p:List Nat):stH a=A7 H0 (a++p) (nb a):=(PI _ (Ii a)).symm
theorem Xm(a:List Nat)(m:Nat):(a.drop (64*m)).drop 64=a.drop (64*(m+1)):=by rw[List.drop_drop];congr 1
theorem ow{m:Nat}(h1:64*m≤a.length)(h2:(a.drop (64*m)).length<64):m=nb a:=by
 rw[List.length_drop]at h2;unfold nb;omega
def OY(a:List Nat):List Nat:=stW a++128::(List.replicate (BE a.length) 0++Bl (8*a.length))
theorem ae(a:List Nat):OY a=(An a).drop (64*nb a):=by
 unfold OY An stW;rw[List.drop_append_of_le_length (Ii a)]
theorem be(a:List Nat):stH a=A7 H0 (An a) (nb a):=by
 unfold An;exact(PI _ (Ii a)).symm
theorem sha_of{m:Nat}(h:64*m=(An a).length):out (A7 H0 (An a) m).l=sha a:=by
 unfold sha;rw[←h,Nat.mul_div_cancel_left _ (by decide)]
theorem gE(a:List Nat):64*nb a≤(An a).length:=by
 have:=Ii a;simp only[An,List.length_append];omega
end TollSha
namespace Go.Proofs.YtefpajmkaaielaaGreatDoor
open Go.RowKit Go.Vx
variable{a b:List Nat}{i j n x:Nat}{S:Nat→Prop}{v wv:Value}{w w':World}
open TollSha
open Go.Toll (Gw)
def b8(b:Nat):Value:= .int .u8 (b:Int)
def uv(x:W):Value:= .int .u32 (x.toNat:Int)
theorem w32(x:W):IntKind.u32.wrap (x.toNat:Int)=(x.toNat:Int):=by
 have:=x.isLt;rw[IntKind.wrap_u32];omega
theorem Ib(x:W):BitVec.ofInt 32 (x.toNat:Int)=x:=by
 apply BitVec.eq_of_toNat_eq;rw[BitVec.toNat_ofInt];have:=x.isLt;omega
theorem bx(x y:W):bits .xor .u32 (x.toNat:Int) (y.toNat:Int)=((x^^^y).toNat:Int):=by
 show IntKind.u32.wrap ((BitVec.ofInt 32 (x.toNat:Int)^^^BitVec.ofInt 32 (y.toNat:Int)).toNat:Int)=_;rw[Ib,Ib,w32]
theorem ba(x y:W):bits .and .u32 (x.toNat:Int) (y.toNat:Int)=((x &&& y).toNat:Int):=by
 show IntKind.u32.wrap ((BitVec.ofInt 32 (x.toNat:Int) &&& BitVec.ofInt 32 (y.toNat:Int)).toNat:Int)=_;rw[Ib,Ib,w32]
theorem boS(x y:W):bits .or .u32 (x.toNat:Int) (y.toNat:Int)=((x|||y).toNat:Int):=by
 show IntKind.u32.wrap ((BitVec.ofInt 32 (x.toNat:Int)|||BitVec.ofInt 32 (y.toNat:Int)).toNat:Int)=_;rw[Ib,Ib,w32]
theorem Zi(x y:W):BOy .xor 187 (uv x) (uv y) (uv (x^^^y)):=by
 intro p q w
 have h:=bx x y;unfold uv
 go_simp
 try exact h
theorem RY(x y:W):BOy .and 187 (uv x) (uv y) (uv (x &&& y)):=by
 intro p q w
 have h:=ba x y;unfold uv
 go_simp
 try exact h
theorem fQ(x y:W):BOy .or 187 (uv x) (uv y) (uv (x|||y)):=by
 intro p q w
 have h:=boS x y;unfold uv
 go_simp
 try exact h
theorem uE(x y:W):BOy .add 187 (uv x) (uv y) (uv (x+y)):=by
 intro p q w
 have h:IntKind.u32.wrap ((x.toNat:Int)+(y.toNat:Int))=((x+y).toNat:Int):=by rw[IntKind.wrap_u32,BitVec.toNat_add];omega
 unfold uv
 go_simp
 try exact h
theorem MF(x:W)(k:Nat)(hk:k<32):BOy .shl 187 (uv x) (.int .u64 (k:Nat)) (uv (x<<<k)):=by
 intro p q w
 have h2:(x<<<k).toNat=(x.toNat*2^k) %4294967296:=by rw[BitVec.toNat_shiftLeft,Nat.shiftLeft_eq]
 have h:IntKind.u32.wrap ((x.toNat:Int)*2^k)=((x.toNat*2^k %4294967296:Nat):Int):=by
  rw[IntKind.wrap_u32];have:((x.toNat:Int)*2^k)=((x.toNat*2^k:Nat):Int):=by rw[Int.natCast_mul,Int.natCast_pow];rfl
  rw[this];omega
 unfold uv;rw[h2];generalize x.toNat=y at h;obtain⟨z,hz⟩: ∃z,y*2^k %4294967296=z:=⟨_,rfl⟩
 rw[hz]at h⊢
 go_simp
 try rw[Nat.min_eq_left (by omega)]
 try exact h
theorem IS(x:W)(k:Nat)(hk:k<32):BOy .shr 187 (uv x) (.int .u64 (k:Nat)) (uv (x>>>k)):=by
 intro p q w
 have h:(x>>>k).toNat=x.toNat/2^k:=by rw[BitVec.toNat_ushiftRight,Nat.shiftRight_eq_div_pow]
 unfold uv;rw[h]
 go_simp
 try rw[Nat.min_eq_left (by omega)]
theorem pq{b:Nat}(h:b<256)(w:World):(convert 5 187 (b8 b)).run prog w= .ok (uv (BitVec.ofNat 32 b)) w:=by
 have e:(BitVec.ofNat 32 b).toNat=b:=by rw[BitVec.toNat_ofNat];omega
 have e2:IntKind.u32.wrap (b:Int)=(b:Int):=by rw[IntKind.wrap_u32];omega
 unfold uv b8 convert;rw[e]
 go_simp
 try exact e2
theorem f8(h:n<32)(w:World):(Op.unary .neg (.int .i64 (n:Nat))).run prog w= .ok (.int .i64 (-(n:Int))) w:=by
 have e:IntKind.i64.wrap (-(n:Int))= -(n:Int):=Af (by omega) (by omega);unfold Op.unary
 go_simp
theorem cvn(h0:0<n)(h:n<32)(w:World):(convert 3 172 (.int .i64 (-(n:Int)))).run prog w= .ok (.int .u64 ((18446744073709551616-n:Nat):Int)) w:=by
 unfold convert
 go_simp
 rw[IntKind.wrap_u64];omega
theorem sR(h0:0<n)(h:n<32):BOy .and 172 (.int .u64 ((18446744073709551616-n:Nat):Int)) (.int .u64 31) (.int .u64 ((32-n:Nat):Int)):=by
 intro p q w
 have h3:bits .and .u64 ((18446744073709551616-n:Nat):Int) 31=((32-n:Nat):Int):=by
  show IntKind.u64.wrap ((BitVec.ofInt 64 ((18446744073709551616-n:Nat):Int) &&& BitVec.ofInt 64 31).toNat:Int)=_;rw[BitVec.toNat_and,BitVec.toNat_ofInt,BitVec.toNat_ofInt];have h1:(((18446744073709551616-n:Nat):Int) %((2^64:Nat):Int)).toNat=18446744073709551616-n:=by omega
  have h2:((31:Int) %((2^64:Nat):Int)).toNat=2^5-1:=by decide
  rw[h1,h2,Nat.and_two_pow_sub_one_eq_mod,IntKind.wrap_u64];omega
 generalize 18446744073709551616-n=m at h3
 go_simp
 try exact h3
theorem cT(h:n<32):BOy .sub 172 (.int .u64 32) (.int .u64 ((32-n:Nat):Int)) (.int .u64 ((n:Nat):Int)):=by
 intro p q w
 have e:IntKind.u64.wrap (32-((32-n:Nat):Int))=(n:Int):=by rw[IntKind.wrap_u64];omega
 generalize 32-n=m at e
 go_simp
 try exact e
theorem ci(x:W)(h0:0<n)(h:n<32)(w:World):CBy 137 #[uv x,.int .i64 (-(n:Int))] w (uv ((x<<<(32-n))|||(x>>>n))):=by
 go_enter func137,ntmps137
 refine AO ?_;iterate 7 refine k_k ?_
 refine k_s (by exact A5 rfl gg rfl (fun w=>cvn h0 h w)) ?_;refine k_s (by exact AN rfl gg rfl rfl (fun w=>sR h0 h _ _ w)) ?_;iterate 6 refine k_k ?_
 refine k_s (by exact AN rfl gg rfl rfl (fun w=>MF x (32-n) (by omega) _ _ w)) ?_;iterate 2 refine k_k ?_
 refine k_s (by exact AN rfl gg rfl rfl (fun w=>cT h _ _ w)) ?_;refine k_s (by exact AN rfl gg rfl rfl (fun w=>IS x n (by omega) _ _ w)) ?_;refine Iy ?_;iterate 2 refine k_k ?_
 exact AG (AD (AM results137 (AE rfl)) fun _ _ hr=>⟨rfl,hr.1⟩)
theorem E5(x:W)(h0:0<n)(h:n<32)(w:World):CBy 128 #[uv x,.int .i64 (n:Nat)] w (uv (rr x n)):=by
 go_enter func128,ntmps128
 refine AO ?_;iterate 8 refine k_k ?_
 refine k_s (by exact K4 rfl gg rfl (fun w=>f8 h w)) ?_;refine k_s (by exact Ah (v:=uv (rr x n)) rfl gg rfl (eo func137) (fun w' hb=>by have:=ci x h0 h w';rw[BitVec.or_comm]at this;exact this)) ?_;iterate 2 refine k_k ?_
 exact AG (AD (AM results128 (AE rfl)) fun _ _ hr=>⟨rfl,hr.1⟩)
def WL(l:List W):List Value:=l.map uv++List.replicate (64-l.length) (uv 0#32)
theorem ZL{l:List W}(h:l.length≤64):(WL l).length=64:=by simp[WL];omega
theorem LU{l:List W}(h:j<l.length):(WL l)[j]? =some (uv (l.getD j 0#32)):=by
 rw[WL,List.getElem?_append_left (by simpa using h)];simp[List.getD,h]
theorem ZK{l:List W}(x:W)(h:l.length<64):(WL l).take l.length++[uv x]++(WL l).drop (l.length+1)=WL (l++[x]):=by
 have h1:(WL l).take l.length=l.map uv:=by rw[WL,List.take_append_of_le_length (by simp),List.take_of_length_le (by simp)]
 have h2:(WL l).drop (l.length+1)=List.replicate (64-(l.length+1)) (uv 0#32):=by
  rw[WL,List.drop_append,List.drop_of_length_le (by simp),List.nil_append,List.drop_replicate];congr 1
  simp;omega
 rw[h1,h2,WL,List.map_append,List.length_append];rfl
theorem Pj(hn:n≤1000):BOy .mul 3 (.int .i64 4) (.int .i64 (n:Nat)) (.int .i64 ((4*n:Nat):Int)):=by
 intro p q w
 have e:IntKind.i64.wrap (4*(n:Int))=((4*n:Nat):Int):=by rw[Af (by omega) (by omega)];omega
 go_simp
 try exact e
theorem rC(a b c d e f g h:W):prog.built 188 [(0,uv a),(1,uv b),(2,uv c),(3,uv d),(4,uv e),(5,uv f),(6,uv g),(7,uv h)]=some #[uv a,uv b,uv c,uv d,uv e,uv f,uv g,uv h]:=by kernel_rfl
def Au(w:World):Prop:= ∀i,i<64→w.cell? ⟨8,i,none⟩=some (uv (K.getD i 0#32))
theorem Au.bw(h:Au w)(hb:Bw w w'):Au w':=fun i hi=>hb.cell (h i hi)
theorem Cw(a c:Nat):decide ((a:Int)<(c:Int))=decide (a<c):=decide_eq_decide.2 (by omega)
theorem LG(hv:AJ w v 64 1 (b.map b8) S)(hb:b.length=64)(hi:i<16):
 AJ w (As (4*i) (4*i+4) 1 v) 4 1 [b8 (b.getD (4*i) 0),b8 (b.getD (4*i+1) 0),b8 (b.getD (4*i+2) 0),b8 (b.getD (4*i+3) 0)] S:=by
 have h:=HF (lo:=4*i) (hi:=4*i+4) hv (by omega) (by omega)
 have hl:(((b.map b8).drop (4*i*1)).take ((4*i+4-4*i)*1))=[b8 (b.getD (4*i) 0),b8 (b.getD (4*i+1) 0),b8 (b.getD (4*i+2) 0),b8 (b.getD (4*i+3) 0)]:=by
  rw[Nat.mul_one,Nat.mul_one,show 4*i+4-4*i=4 by omega];have g: ∀j,j<64→b[j]? =some (b.getD j 0):=fun j hj=>by simp[List.getD,show j<b.length by omega]
  apply List.ext_getElem?;intro j;rw[List.getElem?_take];by_cases hj:j<4
  ·rw[if_pos hj,List.getElem?_drop,List.getElem?_map,g (4*i+j) (by omega)]
   have:j=0∨j=1∨j=2∨j=3:=by omega
   rcases this with rfl|rfl|rfl|rfl<;>rfl
  ·rw[if_neg hj,List.getElem?_eq_none (by simp;omega)]
 rw[hl,show 4*i+4-4*i=4 by omega]at h;exact h
theorem NJ(h: ∀x∈b,x<256)(j:Nat):b.getD j 0<256:=by
 by_cases hj:j<b.length
 ·simp[List.getD,hj];exact h _ (List.getElem_mem hj)
 ·simp[List.getD,hj]
theorem Tx(s:St)(w:World)(hL:Au w)(hv:AJ w v 64 1 (b.map b8) S)(hb:b.length=64)(h8: ∀x∈b,x<256):CBy 116 #[.agg #[uv (s).a,uv (s).b,uv (s).c,uv (s).d,uv (s).e,uv (s).f,uv (s).g,uv (s).h],v] w (.agg #[uv (press s b).a,uv (press s b).b,uv (press s b).c,uv (press s b).d,uv (press s b).e,uv (press s b).f,uv (press s b).g,uv (press s b).h]):=by
 obtain⟨M0,hM0⟩: ∃M0,B8 b 16=M0:=⟨_,rfl⟩
 have hM0l:M0.length=16:=by rw[←hM0,row16_len]
 obtain⟨Wd,hWd⟩: ∃Wd,CK M0 48=Wd:=⟨_,rfl⟩
 have hWl:Wd.length=64:=by rw[←hWd,more_len,hM0l]
 have hs1: ∀i,i<16→(WL (B8 b i)).take i++(uv (Dl b i)).cells.toList++(WL (B8 b i)).drop (i+1)=WL (B8 b (i+1)):=fun i hi=>by
  have:=ZK (l:=B8 b i) (Dl b i) (by rw[row16_len];omega);rw[row16_len]at this;exact this
 go_enter func116,ntmps116
 refine AO ?_;iterate 3 refine k_k ?_
 refine k_s (by exact Bq rfl rfl gg zeroValue188) ?_;iterate 3 refine k_k ?_
 refine k_s (by exact K9 (l:=WL []) rfl rfl gg zeroValue203 rfl) ?_;iterate 7 refine k_k ?_
 refine B7 (α:={i:Nat // i≤16}) (fun(x:{i:Nat // i≤16}) f=>⟨.v (f 0):: .v v:: .p 2 0:: .v (f 3):: .p 4 0:: .p 5 0::fv f 16 6 (.v (.int .i64 (x.1:Nat))::fv f 184 23 []),AK [(5,.arr (WL (B8 b x.1)) 203),(4,.cells [.v (.int .u32 0),.v (.int .u32 0),.v (.int .u32 0),.v (.int .u32 0),.v (.int .u32 0),.v (.int .u32 0),.v (.int .u32 0),.v (.int .u32 0)] 188),(2,.cells [.v (uv s.a),.v (uv s.b),.v (uv s.c),.v (uv s.d),.v (uv s.e),.v (uv s.f),.v (uv s.g),.v (uv s.h)] 188)]⟩) (fun x=>16-x.1) ?_ (⟨0,Nat.zero_le _⟩) ?_
 ·rintro⟨i,hi⟩ f
  obtain⟨q,h_q⟩: ∃q,decide (i<16)=q:=⟨_,rfl⟩
  have h_q':=(Cw i 16).trans h_q;change VOk _ _ _ _ _;simp only[fv,Nat.reduceAdd];iterate 2 refine k_k ?_
  refine k_s (by exact A4 rfl gg rfl rfl h_q') ?_;iterate 2 refine k_k ?_
  cases q
  ·refine k_k ?_
   have h16:i=16:=by have:=of_decide_eq_false h_q;omega
   subst h16;rw[hM0];refine Aq ?_;change VOk _ _ _ _ _;iterate 6 refine k_k ?_
   refine B7 (α:={i:Nat // i≤48}) (fun(x:{i:Nat // i≤48}) f=>⟨.v (f 0):: .v (f 1):: .p 2 0:: .v (f 3):: .p 4 0:: .p 5 0:: .v (f 6):: .v (f 7):: .v (.int .i64 ((16+x.1:Nat):Int))::fv f 198 9 [],AK [(5,.arr (WL (CK M0 x.1)) 203),(4,.cells [.v (.int .u32 0),.v (.int .u32 0),.v (.int .u32 0),.v (.int .u32 0),.v (.int .u32 0),.v (.int .u32 0),.v (.int .u32 0),.v (.int .u32 0)] 188),(2,.cells [.v (uv s.a),.v (uv s.b),.v (uv s.c),.v (uv s.d),.v (uv s.e),.v (uv s.f),.v (uv s.g),.v (uv s.h)] 188)]⟩) (fun x=>48-x.1) ?_ (⟨0,Nat.zero_le _⟩) ?_
   ·rintro⟨i,hi⟩ f
    obtain⟨q2,h_q2⟩: ∃q,decide (16+i<64)=q:=⟨_,rfl⟩
    have h_q2':=(Cw (16+i) 64).trans h_q2;obtain⟨M,hM⟩: ∃M,CK M0 i=M:=⟨_,rfl⟩
    have hMl:M.length=16+i:=by rw[←hM,more_len,hM0l]
    rw[hM];change VOk _ _ _ _ _;simp only[fv,Nat.reduceAdd];iterate 4 refine k_k ?_
    refine k_s (by exact A4 rfl gg rfl rfl h_q2') ?_;refine k_k ?_;cases q2
    ·refine k_k ?_
     have h48:i=48:=by have:=of_decide_eq_false h_q2;omega
     have hMs:M=Wd:=by rw[←hM,h48];exact hWd
     clear hM;subst h48;rw[hMs];refine Aq ?_;refine Mq ?_
     refine DX ?_;refine DV ?_;refine DX ?_;refine DV ?_;refine DX ?_;refine DV ?_;refine DX ?_;refine DV ?_;refine DX ?_;refine DV ?_;refine DX ?_;refine DV ?_;refine DX ?_;refine DV ?_;refine DX ?_;refine DV ?_;iterate 15 refine k_k ?_
     refine B7 (α:={i:Nat // i≤64}) (fun(x:{i:Nat // i≤64}) f=>⟨.v (f 0):: .v (f 1):: .p 2 0:: .v (f 3):: .p 4 0:: .p 5 0:: .v (f 6):: .v (f 7):: .v (f 8):: .v (f 9):: .v (f 10):: .v (uv (St.run Wd s x.1).a):: .v (uv (St.run Wd s x.1).b):: .v (uv (St.run Wd s x.1).c):: .v (uv (St.run Wd s x.1).d):: .v (uv (St.run Wd s x.1).e):: .v (uv (St.run Wd s x.1).f):: .v (uv (St.run Wd s x.1).g):: .v (uv (St.run Wd s x.1).h)::fv f 95 19 (.v (.int .i64 (x.1:Nat))::fv f 92 115 []),AK [(5,.arr (WL (Wd)) 203),(4,.cells [.v (.int .u32 0),.v (.int .u32 0),.v (.int .u32 0),.v (.int .u32 0),.v (.int .u32 0),.v (.int .u32 0),.v (.int .u32 0),.v (.int .u32 0)] 188),(2,.cells [.v (uv s.a),.v (uv s.b),.v (uv s.c),.v (uv s.d),.v (uv s.e),.v (uv s.f),.v (uv s.g),.v (uv s.h)] 188)]⟩) (fun x=>64-x.1) ?_ (⟨0,Nat.zero_le _⟩) ?_
     ·rintro⟨j,hj⟩ f
      obtain⟨q3,h_q3⟩: ∃q,decide (j<64)=q:=⟨_,rfl⟩
      have h_q3':=(Cw j 64).trans h_q3;obtain⟨Q,hQ⟩: ∃Q,St.run Wd s j=Q:=⟨_,rfl⟩
      rw[hQ];change VOk _ _ _ _ _;simp only[fv,Nat.reduceAdd];iterate 2 refine k_k ?_
      refine k_s (by exact A4 rfl gg rfl rfl h_q3') ?_;iterate 2 refine k_k ?_
      cases q3
      ·refine k_k ?_
       have h64:j=64:=by have:=of_decide_eq_false h_q3;omega
       subst h64;refine Aq ?_;refine Mq ?_
       refine DX ?_;refine DV ?_;refine Ge ?_;refine DX ?_;refine DV ?_;refine Ge ?_;refine DX ?_;refine DV ?_;refine Ge ?_;refine DX ?_;refine DV ?_;refine Ge ?_;refine DX ?_;refine DV ?_;refine Ge ?_;refine DX ?_;refine DV ?_;refine Ge ?_;refine DX ?_;refine DV ?_;refine Ge ?_;refine DX ?_;refine DV ?_;refine Ge ?_;refine k_s (by exact Ar rfl gg rfl (rC _ _ _ _ _ _ _ _)) ?_;refine My ?_;refine k_k ?_;refine AG ?_;refine AD (AM results116 (Ad rfl rfl underlying188 rfl sizeOf188 rfl rfl)) ?_;intro ρ w' hr;refine⟨?_,hr.1⟩;have e:press s b=s.add Q:=by unfold press D3;rw[hM0,hWd,hQ]
       rw[e];rfl
      ·refine k_k ?_
       have hlt:j<64:=of_decide_eq_true h_q3;iterate 12 refine k_k ?_
       refine k_s (by exact Ah (v:=uv (rr (Q.e) 6)) rfl gg rfl (eo func128) (fun w' hb=>E5 (Q.e) (by decide) (by decide) w')) ?_;refine k_k ?_;refine k_s (by exact Ah (v:=uv (rr (Q.e) 11)) rfl gg rfl (eo func128) (fun w' hb=>E5 (Q.e) (by decide) (by decide) w')) ?_;refine FF ?_;refine k_k ?_;refine k_s (by exact Ah (v:=uv (rr (Q.e) 25)) rfl gg rfl (eo func128) (fun w' hb=>E5 (Q.e) (by decide) (by decide) w')) ?_;refine FF ?_;refine Eg ?_;iterate 4 refine k_k ?_
       refine FF ?_;refine k_s (by exact AN rfl gg rfl rfl (fun w=>RY _ _ _ _ w)) ?_;refine FF ?_;refine Eg ?_;refine k_k ?_;refine k_s (by exact oC (k:=j) (j:=j) rfl gg rfl rfl underlying203 sizeOf187 (by omega) (by omega)) ?_;refine k_s (by exact Ck rfl gg rfl underlying187 rfl (hL j (by omega))) ?_;refine Eg ?_;refine k_k ?_;refine k_s (by exact Eo (k:=j) (j:=j) rfl gg rfl rfl underlying203 sizeOf187 (by omega) (by omega)) ?_;refine k_s (by exact K5 (v:=uv (Wd.getD j 0#32)) rfl gg rfl rfl underlying187 rfl (LU (by omega))) ?_;refine Eg ?_;iterate 5 refine k_k ?_
       refine k_s (by exact Ah (v:=uv (rr (Q.a) 2)) rfl gg rfl (eo func128) (fun w' hb=>E5 (Q.a) (by decide) (by decide) w')) ?_;refine k_k ?_;refine k_s (by exact Ah (v:=uv (rr (Q.a) 13)) rfl gg rfl (eo func128) (fun w' hb=>E5 (Q.a) (by decide) (by decide) w')) ?_;refine FF ?_;refine k_k ?_;refine k_s (by exact Ah (v:=uv (rr (Q.a) 22)) rfl gg rfl (eo func128) (fun w' hb=>E5 (Q.a) (by decide) (by decide) w')) ?_;refine FF ?_;iterate 2 refine k_k ?_
       refine k_s (by exact AN rfl gg rfl rfl (fun w=>RY _ _ _ _ w)) ?_;iterate 3 refine k_k ?_
       refine Iy ?_;refine k_s (by exact AN rfl gg rfl rfl (fun w=>RY _ _ _ _ w)) ?_;refine Iy ?_;refine Eg ?_;iterate 8 refine k_k ?_
       refine Eg ?_;iterate 5 refine k_k ?_
       refine Eg ?_;iterate 10 refine k_k ?_
       refine k_s (by exact A2 (c:=((j+1:Nat):Int)) rfl gg rfl rfl (by rw[Af (by omega) (by omega)];omega)) ?_;iterate 2 refine k_k ?_
       refine⟨⟨j+1,by omega⟩,by show 64-(j+1)<64-j;omega,?_⟩;have hst:St.run Wd s (j+1)=Q.step (K.getD j 0#32) (Wd.getD j 0#32):=by rw[←hQ];rfl
       simp only[hst];exact Al (fun i=>i==2||i==4||i==5||i==11||i==12||i==13||i==14||i==15||i==16||i==17||i==18||i==114) []
     ·exact Al (fun i=>i==2||i==4||i==5||i==11||i==12||i==13||i==14||i==15||i==16||i==17||i==18||i==114) []
    ·refine k_k ?_
     have hlt:16+i<64:=of_decide_eq_true h_q2;iterate 6 refine k_k ?_
     refine k_s (by exact CF (c:=((1+i:Nat):Int)) rfl gg rfl rfl (by rw[Af (by omega) (by omega)];omega)) ?_;refine k_s (by exact Eo (k:=1+i) (j:=1+i) rfl gg rfl rfl underlying203 sizeOf187 (by omega) (by omega)) ?_;refine k_s (by exact K5 (v:=uv (M.getD (1+i) 0#32)) rfl gg rfl rfl underlying187 rfl (LU (by omega))) ?_;refine k_k ?_;refine k_s (by exact CF (c:=((14+i:Nat):Int)) rfl gg rfl rfl (by rw[Af (by omega) (by omega)];omega)) ?_;refine k_s (by exact Eo (k:=14+i) (j:=14+i) rfl gg rfl rfl underlying203 sizeOf187 (by omega) (by omega)) ?_;refine k_s (by exact K5 (v:=uv (M.getD (14+i) 0#32)) rfl gg rfl rfl underlying187 rfl (LU (by omega))) ?_;iterate 6 refine k_k ?_
     refine k_s (by exact CF (c:=((i:Nat):Int)) rfl gg rfl rfl (by rw[Af (by omega) (by omega)];omega)) ?_;refine k_s (by exact Eo (k:=i) (j:=i) rfl gg rfl rfl underlying203 sizeOf187 (by omega) (by omega)) ?_;refine k_s (by exact K5 (v:=uv (M.getD i 0#32)) rfl gg rfl rfl underlying187 rfl (LU (by omega))) ?_;refine k_k ?_;refine k_s (by exact CF (c:=((9+i:Nat):Int)) rfl gg rfl rfl (by rw[Af (by omega) (by omega)];omega)) ?_;refine k_s (by exact Eo (k:=9+i) (j:=9+i) rfl gg rfl rfl underlying203 sizeOf187 (by omega) (by omega)) ?_;refine k_s (by exact K5 (v:=uv (M.getD (9+i) 0#32)) rfl gg rfl rfl underlying187 rfl (LU (by omega))) ?_;refine Eg ?_;refine k_k ?_;refine k_s (by exact Ah (v:=uv (rr ((M.getD (1+i) 0#32)) 7)) rfl gg rfl (eo func128) (fun w' hb=>E5 ((M.getD (1+i) 0#32)) (by decide) (by decide) w')) ?_;refine k_k ?_;refine k_s (by exact Ah (v:=uv (rr ((M.getD (1+i) 0#32)) 18)) rfl gg rfl (eo func128) (fun w' hb=>E5 ((M.getD (1+i) 0#32)) (by decide) (by decide) w')) ?_;refine FF ?_;refine k_k ?_;refine k_s (by exact AN rfl gg rfl rfl (fun w=>IS _ 3 (by decide) _ _ w)) ?_;refine FF ?_;refine Eg ?_;refine k_k ?_;refine k_s (by exact Ah (v:=uv (rr ((M.getD (14+i) 0#32)) 17)) rfl gg rfl (eo func128) (fun w' hb=>E5 ((M.getD (14+i) 0#32)) (by decide) (by decide) w')) ?_;refine k_k ?_;refine k_s (by exact Ah (v:=uv (rr ((M.getD (14+i) 0#32)) 19)) rfl gg rfl (eo func128) (fun w' hb=>E5 ((M.getD (14+i) 0#32)) (by decide) (by decide) w')) ?_;refine FF ?_;refine k_k ?_;refine k_s (by exact AN rfl gg rfl rfl (fun w=>IS _ 10 (by decide) _ _ w)) ?_;refine FF ?_;refine Eg ?_;refine k_s (by exact Eo (k:=16+i) (j:=16+i) rfl gg rfl rfl underlying203 sizeOf187 (by omega) (by omega)) ?_;refine Vq ?_;iterate 3 refine k_k ?_
     refine k_s (by exact A2 (c:=((16+i+1:Nat):Int)) rfl gg rfl rfl (by rw[Af (by omega) (by omega)];omega)) ?_;iterate 2 refine k_k ?_
     refine⟨⟨i+1,by omega⟩,by show 48-(i+1)<48-i;omega,?_⟩
     have hst:M++[M.getD i 0#32+M.getD (9+i) 0#32+(rr (M.getD (1+i) 0#32) 7^^^rr (M.getD (1+i) 0#32) 18^^^M.getD (1+i) 0#32>>>3)+(rr (M.getD (14+i) 0#32) 17^^^rr (M.getD (14+i) 0#32) 19^^^M.getD (14+i) 0#32>>>10)]=CK M0 (i+1):=by
      simp only[CK,HR,hM,hMl,g0,g1];rw[show 16+i-16=i by omega,show 16+i-7=9+i by omega,show 16+i-15=1+i by omega,show 16+i-2=14+i by omega]
     rw[hst];exact Al (fun i=>i==2||i==4||i==5||i==8) []
   ·exact Al (fun i=>i==2||i==4||i==5||i==8) []
  ·refine k_k ?_
   have hlt:i<16:=of_decide_eq_true h_q;iterate 12 refine k_k ?_
   refine k_s (by exact AN rfl gg rfl rfl (fun w=>Pj (n:=i) (by omega) _ _ w)) ?_;refine k_k ?_;refine k_s (by exact AN rfl gg rfl rfl (fun w=>Pj (n:=i) (by omega) _ _ w)) ?_;refine k_s (by exact A2 (c:=((4*i+4:Nat):Int)) rfl gg rfl rfl (by rw[Af (by omega) (by omega)];omega)) ?_;refine k_s (by exact Gl (a:=4*i) (b:=4*i+4) (v':=As (4*i) (4*i+4) 1 v) rfl gg rfl underlying26 sizeOf5 (AW hv) rfl rfl (by omega) (by omega) rfl) ?_;iterate 5 refine k_k ?_
   refine k_s (by exact BU (k:=0) rfl gg rfl rfl underlying26 sizeOf5 (AW (LG hv hb (by omega))) (by decide) (by decide)) ?_;refine M3 ?_;refine Mx ?_;refine k_s (by exact AN rfl gg rfl rfl (fun w=>MF _ 24 (by decide) _ _ w)) ?_;refine k_k ?_;refine k_s (by exact BU (k:=1) rfl gg rfl rfl underlying26 sizeOf5 (AW (LG hv hb (by omega))) (by decide) (by decide)) ?_;refine M3 ?_;refine Mx ?_;refine k_s (by exact AN rfl gg rfl rfl (fun w=>MF _ 16 (by decide) _ _ w)) ?_;refine Iy ?_;refine k_k ?_;refine k_s (by exact BU (k:=2) rfl gg rfl rfl underlying26 sizeOf5 (AW (LG hv hb (by omega))) (by decide) (by decide)) ?_;refine M3 ?_;refine Mx ?_;refine k_s (by exact AN rfl gg rfl rfl (fun w=>MF _ 8 (by decide) _ _ w)) ?_;refine Iy ?_;refine k_k ?_;refine k_s (by exact BU (k:=3) rfl gg rfl rfl underlying26 sizeOf5 (AW (LG hv hb (by omega))) (by decide) (by decide)) ?_;refine M3 ?_;refine Mx ?_;refine Iy ?_;refine k_s (by exact Eo (k:=i) (j:=i) rfl gg rfl rfl underlying203 sizeOf187 (by omega) (by omega)) ?_;refine Vq ?_;iterate 2 refine k_k ?_
   refine FG ?_;iterate 2 refine k_k ?_
   refine⟨⟨i+1,by omega⟩,by show 16-(i+1)<16-i;omega,?_⟩;exact Al (fun i=>i==1||i==2||i==4||i==5||i==22) []
 ·exact Al (fun i=>i==1||i==2||i==4||i==5||i==22) []
theorem el5:C2 prog 5 1 1:=by unfold C2;kernel_rfl
theorem DG(bs:List Nat):(bs.map b8).all (·.oneCell')=true:=by
 rw[List.all_map];exact List.all_eq_true.2 fun _ _=>rfl
theorem EI(a c:Nat):decide ((a:Int)>(c:Int))=decide (a>c):=decide_eq_decide.2 (by omega)
theorem Aa{size:Nat}{l:List Value}(h:AJ w v n size l S)(hb:Bw w w'):AJ w' v n size l S:=by
 obtain⟨ao,cap,h1,h2,h3,h4⟩:=h;exact⟨ao,cap,h1,h2,h3,h4.imp id fun⟨g,a,b,c⟩=>⟨g,a,b,fun i x hx=>hb.cell (c i x hx)⟩⟩
theorem F8{α:Type}{l:List α}{x:α}(h:l[i]? =some x):l.take (i+1)=l.take i++[x]:=by
 obtain⟨hi,e⟩:=List.getElem?_eq_some_iff.1 h;rw[List.take_succ_eq_append_getElem hi,e]
def FZ(a:List Nat)(wv:Value):List Value:=[uv (stH a).a,uv (stH a).b,uv (stH a).c,uv (stH a).d,uv (stH a).e,uv (stH a).f,uv (stH a).g,uv (stH a).h,wv,.int .i64 (a.length:Nat)]
def ZQ(w:World)(g:Nat)(wv:Value)(a:List Nat):Prop:= ∀j v,(FZ a wv)[j]? =some v→w.cell? ⟨g,j,none⟩=some v
theorem Tv(a:Addr):BOy .eql 159 (.pointer (some a)) (.pointer none) (.bool false):=by
 intro p q w
 go_simp
theorem dF(x:Nat):BOy .rem 3 (.int .i64 (x:Nat)) (.int .i64 64) (.int .i64 ((x %64:Nat):Int)):=by
 intro p q w
 have h2:((x:Int).tmod 64)=((x %64:Nat):Int):=by rw[Int.tmod_eq_emod_of_nonneg (Int.natCast_nonneg _)];rfl
 go_simp
 all_goals (try exact h2)
 all_goals (try omega)
theorem po(hx:x<1099511627776)(w:World):(convert 3 22 (.int .i64 (x:Nat))).run prog w= .ok (.int .u64 ((x:Nat):Int)) w:=by
 have e:IntKind.u64.wrap (x:Int)=(x:Int):=by rw[IntKind.wrap_u64];omega
 unfold convert
 go_simp
 try exact e
theorem cL(hx:x<1099511627776):BOy .shl 22 (.int .u64 (x:Nat)) (.int .u64 3) (.int .u64 ((8*x:Nat):Int)):=by
 intro p q w
 have e:IntKind.u64.wrap ((x:Int)*8)=((8*x:Nat):Int):=by rw[IntKind.wrap_u64];omega
 go_simp
 try exact e
 try omega
theorem gQ(hn:n≤1000):BOy .mul 3 (.int .i64 8) (.int .i64 (n:Nat)) (.int .i64 ((8*n:Nat):Int)):=by
 intro p q w
 have e:IntKind.i64.wrap (8*(n:Int))=((8*n:Nat):Int):=by rw[Af (by omega) (by omega)];omega
 go_simp
 try exact e
theorem cJ(m k:Nat)(hk:k<64):BOy .shr 22 (.int .u64 (m:Nat)) (.int .i64 (k:Nat)) (.int .u64 ((m/2^k:Nat):Int)):=by
 intro p q w
 have h1: ¬((k:Int)<0):=by omega
 go_simp
 try simp[h1]
 try rw[Nat.min_eq_left (by omega)]
theorem pk(x:Nat)(w:World):(convert 22 5 (.int .u64 (x:Nat))).run prog w= .ok (b8 (x %256)) w:=by
 have e:IntKind.u8.wrap (x:Int)=((x %256:Nat):Int):=by rw[IntKind.wrap_u8'];omega
 unfold convert b8
 go_simp
 try exact e
theorem pn(x:W)(w:World):(convert 187 5 (uv x)).run prog w= .ok (b8 (x.toNat %256)) w:=by
 have e:IntKind.u8.wrap (x.toNat:Int)=((x.toNat %256:Nat):Int):=by rw[IntKind.wrap_u8'];omega
 unfold convert b8 uv;generalize x.toNat=y at e;obtain⟨z,hz⟩: ∃z,y %256=z:=⟨_,rfl⟩
 rw[hz]at e⊢
 go_simp
 try exact e
theorem kO{m:Nat}(h:i<8):(Bl m)[i]? =some (m/2^(8*(7-i)) %256):=by
 have:i=0∨i=1∨i=2∨i=3∨i=4∨i=5∨i=6∨i=7:=by omega
 rcases this with rfl|rfl|rfl|rfl|rfl|rfl|rfl|rfl<;>rfl
theorem ey(h:x≤BE n):decide ((((n %64+1+x) %64:Nat):Int)≠56)=decide (x<BE n):=by
 unfold BE at*;exact decide_eq_decide.2 (by omega)
def OL(l:List Nat):List Value:=l.map b8++List.replicate (32-l.length) (b8 0)
theorem EU{l:List Nat}(h:l.length≤32):(OL l).length=32:=by simp[OL];omega
theorem OA{l:List Nat}(x:Nat){k:Nat}(hk:k=l.length)(h:l.length<32):(OL l).take k++(b8 x).cells.toList++(OL l).drop (k+1)=OL (l++[x]):=by
 subst hk;have h1:(OL l).take l.length=l.map b8:=by rw[OL,List.take_append_of_le_length (by simp),List.take_of_length_le (by simp)]
 have h2:(OL l).drop (l.length+1)=List.replicate (32-(l.length+1)) (b8 0):=by
  rw[OL,List.drop_append,List.drop_of_length_le (by simp),List.nil_append,List.drop_replicate];congr 1
  simp;omega
 rw[h1,h2,OL,List.map_append,List.length_append];rfl
theorem uf{l:List Nat}(h:l.length=32):OL l=l.map b8:=by simp[OL,h]
theorem qm(x:W):Br x=[(x>>>24).toNat %256,(x>>>16).toNat %256,(x>>>8).toNat %256,x.toNat %256]:=by
 simp only[Br,BitVec.toNat_ushiftRight,Nat.shiftRight_eq_div_pow]
theorem Vb{H:St}(h:i<8):H.l[i]? =some (H.l.getD i 0#32):=by
 have:i<H.l.length:=h;simp[List.getD,this]
theorem nO{H:St}(h:i<8):(H.l.take (i+1)).flatMap Br=(H.l.take i).flatMap Br++Br (H.l.getD i 0#32):=by
 rw[F8 (Vb h),List.flatMap_append];simp
theorem nP{H:St}(h:i≤8):((H.l.take i).flatMap Br).length=4*i:=by
 have:=out_len (H.l.take i);unfold TollSha.out at this;rw[this,List.length_take];have:H.l.length=8:=rfl;omega
theorem bk(h:([uv (stH a).a,uv (stH a).b,uv (stH a).c,uv (stH a).d,uv (stH a).e,uv (stH a).f,uv (stH a).g,uv (stH a).h]:List Value)[j]? =some v):(FZ a wv)[j]? =some v:=by
 unfold FZ;rw[show([uv (stH a).a,uv (stH a).b,uv (stH a).c,uv (stH a).d,uv (stH a).e,uv (stH a).f,uv (stH a).g,uv (stH a).h,wv,.int .i64 (a.length:Nat)]:List Value)=[uv (stH a).a,uv (stH a).b,uv (stH a).c,uv (stH a).d,uv (stH a).e,uv (stH a).f,uv (stH a).g,uv (stH a).h]++[wv,.int .i64 (a.length:Nat)] from rfl];rw[List.getElem?_append_left (List.getElem?_eq_some_iff.1 h).1];exact h
theorem uS{g:Nat}(w:World)(hL:Au w)(hs:ZQ w g wv a)(hw:AJ w wv (stW a).length 1 ((stW a).map b8) S)(h8: ∀x∈a,x<256)(hm:a.length<1048576):CBy 89 #[.pointer (some ⟨g,0,none⟩)] w (.agg ((sha a).map b8).toArray):=by
 obtain⟨Pd,hPd⟩: ∃Pd,An a=Pd:=⟨_,rfl⟩
 have hwl:=S3 a;have hwlt:=Sz a;have hz64:BE a.length<64:=Nat.mod_lt _ (by decide);have hWb:[]++(stW a).map b8++[b8 128]=(stW a++128::List.replicate 0 0).map b8:=by simp
 have hnb:64*nb a≤Pd.length:=by rw[←hPd];exact gE a
 have hpl:Pd.length %64=0:=by rw[←hPd];exact et a
 have hge: ∀m,Pd.length-64*m>0→64≤Pd.length-64*m:=fun m h=>by omega
 have hP8: ∀x∈Pd,x<256:=by rw[←hPd];exact padded_lt h8
 have hst:stH a=A7 H0 Pd (nb a):=by rw[←hPd];exact be a
 have htd:(stW a++128::List.replicate (BE a.length) 0)++(Bl (8*a.length)).take 8=Pd.drop (64*nb a):=by
  rw[←hPd,←ae];unfold OY;rw[List.append_assoc];rfl
 have htl:a.length %64+1+BE a.length+8=Pd.length-64*nb a:=by
  have:=congrArg List.length htd;simp only[List.length_append,List.length_cons,List.length_replicate,List.length_drop,hwl]at this;have h8':((Bl (8*a.length)).take 8).length=8:=rfl;omega
 go_enter func89,ntmps89
 refine AO ?_;iterate 2 refine k_k ?_
 refine Ko ?_;iterate 5 refine k_k ?_
 refine k_s (by exact AN rfl gg rfl rfl (fun w=>Tv _ _ _ w)) ?_;iterate 5 refine k_k ?_
 refine k_s (by exact BV rfl rfl gg rfl (e:=5) (l:=[]) rfl (by decide) (fun _=>by kernel_rfl)) ?_;iterate 2 refine k_k ?_
 refine HZ ?_;refine k_s (by exact Ck rfl gg rfl underlying26 rfl (hs 8 _ rfl)) ?_;refine k_s (by exact C1 rfl rfl gg rfl rfl rfl (AW hw) underlying26 el5 (by decide) (by simp) (DG _) (by simp only[maxLen];omega) (by omega) (by simp)) ?_;refine k_s (by exact BV rfl rfl gg rfl (e:=5) (l:=[b8 (128)]) rfl (by decide) (fun _=>by kernel_rfl)) ?_;refine WH ?_;iterate 4 refine k_k ?_
 refine B7 (α:={x:Nat // x≤BE a.length}) (fun(x:{x:Nat // x≤BE a.length}) f=>⟨.v (.pointer (some ⟨g,0,none⟩)):: .v (f 1):: .p 2 0:: .d 900::fv f 89 4 [],AK [(900,.row (a.length %64+1+x.1) 1 5 (.exact (((stW a++128::List.replicate x.1 0)).map b8))),(2,.arr (OL []) 46)]⟩) (fun x=>BE a.length-x.1) ?_ (⟨0,Nat.zero_le _⟩) ?_
 ·rintro⟨x,hx⟩ f
  obtain⟨q,h_q⟩: ∃q,decide (x<BE a.length)=q:=⟨_,rfl⟩
  have h_q':=(ey hx).trans h_q;change VOk _ _ _ _ _;simp only[fv,Nat.reduceAdd];iterate 4 refine k_k ?_
  refine EM ?_;refine k_s (by exact AN rfl gg rfl rfl (fun w=>dF _ _ _ w)) ?_;refine k_s (by exact A0 rfl gg rfl rfl h_q') ?_;refine k_k ?_;cases q
  ·refine k_k ?_
   have hxz:x=BE a.length:=by have:=of_decide_eq_false h_q;omega
   subst hxz;refine Aq ?_;change VOk _ _ _ _ _;iterate 4 refine k_k ?_
   refine QM ?_;refine k_s (by exact Ck rfl gg rfl underlying3 rfl (hs 9 _ rfl)) ?_;refine k_s (by exact A5 rfl gg rfl (fun w=>po (by omega) w)) ?_;refine k_s (by exact AN rfl gg rfl rfl (fun w=>cL (by omega) _ _ w)) ?_;iterate 8 refine k_k ?_
   refine B7 (α:={x:Nat // x≤8}) (fun(x:{x:Nat // x≤8}) f=>⟨.v (.pointer (some ⟨g,0,none⟩)):: .v (f 1):: .p 2 0:: .d 900:: .v (.int .u64 ((8*a.length:Nat):Int))::fv f 29 5 (.v (.int .i64 (x.1:Nat))::fv f 58 35 []),AK [(900,.row (a.length %64+1+BE a.length+x.1) 1 5 (.exact (((stW a++128::List.replicate (BE a.length) 0)++(Bl (8*a.length)).take x.1).map b8))),(2,.arr (OL []) 46)]⟩) (fun x=>8-x.1) ?_ (⟨0,Nat.zero_le _⟩) ?_
   ·rintro⟨y,hy⟩ f
    obtain⟨q2,h_q2⟩: ∃q,decide (y<8)=q:=⟨_,rfl⟩
    have h_q2':=(Cw y 8).trans h_q2;change VOk _ _ _ _ _;simp only[fv,Nat.reduceAdd];iterate 2 refine k_k ?_
    refine k_s (by exact A4 rfl gg rfl rfl h_q2') ?_;iterate 2 refine k_k ?_
    cases q2
    ·refine k_k ?_
     have hy8:y=8:=by have:=of_decide_eq_false h_q2;omega
     subst hy8;refine Aq ?_;change VOk _ _ _ _ _;iterate 4 refine k_k ?_
     refine QO ?_;refine k_s (by exact CS (vs:=[uv (stH a).a,uv (stH a).b,uv (stH a).c,uv (stH a).d,uv (stH a).e,uv (stH a).f,uv (stH a).g,uv (stH a).h]) rfl gg rfl underlying188 rfl sizeOf188 (fun j v hj=>(by rw[Nat.zero_add];exact hs j v (bk hj))) rfl) ?_;refine k_s (by exact Bq rfl rfl gg zeroValue188) ?_;refine My ?_;iterate 3 refine k_k ?_
     refine B7 (α:={m:Nat // nb a≤m∧64*m≤Pd.length}) (fun(x:{m:Nat // nb a≤m∧64*m≤Pd.length}) f=>⟨.v (.pointer (some ⟨g,0,none⟩)):: .v (f 1):: .p 2 0:: .d 900:: .v (f 4):: .v (f 5):: .p 6 0::fv f 86 7 [],AK [(900,.row (Pd.length-64*x.1) 1 5 (.exact ((Pd.drop (64*x.1)).map b8))),(6,.cells [.v (uv (A7 H0 Pd x.1).a),.v (uv (A7 H0 Pd x.1).b),.v (uv (A7 H0 Pd x.1).c),.v (uv (A7 H0 Pd x.1).d),.v (uv (A7 H0 Pd x.1).e),.v (uv (A7 H0 Pd x.1).f),.v (uv (A7 H0 Pd x.1).g),.v (uv (A7 H0 Pd x.1).h)] 188),(2,.arr (OL []) 46)]⟩) (fun x=>Pd.length-64*x.1) ?_ (⟨nb a,Nat.le_refl _,hnb⟩) ?_
     ·rintro⟨m,hm1,hm2⟩ f
      obtain⟨q3,h_q3⟩: ∃q,decide (Pd.length-64*m>0)=q:=⟨_,rfl⟩
      have h_q3':=(EI (Pd.length-64*m) 0).trans h_q3;obtain⟨H,hH⟩: ∃H,A7 H0 Pd m=H:=⟨_,rfl⟩
      rw[hH];change VOk _ _ _ _ _;simp only[fv,Nat.reduceAdd];iterate 4 refine k_k ?_
      refine EM ?_;refine k_s (by exact Bf rfl gg rfl rfl h_q3') ?_;refine k_k ?_;cases q3
      ·refine k_k ?_
       have hme:64*m=Pd.length:=by have:=of_decide_eq_false h_q3;omega
       have hH':A7 H0 Pd m=H:=hH;refine Aq ?_;refine Mq ?_
       refine Ko ?_;iterate 4 refine k_k ?_
       refine P7 ?_;iterate 3 refine k_k ?_
       refine B7 (α:={x:Nat // x≤8}) (fun(x:{x:Nat // x≤8}) f=>⟨.v (f 0):: .v (f 1):: .p 2 0:: .v (f 3):: .v (f 4):: .v (f 5):: .v (f 6):: .p 7 0::fv f 52 8 (.v (.agg #[uv (H).a,uv (H).b,uv (H).c,uv (H).d,uv (H).e,uv (H).f,uv (H).g,uv (H).h]):: .v (.int .i64 (x.1:Nat))::fv f 31 62 []),AK [(7,.arr (OL ((H.l.take x.1).flatMap Br)) 46),(2,.arr (OL []) 46)]⟩) (fun x=>8-x.1) ?_ (⟨0,Nat.zero_le _⟩) ?_
       ·rintro⟨z,hz⟩ f
        obtain⟨q4,h_q4⟩: ∃q,decide (z<8)=q:=⟨_,rfl⟩
        have h_q4':=(Cw z 8).trans h_q4;obtain⟨F,hF⟩: ∃F,(H.l.take z).flatMap Br=F:=⟨_,rfl⟩
        have hFl:F.length=4*z:=by rw[←hF];exact nP hz
        rw[hF];obtain⟨X,hX⟩: ∃X,H.l.getD z 0#32=X:=⟨_,rfl⟩
        change VOk _ _ _ _ _;simp only[fv,Nat.reduceAdd];iterate 2 refine k_k ?_
        refine k_s (by exact A4 rfl gg rfl rfl h_q4') ?_;iterate 2 refine k_k ?_
        cases q4
        ·refine k_k ?_
         have hz8:z=8:=by have:=of_decide_eq_false h_q4;omega
         subst hz8;have hsha:F=sha a:=by rw[←hF,←hH',←sha_of (m:=m) (a:=a) (by rw[hPd];exact hme),hPd];rfl
         refine Aq ?_;refine Mq ?_
         refine k_s (by exact XG (vs:=(sha a).map b8) rfl gg rfl rfl underlying46 rfl sizeOf46 (by rw[hsha,uf (sha_len a),List.drop_zero,List.take_of_length_le (by simp[sha_len])]) (by simp[sha_len])) ?_;refine k_s (by exact EA (l':=(sha a).map b8) rfl gg rfl rfl rfl sizeOf46 (by simp[Value.cells,sha_len]) (by rw[EU (by simp)];decide) (by show((sha a).map b8).toArray.toList.all _=true;exact DG _) (by rw[List.take_zero,List.nil_append,List.drop_of_length_le (by rw[EU (by simp)];decide),List.append_nil];simp[Value.cells])) ?_;refine k_k ?_;refine AG ?_;refine AD (AM results89 (IT (vs:=(sha a).map b8) rfl rfl underlying46 rfl sizeOf46 (List.take_of_length_le (by simp[sha_len])) (by simp[sha_len]))) ?_;intro ρ w' hr;exact⟨rfl,hr.1⟩
        ·refine k_k ?_
         have hlt:z<8:=of_decide_eq_true h_q4;iterate 6 refine k_k ?_
         refine k_s (by exact Qm (k:=z) (v:=uv X) rfl gg rfl rfl underlying188 sizeOf187 underlying187 rfl (of_decide_eq_true h_q4) (by have:=Vb (H:=H) (of_decide_eq_true h_q4);rw[hX]at this;have h9:=congrArg (Option.map uv) this;rw[←List.getElem?_map]at h9;exact h9)) ?_;iterate 5 refine k_k ?_
         refine Mz ?_;refine k_k ?_;refine Mz ?_;refine k_s (by exact A2 (c:=((4*z+1:Nat):Int)) rfl gg rfl rfl (by rw[Af (by omega) (by omega)];omega)) ?_;refine k_k ?_;refine Mz ?_;refine k_s (by exact A2 (c:=((4*z+2:Nat):Int)) rfl gg rfl rfl (by rw[Af (by omega) (by omega)];omega)) ?_;refine k_k ?_;refine Mz ?_;refine k_s (by exact A2 (c:=((4*z+3:Nat):Int)) rfl gg rfl rfl (by rw[Af (by omega) (by omega)];omega)) ?_;refine k_k ?_;refine k_s (by exact AN rfl gg rfl rfl (fun w=>IS _ 24 (by decide) _ _ w)) ?_;refine Mw ?_;refine k_k ?_;refine k_s (by exact AN rfl gg rfl rfl (fun w=>IS _ 16 (by decide) _ _ w)) ?_;refine Mw ?_;refine k_k ?_;refine k_s (by exact AN rfl gg rfl rfl (fun w=>IS _ 8 (by decide) _ _ w)) ?_;refine Mw ?_;refine k_k ?_;refine Mw ?_;refine k_s (by exact Eo (k:=4*z) (j:=4*z) rfl gg rfl rfl underlying46 sizeOf5 (by omega) (by omega)) ?_;refine k_6 ?_;refine k_s (by exact Eo (k:=4*z+1) (j:=4*z+1) rfl gg rfl rfl underlying46 sizeOf5 (by omega) (by omega)) ?_;refine k_6 ?_;refine k_s (by exact Eo (k:=4*z+2) (j:=4*z+2) rfl gg rfl rfl underlying46 sizeOf5 (by omega) (by omega)) ?_;refine k_6 ?_;refine k_s (by exact Eo (k:=4*z+3) (j:=4*z+3) rfl gg rfl rfl underlying46 sizeOf5 (by omega) (by omega)) ?_;refine k_6 ?_;iterate 2 refine k_k ?_
         refine k_s (by exact A2 (c:=((z+1:Nat):Int)) rfl gg rfl rfl (by rw[Af (by omega) (by omega)];omega)) ?_;iterate 2 refine k_k ?_
         refine⟨⟨z+1,by have:=of_decide_eq_true h_q4;omega⟩,by show 8-(z+1)<8-z;have:=of_decide_eq_true h_q4;omega,?_⟩;have e4:F++[(X>>>24).toNat %256]++[(X>>>16).toNat %256]++[(X>>>8).toNat %256]++[X.toNat %256]=(H.l.take (z+1)).flatMap Br:=by rw[nO (of_decide_eq_true h_q4),hF,hX,qm];simp
         rw[e4];exact Al (fun i=>i==2||i==7||i==60||i==61) []
       ·exact Al (fun i=>i==2||i==7||i==60||i==61) [900,6]
      ·iterate 5 refine k_k ?_
       refine P7 ?_;refine k_k ?_;refine k_s (by exact Hl (a:=0) (b:=64) (size:=1) rfl gg rfl underlying26 sizeOf5 (BI rfl) rfl rfl (by decide) (hge m (of_decide_eq_true h_q3))) ?_;refine k_s (by exact Aj (v:= .agg #[uv (TollSha.press H ((Pd.drop (64*m)).take 64)).a,uv (TollSha.press H ((Pd.drop (64*m)).take 64)).b,uv (TollSha.press H ((Pd.drop (64*m)).take 64)).c,uv (TollSha.press H ((Pd.drop (64*m)).take 64)).d,uv (TollSha.press H ((Pd.drop (64*m)).take 64)).e,uv (TollSha.press H ((Pd.drop (64*m)).take 64)).f,uv (TollSha.press H ((Pd.drop (64*m)).take 64)).g,uv (TollSha.press H ((Pd.drop (64*m)).take 64)).h]) [900] rfl gg rfl (eo func116) (fun ρ S w' hb hR=>by obtain⟨S0,s0⟩:=TW (lo:=0) (hi:=64) (n':=64) (l':=((Pd.drop (64*m)).take 64).map b8) (BI (id:=900) rfl) (Nat.zero_le _) (hge m (of_decide_eq_true h_q3)) (by rw[Nat.mul_one,Nat.mul_one,List.drop_zero,Nat.sub_zero,List.map_take]) rfl ρ S w' hb hR;exact Tx H w' (hL.bw hb) s0 (by rw[List.length_take,List.length_drop];have:=hge m (of_decide_eq_true h_q3);omega) (fun x hx=>hP8 x (List.mem_of_mem_drop (List.mem_of_mem_take hx))))) ?_;refine My ?_;iterate 3 refine k_k ?_
       refine k_s (by exact XN (a:=64) (m:=Pd.length-64*(m+1)) (l':=(Pd.drop (64*(m+1))).map b8) rfl rfl gg rfl rfl underlying26 sizeOf5 rfl (hge m (of_decide_eq_true h_q3)) (by rw[←List.map_drop,Xm]) (by simp) (by omega)) ?_;iterate 2 refine k_k ?_
       have h64:64≤Pd.length-64*m:=hge m (of_decide_eq_true h_q3);refine⟨⟨m+1,by omega,by omega⟩,by show Pd.length-64*(m+1)<Pd.length-64*m;omega,?_⟩;have e3:TollSha.press H ((Pd.drop (64*m)).take 64)=A7 H0 Pd (m+1):=by rw[←hH];rfl
       rw[e3];exact(Al (fun i=>i==0||i==2||i==3||i==6) []).trans2 (fun f=>DI 55 900 (by decide) rfl)
     ·rw[hst,htd,htl]
      exact(Al (fun i=>i==0||i==2||i==3||i==6) []).trans2 (fun f=>Le (a:=(6,_)) (b:=(900,_)) (show(6:Nat)≠900 by decide))
    ·refine k_k ?_
     have hlt:y<8:=of_decide_eq_true h_q2;iterate 12 refine k_k ?_
     refine k_s (by exact CF (c:=((7-y:Nat):Int)) rfl gg rfl rfl (by rw[Af (by omega) (by omega)];omega)) ?_;refine k_s (by exact AN rfl gg rfl rfl (fun w=>gQ (n:=7-y) (by omega) _ _ w)) ?_;refine k_s (by exact AN rfl gg rfl rfl (fun w=>cJ (8*a.length) (8*(7-y)) (by omega) _ _ w)) ?_;refine k_s (by exact A5 rfl gg rfl (fun w=>pk _ w)) ?_;refine k_s (by exact BV rfl rfl gg rfl (e:=5) (l:=[b8 (8*a.length/2^(8*(7-y)) %256)]) rfl (by decide) (fun _=>by kernel_rfl)) ?_;refine k_s (by exact C1 rfl rfl gg rfl rfl rfl (BI rfl) underlying26 el5 (by decide) (by simp[Bl];omega) rfl (by simp only[maxLen];omega) (by omega) (by simp)) ?_;iterate 3 refine k_k ?_
     refine k_s (by exact A2 (c:=((y+1:Nat):Int)) rfl gg rfl rfl (by rw[Af (by omega) (by omega)];omega)) ?_;iterate 2 refine k_k ?_
     refine⟨⟨y+1,by have:=of_decide_eq_true h_q2;omega⟩,by show 8-(y+1)<8-y;have:=of_decide_eq_true h_q2;omega,?_⟩;have e2:((stW a++128::List.replicate (BE a.length) 0)++(Bl (8*a.length)).take y).map b8++[b8 (8*a.length/2^(8*(7-y)) %256)]=((stW a++128::List.replicate (BE a.length) 0)++(Bl (8*a.length)).take (y+1)).map b8:=by rw[F8 (kO (of_decide_eq_true h_q2))];simp
     rw[e2];exact(Al (fun i=>i==0||i==2||i==3||i==4||i==34) [44]).trans2 (fun f=>DI 45 900 (by decide) rfl)
   ·refine(Al (fun i=>i==0||i==2||i==3||i==4||i==34) []).trans2 (fun f=>OF (fun _=>undef) ?_)
    simp[fv,CC,BS]
  ·refine k_k ?_
   have hlt:x<BE a.length:=of_decide_eq_true h_q;iterate 4 refine k_k ?_
   refine k_s (by exact BV rfl rfl gg rfl (e:=5) (l:=[b8 (0)]) rfl (by decide) (fun _=>by kernel_rfl)) ?_;refine WH ?_;iterate 2 refine k_k ?_
   refine⟨⟨x+1,by have:=of_decide_eq_true h_q;omega⟩,by show BE a.length-(x+1)<BE a.length-x;have:=of_decide_eq_true h_q;omega,?_⟩;have e1:((stW a++128::List.replicate x 0)).map b8++[b8 0]=((stW a++128::List.replicate (x+1) 0)).map b8:=by rw[List.replicate_succ'];simp
   rw[e1];exact(Al (fun i=>i==0||i==2||i==3) [26]).trans2 (fun f=>DI 27 900 (by decide) rfl)
 ·rw[hWb,hwl,show a.length %64+1=a.length %64+1+0 from rfl]
  exact(Al (fun i=>i==0||i==2||i==3) [19]).trans2 (fun f=>DI 20 900 (by decide) rfl)
end Go.Proofs.YtefpajmkaaielaaGreatDoor
