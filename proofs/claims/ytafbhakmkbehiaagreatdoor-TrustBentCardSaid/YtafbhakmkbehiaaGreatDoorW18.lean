import Derived.Lib.BufferWrite
import Derived.Test.YtafbhakmkbehiaaGreatDoorW17
open Go.Proofs.Tryz
set_option maxHeartbeats 4000000
set_option maxRecDepth 100000
namespace Go.Proofs.YtafbhakmkbehiaaGreatDoor
open Go.RowKit Go.Vx
variable(w:World){parts:Array (Nat×Operand)}{ops:Array Oper}{xs:Array Operand}{ats:Array TypeId}{D:Dat}{f:FuncId}{n:Int}{b is p rd:List Nat}{vs:List SV}{ks:List Tr}{i id q r:Nat}{S:Nat->Nat->Prop}{ρ:Nat->Nm}{G:Nat->Prop}{o:Oper}{x y:Operand}{P:Program}{t:Tr}{bt e ty:TypeId}{s:VS}{kv u v:Value}{X Y:Value->World->Prop}{w0:World}
open TollMont
open TollEc (F Pt Au base)
open TollSha (sha)
theorem Oy2{A B:Prop}(b:B)(c:B->A:=by exact A3 (by exact P9 (D:=AU (k0)) rfl rfl gg rfl yS rfl yI (ZC (i:=0) (_k:=0) (ks:=[k0,k1]) rfl rfl) ar (by decide)) id):A:=c b
theorem Ox2{A B:Prop}(b:B)(c:B->A:=by exact A3 (by exact P9 (D:=AU (k1)) rfl rfl gg rfl yS rfl yI (ZC (i:=1) (_k:=0) (ks:=[k0,k1]) rfl rfl) ar (by decide)) id):A:=c b
theorem fW{t:Nat}(A:∀x∈b,x<256)(g:b.length<=1048576)(h:sgT b=some (r,t)):r<R/\t<R:=by
 have c:=I3 A g;unfold sgT at h;generalize rdT b=z at h c;obtain⟨⟨B,C,ks⟩,E⟩:=z;simp only at h c;cases j:decide (E≠0)with
 |true=>rw[j]at h;cases h
 |false=>
  rw[j,cond_false,KA]at h;cases k:decide (B≠48)with
  |true=>rw[k]at h;cases h
  |false=>
   rw[k,cond_false]at h;have a:oks ks:=by simp only[Tr.ok]at c;exact c.2.2.2
   match ks,a,h with
   | [],_,h=>cases h
   | [_],_,h=>cases h
   |_::_::_::_,_,h=>cases h
   | [k0,k1],a,h=>
     rw[H5]at h;cases d:decide ((tbN k0).2≠0)with
     |true=>rw[d]at h;cases h
     |false=>
      cases l:decide ((tbN k1).2≠0)with
      |true=>rw[d,l]at h;cases h
      |false=>
       rw[d,l]at h;simp only[cond_false,yT,RC]at h;obtain⟨rfl,rfl⟩:=h;exact⟨VU a.1,VU a.2.1⟩
def G5(c:Crt):Dat:=⟨λxs w S=> ∃kv,xs=[CVV c kv]/\AO w kv c.ky.length 1 (c.ky.map b8) S,λ⟨kv,e,h⟩ hk=>⟨kv,e,h.keep hk⟩⟩
theorem Nb{w:World}{base:Nat}{m:Mem}{c:Crt}(h:RelOn base ρ S w (restr rd m))(a:id∈rd)(j:m id=some (.dat (G5 c))):∃kv,(ρ id).val=CVV c kv/\AO w kv c.ky.length 1 (c.ky.map b8) (S id):=by
 obtain⟨kv,d,g⟩:=Gc h a j;simp only[zX,zS]at d;exact⟨kv,d,g⟩
theorem f8{w c:World}{n:Nat}{l:List Value}(h:BN w c v n 1 ty l)(M:l.length=n):∃S,AO c v n 1 l S/\ ∀k,S k->w.heap.size<=k/\k<c.heap.size:=by
 obtain⟨g,h⟩:=h;have j:=DX h (by omega);rcases h with⟨I,d⟩|⟨K,E,H,L,I,d,J,_⟩
 .refine⟨λ_=>False,?_,λk a=>a.elim⟩
  obtain⟨C,F,z,A,B,_⟩:=j;exact⟨C,F,z,A,B,.inl (zJ (by omega))⟩
 .exact⟨_,j,λk a=>by subst a;exact⟨d,(z8.1 J).1⟩⟩
theorem iG{c:Crt}{t:Nat}(I:∀x∈b,x<256)(C:b.length<=1048576)(h:rdC b=some (c,r,t)):C2 c=true/\c.Fit/\r<R/\t<R/\(wrT (c.whole r t)).1=b:=by
 have a:=I3 I C;unfold rdC at h;generalize rdT b=z at h a;obtain⟨k,E⟩:=z;simp only at h a;cases F:decide (E≠0)with
 |true=>rw[F]at h;cases h
 |false=>
  rw[F,cond_false,Gz]at h;cases H: !(wiB (CX k) 0 3 && wiB (Cl k) 0 3)with
  |true=>rw[H]at h;cases h
  |false=>
   rw[H,cond_false]at h;have g:=Hv (Af [2] a);have j:=KE (Af [2] a);generalize J:BO (AC [2] k)=gb at h g j;cases A:sgT gb with
   |none=>rw[A,GF]at h;cases h
   |some rt=>
    obtain⟨K,L⟩:=rt;rw[A,GF]at h;cases l:C2 (GJ k)with
    |false=>rw[l]at h;cases h
    |true=>
     rw[l]at h;cases B:decide ((wrT ((GJ k).whole K L)).1=b)with
     |false=>rw[B]at h;cases h
     |true=>
      rw[B]at h;simp only[z5,cond_false,yT,RC]at h;obtain⟨rfl,rfl,rfl⟩:=h;have d:=fW g j A;exact⟨l,KD (EY (Af [3,0,1] (Af [0] a))).1 (EY (Af [5,0,1] (Af [0] a))).1 (Hv (Af [6,1] (Af [0] a))) l,d.1,d.2,yA B⟩
def Ed(c:Crt):Nat:=TollBy.beV (sha (wrT c.body).1) 0
theorem eX(c:Crt):Ed c<R:=IX (TollSha.sha_len _) (Oa _)
theorem Vf(c:Crt):Value.agg ((sha [(wrT c.body).1].flatten).map b8).toArray=B32 (Ed c):=by
 rw[Qq,Ed,G6 (TollSha.sha_len _) (Oa _)];rw[List.flatten_cons,List.flatten_nil,List.append_nil]
open Classical in
noncomputable def Ob(b l:List Nat):Int:=match rdC b with
 |none=>2
 |some (c,r,t)=>EX l (Ed c) r t
theorem QL{w:World}{S:Nat->Prop}{c:Crt}(a:(ρ id).val=CVV c kv)(g:AO w kv c.ky.length 1 (c.ky.map b8) S):((SV.d id).c ρ).cells.toList=SV.cs ρ [.v (.int .i64 c.se),.v (.string (AB c.is)),.v (.string (AB c.su)),.v (.int .i64 c.fr),.v (.int .i64 c.to),.fn (AN 5) (.d id),.v (.bool c.ca),.v (.int .i64 c.pa),.v (.int .i64 c.us)]/\(SV.cs ρ [.v (.int .i64 c.se),.v (.string (AB c.is)),.v (.string (AB c.su)),.v (.int .i64 c.fr),.v (.int .i64 c.to),.fn (AN 5) (.d id),.v (.bool c.ca),.v (.int .i64 c.pa),.v (.int .i64 c.us)]).all (·.oneCell')=true:=by
 obtain⟨h,j,rfl,_⟩:=g;simp[SV.c,SV.cs,a,CVV,AN,Value.cells,Value.oneCell']
theorem cX{w:World}{base:Nat}{m:Mem}{c:Crt}(j:RelOn base ρ S w (restr rd m))(a:id∈rd)(k:m id=some (.dat (G5 c))):∃kv,SV.c ρ (.agg [.v (.int .i64 c.se),.v (.string (AB c.is)),.v (.string (AB c.su)),.v (.int .i64 c.fr),.v (.int .i64 c.to),.fn (AN 5) (.d id),.v (.bool c.ca),.v (.int .i64 c.pa),.v (.int .i64 c.us)])=CVV c kv/\AO w kv c.ky.length 1 (c.ky.map b8) (S id):=by
 obtain⟨kv,g,h⟩:=Nb j a k;refine⟨kv,?_,h⟩;simp[SV.c,SV.cs,g,CVV,AN,Value.cells]
theorem gR{w:World}(id:Nat){c:Crt}(z:Rel w0 ρ s w)(g:s.mem id=some (.dat (G5 c))):Ae w0 w (SV.c ρ (.agg [.v (.int .i64 c.se),.v (.string (AB c.is)),.v (.string (AB c.su)),.v (.int .i64 c.fr),.v (.int .i64 c.to),.fn (AN 5) (.d id),.v (.bool c.ca),.v (.int .i64 c.pa),.v (.int .i64 c.us)])) (G5 c):=by
 obtain⟨hb,S,a⟩:=z;obtain⟨kv,h,l⟩:=a.good id _ g;simp only[zX,zS]at h;have e:SV.c ρ (.agg [.v (.int .i64 c.se),.v (.string (AB c.is)),.v (.string (AB c.su)),.v (.int .i64 c.fr),.v (.int .i64 c.to),.fn (AN 5) (.d id),.v (.bool c.ca),.v (.int .i64 c.pa),.v (.int .i64 c.us)])=CVV c kv:=by simp[SV.c,SV.cs,h,CVV,AN,Value.cells]
 rw[e];exact⟨S id,⟨kv,rfl,l⟩,λk j=>⟨a.fr id k (by rw[g];rfl) j,a.lt id k (by rw[g];rfl) j⟩⟩
theorem gz{F:Nat->Prop}{c:Crt}{t:Nat}(k:Laid w)(l:AO w v b.length 1 (b.map b8) F)(j:∀x∈b,x<256)(d:b.length<=1048576)(h:rdC b=some (c,r,t)):
 Calls prog 34 #[v] w λe g=> ∃u,e=.returned (.tuple #[u,PT r t,.int .i64 0])/\Ae w g u (G5 c)/\Bw w g:=by
 have a:=WO w k l j d;rw[h]at a;refine a.mono λe g ⟨⟨kv,h1,h2⟩,h3⟩=>⟨_,h1,?_,h3⟩
 obtain⟨S,z,A⟩:=f8 h2 (by simp);exact⟨S,⟨kv,rfl,z⟩,A⟩
theorem gu{F:Nat->Prop}(g:Laid w)(j:AO w v b.length 1 (b.map b8) F)(d:∀x∈b,x<256)(c:b.length<=1048576)(h:rdC b=none):
 CBy 34 #[v] w (.tuple #[CZ,ZV,.int .i64 2]):=by
 have a:=WO w g j d c;rw[h]at a;exact a
theorem qC{w:World}{base:Nat}{m:Mem}{c:Crt}(id:Nat)(z:c.Fit)(k:B6 w)(j:CQ w)(a:7<w.heap.size)(l:RelOn base ρ S w (restr rd m))(g:id∈rd)(A:m id=some (.dat (G5 c))):
 CBy 47 (SV.cs ρ [.agg [.v (.int .i64 c.se),.v (.string (AB c.is)),.v (.string (AB c.su)),.v (.int .i64 c.fr),.v (.int .i64 c.to),.fn (AN 5) (.d id),.v (.bool c.ca),.v (.int .i64 c.pa),.v (.int .i64 c.us)]]).toArray w (B32 (Ed c)):=by
 obtain⟨kv,e,h⟩:=cX l g A;simp only[SV.cs,e];rw[<-Vf];exact Ve w z h k j a
theorem sJ{l:List Nat}{F:Nat->Prop}(hL:Laid w)(_h:B6 w)(_g:CQ w)(_a:7<w.heap.size)(hv:AO w v b.length 1 (b.map b8) F)(_j:AO w u l.length 1 (l.map b8) G)(h8:∀x∈b,x<256)(_d:∀x∈l,x<256)(hbl:b.length<=1048576)(hc:rdC b=none):CBy 20 #[v,u] w (.int .i64 2):=by
 go_enter func20,ntmps20
 refine A4 ?_;iterate 7 refine AA ?_
 refine XF ?_;iterate 14 refine AA ?_
 refine AX (by exact BB (p:=true) rfl gg rfl rfl (by decide)) ?_;iterate 7 refine AA ?_
 exact AG (AD (AH results20 (AF rfl)) λ_ _ c=>⟨rfl,c.1⟩)
theorem sH{l:List Nat}{F:Nat->Prop}(hL:Laid w)(C:B6 w)(B:CQ w)(j:7<w.heap.size)(hv:AO w v b.length 1 (b.map b8) F)(H:AO w u l.length 1 (l.map b8) G)(h8:∀x∈b,x<256)(z:∀x∈l,x<256)(hbl:b.length<=1048576){c:Crt}{t:Nat}(hc:rdC b=some (c,r,t)):CBy 20 #[v,u] w (.int .i64 (EX l (Ed c) r t)):=by
 have k:=iG h8 hbl hc
 go_enter func20,ntmps20
 refine A4 ?_;iterate 7 refine AA ?_
 refine Wg ?_;iterate 6 refine AA ?_
 refine AX (by exact Bh (vl:=[.v (.int .i64 c.se),.v (.string (AB c.is)),.v (.string (AB c.su)),.v (.int .i64 c.fr),.v (.int .i64 c.to),.fn (AN 5) (.d 10),.v (.bool c.ca),.v (.int .i64 c.pa),.v (.int .i64 c.us)]) [10,5] rfl gg rfl rfl rfl yN rfl (λρ S A _ g=>by obtain⟨kv,e,h⟩:=Nb (id:=10) g (by simp) rfl;exact QL e h) rfl (by simp)) ?_;iterate 7 refine AA ?_
 refine AX (by exact BB (p:=false) rfl gg rfl rfl (by decide)) ?_;iterate 7 refine AA ?_
 refine AX (by exact Aj (v:=B32 (Ed c)) [10] rfl gg rfl (eo func47) (λρ S A hb g=>qC 10 k.2.1 (C.bw hb) (B.bw hb) (yK j hb.size) g (by simp) rfl)) ?_;refine AA ?_;refine AX (by exact Ad (v:=.int .i64 (EX l (Ed c) r t)) rfl gg rfl (eo func46) (λA a=>sa (A5 H a) z (eX c) k.2.2.1 k.2.2.2.1 (hL.bw a))) ?_;iterate 2 refine AA ?_
 exact AG (AD (AH results20 (AF rfl)) λ_ _ E=>⟨rfl,E.1⟩)
theorem sI{l:List Nat}{F:Nat->Prop}(z:Laid w)(k:B6 w)(j:CQ w)(a:7<w.heap.size)(C:AO w v b.length 1 (b.map b8) F)(B:AO w u l.length 1 (l.map b8) G)(h:∀x∈b,x<256)(g:∀x∈l,x<256)(d:b.length<=1048576):CBy 20 #[v,u] w (.int .i64 (Ob b l)):=by
 unfold Ob;rcases A:rdC b with _|⟨c,r,t⟩
 .exact sJ w z k j a C B h g d A
 .exact sH w z k j a C B h g d A
theorem qF{F:Nat->Prop}(hL:Laid w)(hv:AO w v b.length 1 (b.map b8) F)(h8:∀x∈b,x<256)(hbl:b.length<=1048576)(hc:rdC b=none):CBy 12 #[v] w (.tuple #[CZ,.int .i64 2]):=by
 go_enter func12,ntmps12
 refine A4 ?_;iterate 2 refine aT ?_
 iterate 6 refine AA ?_
 refine XF ?_;iterate 17 refine AA ?_
 exact AG (AD (Av results12 (Ac rfl rfl zB rfl yN rfl rfl) (AF rfl)) λ_ _ a=>⟨rfl,a.1⟩)
theorem qE{F:Nat->Prop}{c:Crt}{t:Nat}(hL:Laid w)(hv:AO w v b.length 1 (b.map b8) F)(h8:∀x∈b,x<256)(hbl:b.length<=1048576)(hc:rdC b=some (c,r,t)):Calls prog 12 #[v] w λe a=> ∃u,e=.returned (.tuple #[u,.int .i64 0])/\Ae w a u (G5 c)/\Bw w a:=by
 go_enter func12,ntmps12
 refine A4 ?_;iterate 2 refine aT ?_
 iterate 6 refine AA ?_
 refine Wg ?_;iterate 6 refine AA ?_
 refine Wx ?_;iterate 7 refine AA ?_
 refine Wx ?_;iterate 2 refine AA ?_
 refine AG ?_;refine AD (Av results12 (Am rfl rfl zB rfl yN rfl) (AF rfl)) ?_;intro ρ a d;exact⟨_,rfl,gR 9 d rfl,d.1⟩
theorem qG{c:Crt}{F:Nat->Prop}{d t:Nat}(H:Laid w)(E:B6 w)(C:CQ w)(j:7<w.heap.size)(k:AO w kv c.ky.length 1 (c.ky.map b8) F)(h:c.Fit)(z:C2 c=true)(A:∀g,Bw w g->CBy 58 #[B32 d,B32 (Ed c)] g (.tuple #[PT r t,.int .i64 0])):Calls prog 30 #[(.agg #[.int .i64 c.se,.string (AB c.is),.string (AB c.su),.int .i64 c.fr,.int .i64 c.to,kv,.bool c.ca,.int .i64 c.pa,.int .i64 c.us]),B32 d] w λe g=> ∃v,e=.returned (.tuple #[v,.int .i64 0])/\BN w g v ((wrT (c.whole r t)).1.length) 1 5 ((wrT (c.whole r t)).1.map b8)/\Bw w g:=by
 go_enter func30,ntmps30
 refine A4 ?_;iterate 11 refine AA ?_
 refine AX (by exact CI z rfl gg rfl (eo func57) (λg a=>WE g (H.bw a) (A5 k a) h.k8 h.i8 h.s8 (by have:=h.il;omega) (by have:=h.sl;omega))) ?_;refine k_9 ?_;iterate 5 refine aT ?_
 iterate 2 refine AA ?_
 refine AX (by exact Ad (v:=B32 (Ed c)) rfl gg rfl (eo func47) (λg a=>by rw[<-Vf];exact Ve g h (A5 k a) (E.bw a) (C.bw a) (yK j a.size))) ?_;refine AX (by exact Ad (v:=.tuple #[PT r t,.int .i64 0]) rfl gg rfl (eo func58) (λg a=>A g a)) ?_;iterate 11 refine AA ?_
 refine AX (by exact BB (p:=false) rfl gg rfl rfl (by decide)) ?_;iterate 5 refine aT ?_
 iterate 2 refine AA ?_
 refine AX (by exact Cs [] rfl rfl gg rfl (eo func59) (n:=(wrT (c.whole r t)).1.length) (size:=1) (l:=(wrT (c.whole r t)).1.map b8) (by simp) (λρ S g hb I=>VA g h (A5 k hb))) ?_;iterate 3 refine AA ?_
 refine AG ?_;refine AD (Av results30 (AF rfl) (AF rfl)) ?_;intro ρ g B;exact⟨_,rfl,B8 B rfl,B.1⟩
def LZ(m:Mem):List Nat->List Tr->Prop
 | [],[]=>True
 |i::is,t::ts=>m i=some (.dat (AU t))/\LZ m is ts
 |_,_=>False
theorem cQ{m:Mem}:∀{is:List Nat} {ks:List Tr},LZ m is ks->is.length=ks.length
 | [],[],_=>rfl
 |_::_,_::_,h=>by simp[cQ h.2]
 | [],_::_,h=>h.elim
 |_::_,[],h=>h.elim
theorem cR{m:Mem}:∀{is:List Nat} {ks:List Tr},LZ m is ks-> ∀i∈is,∃t,m i=some (.dat (AU t))
 |_::_,_::_,h,i,hi=>by
  rcases uA6.1 hi with rfl|hi
  .exact⟨_,h.1⟩
  .exact cR h.2 i hi
 | [],_,_,_,hi=>by cases hi
 |_::_,[],h,_,_=>h.elim
section
variable{ρ:Nat->Nm}{S:Nat->Nat->Prop}{w:World}{base:Nat}{m:Mem}{rd:List Nat}
theorem cS(d:RelOn base ρ S w (restr rd m)):∀{is:List Nat} {ks:List Tr},LZ m is ks->(∀i∈is,i∈rd)-> ∃a,SV.cs ρ (tri is)=a/\RNs w (Ic S m rd) ks a/\a.length=is.length*3/\a.all (·.oneCell')=true
 | [],[],_,_=>⟨[],rfl,rfl,rfl,rfl⟩
 |i::is,t::ts,h,hi=>by
  obtain⟨a,l,z,A,B⟩:=cS d h.2 λj C=>hi j (by simp[C])
  obtain⟨c,g,d1⟩:=C9 d (hi i (by simp)) h.1;have f1:=(fn3 g (Cu d1)).2;refine⟨c++a,?_,⟨c,a,rfl,Un (λk E=>⟨i,hi i (by simp),by rw[h.1];rfl,E⟩) d1,z⟩,by rw[yM,Cu d1,A,List.length_cons];omega,by rw[List.all_append,Ib d1,B];rfl⟩;rw[<-f1,<-l];simp[tri,A8]
 | [],_::_,h,_=>h.elim
 |_::_,[],h,_=>h.elim
end
theorem oj{n:Nat}(I:o.dst=some id)(J:o.op=.buildSlice ty n parts)(k:AQ ops o s)
 (K:parts.toList.map (·.1)=List.range' 0 n)(N:parts.toList.map (λp=>AE s p.2)=is.map .d)(H:LZ s.mem is ks)(z:SV.hasL id (tri is)=false)
 (M:P.underlying ty=some (.slice e))(B:(P.info? e).map (·.size)=some 3)(O:((P.info? e).bind (·.zero)).isSome=true)(h:0<n*3)(A:n*3<=2^24):
 Ev P ops w0 o s ⟨.s id 0 n n,[(id,.cells (tri is) e)],[],[id],is⟩:=
 NU (ys:=is.map .d) (ls:=is.map λi=>[.fn (AN 0) (.d i),.fn (AN 1) (.d i),.fn (AN 2) (.d i)]) is I J k K N (by simp) (λρ S w _ F j y Q g a=>by
  rw[zC]at g a;cases l:is[j]? with
  |none=>rw[l]at g;cases g
  |some i=>
   rw[l]at g a;simp only[AT,yT]at g a;subst g a;have C:i∈is:=zA l;obtain⟨t,L⟩:=cR H i C;obtain⟨c,E,d1⟩:=C9 F C L;exact(fn3 E (Cu d1)).1) (λQ a=>by obtain⟨i,_,rfl⟩:=uB8.1 a;rfl) (by rw[tri,List.flatMap_def]) z M B O h A
theorem an{a:Act}{w:World}(h:Up P o a w X)(g:∀v c,X v c->Y v c):Up P o a w Y:=by
 rcases h with⟨v,c,e,h⟩|⟨c,e,h⟩|⟨f,d,e,h⟩
 .exact .inl ⟨v,c,e,g _ _ h⟩
 .exact .inr (.inl ⟨c,e,g _ _ h⟩)
 .exact .inr (.inr ⟨f,d,e,h.mono λ_ _ ⟨v,h1,h2⟩=>⟨v,h1,g _ _ h2⟩⟩)
def NZ(ks:List Tr):Dat:=⟨λxs w S=> ∃v a,xs=[v]/\AO w v ks.length 3 a S/\RNs w S ks a,λ⟨v,a,e,h,g⟩ hk=>⟨v,a,e,h.keep hk,Nv hk g⟩⟩
theorem bA{a:Nat->Nm}(h:∀i∈is,a i=ρ i):SV.cs a (tri is)=SV.cs ρ (tri is):=by
 rw[A8,A8];apply uB4;intro x d;obtain⟨i,g,d⟩:=List.mem_flatMap.1 d;simp only[List.mem_cons,List.not_mem_nil,or_false]at d;rcases d with rfl|rfl|rfl<;>simp[SV.c,h i g]
theorem Dg{n:Nat}(hd:o.dst=some id)(a:o.op=.buildSlice ty n parts)(E:AQ ops o s)
 (hp:parts.toList.map (·.1)=List.range' 0 n)(J:parts.toList.map (λp=>AE s p.2)=is.map .d)(M:LZ s.mem is ks)(O:SV.hasL id (tri is)=false)
 (hu:P.underlying ty=some (.slice e))(U:(P.info? e).map (·.size)=some 3)(hz:((P.info? e).bind (·.zero)).isSome=true)(H:0<n*3)(T:n*3<=2^24)(R:id∉is):
 Ev P ops w0 o s ⟨.d id,[(id,.dat (NZ ks))],[],[id],is⟩:=
 ⟨by simp[Eff.ok],.inr ⟨E,λρ S w hb L=>by
  have h:=oj (w0:=w0) hd a E hp J M O hu U hz H T
  have F:is.length=n:=by
   have h1:=BT List.length hp;have C:=BT List.length J;simp only[DE,List.length_range']at h1 C;omega
  rcases h.does with⟨_,C⟩|⟨_,C⟩
  .cases C
  .refine an (C ρ S w hb L) λv w' ⟨z,S',a⟩=> ?_
   obtain⟨Z,W,c2,c3,c4⟩:=cS L M (λi A=>A);have hg:=a.good id (.cells (tri is) e) (by simp[AJ]);have I:∀i∈is,z i=ρ i:=λi A=>a.same i (by simp only[RK];intro c;exact R (c▸A))
   have hh:w'.heap[(z id).g]? =some (.cells Z.toArray e (0,0)):=by
    have:=hg.2;rw[CP,bA I,W]at this;exact this
   have N:w.heap.size<=(z id).g:=by
    rcases a.own id (.cells (tri is) e) (by simp[AJ]) trivial with⟨i,A,_⟩|⟨K,_⟩
    .cases A
    .exact K
   have Q:∀k,Ic S s.mem is k->k<w.heap.size:=λk ⟨j,hj,K,h4⟩=>L.lt j k (by unfold restr;rw[x9 (by simpa using hj)];exact K) h4
   have hv:=a.val;simp only[SV.c]at hv
   have:=Cj (base:=w0.heap.size) (t:=s.mem) (ρ:=ρ) (S:=S) (w:=w) (w':=w') (val:=.d id) (rd:=is) (up:=[]) (id:=id) (b:=.dat (NZ ks)) (m:=⟨0,v⟩) (S1:=λk=>Ic S s.mem is k\/k=(z id).g)
    a.os a.tape a.output a.size (λk B _=>a.block k B (λi A=>by cases A)) (λV g1 _=>by
     show(NZ ks).holds [(V id).val] w' _;rw[g1];refine⟨v,Z,rfl,?_,Nu (λk B=>.inl B) (Nv (λk B=>a.block k (Q k B) (λi A=>by cases A)) c2)⟩;rw[hv,<-cQ M,F];refine⟨_,_,rfl,yD _,by rw[c3,F],.inr ⟨_,rfl,.inr rfl,λi x J=> ?_⟩⟩;exact UE (l:=tri is) (ρ:=z) hg.2 (by rw[bA I,W];exact J)) (λk B=>by
     rcases B with B|rfl
     .exact .inl B
     .exact .inr ⟨N,(z8.1 hh).1⟩) (λa=>a.elim)
   exact⟨_,_,by simpa[SV.c] using this⟩⟩⟩
theorem Ev.datD(rd:List Nat)(a:AQ ops o s)(h:∀ρ S w,Bw w0 w->RelOn w0.heap.size ρ S w (restr rd s.mem)-> ∃v S1,(execOp (s.act ρ).eval o).run P w=.ok (.value v) w/\D.holds [v] w S1/\ ∀k,S1 k-> ∃j∈rd,(s.mem j).isSome/\S j k):
 Ev P ops w0 o s ⟨.d id,[(id,.dat D)],[],[id],rd⟩:=
 ⟨by simp[Eff.ok],.inr ⟨a,λρ S w hb C=>by
  obtain⟨v,S1,z,A,B⟩:=h ρ S w hb C;refine .inl ⟨v,w,z,λj=>if j=id then⟨0,v⟩else ρ j,λ_=>S1,?_⟩
  have:=Cj (base:=w0.heap.size) (t:=s.mem) (ρ:=ρ) (S:=S) (w:=w) (w':=w) (val:=.d id) (rd:=rd) (up:=[]) (id:=id) (b:=.dat D) (m:=⟨0,v⟩) (S1:=S1)
   rfl rfl rfl (yD _) (λk H _=>rfl) (λg l _=>by show D.holds [(g id).val] w S1;rw[l];exact A) (λq F=>.inl (B q F)) (λE=>E.elim)
  simpa[SV.c] using this⟩⟩
theorem Ev.asD(h:Ev P ops w0 o s ⟨.v v,[],[],[],rd⟩)(H:v≠undef)(j:AQ ops o s)(C:∀w,D.holds [v] w (λ_=>False)):Ev P ops w0 o s ⟨.d id,[(id,.dat D)],[],[id],rd⟩:=
 ⟨by simp[Eff.ok],.inr ⟨j,λρ S w hb E=>by
  rcases h.does with⟨_,g⟩|⟨_,g⟩
  .injection g with h3;injection h3 with h4;exact absurd h4 H
  .refine an (g ρ S w hb E) λI w' ⟨J,S',a⟩=> ?_
   have A:=a.val;simp only[SV.c]at A;subst A
   have:=Cj (base:=w0.heap.size) (t:=s.mem) (ρ:=ρ) (S:=S) (w:=w) (w':=w') (val:=.d id) (rd:=rd) (up:=[]) (id:=id) (b:=.dat D) (m:=⟨0,I⟩) (S1:=λ_=>False)
    a.os a.tape a.output a.size (λk l _=>a.block k l (λi F=>by cases F)) (λz B _=>by show D.holds [(z id).val] w' _;rw[B];exact C w') (λk l=>l.elim) (λa=>a.elim)
   exact⟨_,_,by simpa[SV.c] using this⟩⟩⟩
theorem KZ(t:Int)(b:List Nat)(w:World)(S:Nat->Prop):(AU (.mk t b [])).holds [.agg #[.int .i64 t,.string (AB b),.slice none 0 0]] w S:=by
 refine⟨[_,_,_],rfl,?_⟩;simp only[RN,RNs];exact⟨_,[],rfl,⟨none,0,rfl,yD _,rfl,.inl rfl⟩,rfl⟩
theorem LH{t:Int}(_hd:o.dst=some id)(c:o.op=.build 71 #[(0,x),(1,y)])(a:AQ ops o s)(g:AE s x=.v (.int .i64 t))(j:AE s y=.v (.string (AB b))):
 Ev prog ops w0 o s ⟨.d id,[(id,.dat (AU (.mk t b [])))],[],[id],[]⟩:=
 Ev.asD (v:=.agg #[.int .i64 t,.string (AB b),.slice none 0 0]) (A6 (pl:=[(0,.int .i64 t),(1,.string (AB b))]) c a (by simp[g,j,CG]) (LP t (AB b))) (λh=>by cases h) a λw=>KZ t b w _
theorem Y9{t:Int}{a:List Value}{w:World}{S:Nat->Prop}(h:AO w v ks.length 3 a S)(g:RNs w S ks a):(AU (.mk t [] ks)).holds [.agg #[.int .i64 t,.string (AB []),v]] w S:=by
 refine⟨[_,_,_],rfl,?_⟩;rw[RN];exact⟨_,a,rfl,h,g⟩
theorem QA{t:Int}(_hd:o.dst=some id)(F:o.op=.build 71 #[(0,x),(2,y)])(a:AQ ops o s)(H:AE s x=.v (.int .i64 t))(I:AE s y=.d q)(l:s.mem q=some (.dat (NZ ks))):
 Ev prog ops w0 o s ⟨.d id,[(id,.dat (AU (.mk t [] ks)))],[],[id],[q]⟩:=
 Ev.datD [q] a λρ S w hb C=>by
  obtain⟨v,J,e,j,B⟩:=Gc (id:=q) C (by simp) l;simp only[zX,zS]at e;have g:=AI s ρ x;rw[H]at g;have h:=AI s ρ y;rw[I]at h;refine⟨.agg #[.int .i64 t,.string (AB []),v],S q,?_,Y9 j B,λk E=>⟨q,by simp,by rw[l];rfl,E⟩⟩;obtain⟨z,A,rfl,_⟩:=j;simp only[execOp,F,List.map_toArray,List.map_cons,List.map_nil,g,h,SV.c,e];rw[Sem.run_bind,run_build w 71 _ _ (bm t z ks.length A)];rfl
theorem Eu{did:Nat}{l:List SV}(A:o.op=.store ty x y)(g:AQ ops o s)(C:AE s x=.p id 0)(z:s.mem id=some (.cells l bt))(E:AE s y=.d did)(a:s.mem did=some (.dat (AU t)))
 (B:∀w,(Go.sizeOf ty).run P w=.ok 3 w)(k:l.length=3):Ev P ops w0 o s ⟨.v undef,[(id,.cells [.fn (AN 0) (.d did),.fn (AN 1) (.d did),.fn (AN 2) (.d did)] bt)],[id],[],[id,did]⟩:=by
 have:=Bh (w0:=w0) (l:=l) (vl:=[.fn (AN 0) (.d did),.fn (AN 1) (.d did),.fn (AN 2) (.d did)]) [id,did] A g C z E B (by simp) (λρ S w _ j=>by
  obtain⟨c,h,d1⟩:=C9 (id:=did) j (by simp) a;have f:=fn3 h (Cu d1);exact⟨f.1,by rw[f.2];exact Ib d1⟩) rfl (by omega)
 simpa[SM (Nat.le_of_eq k)] using this
theorem V0(h:∃a n c,v=.slice a n c):CBy 32 #[v] w (.agg #[.int .i64 48,.string (AB []),v]):=by
 obtain⟨a,n,c,rfl⟩:=h
 go_enter func32,ntmps32
 refine A4 ?_;iterate 2 refine aT ?_
 iterate 5 refine AA ?_
 refine AX (by exact A6 rfl gg rfl (bm 48 _ _ _)) ?_;refine AX (by exact BA rfl gg rfl rfl rfl yI rfl (by simp) rfl) ?_;refine aT ?_;exact AG (AD (AH results32 (Ac rfl rfl yS rfl yI rfl rfl)) λ_ _ d=>⟨rfl,d.1⟩)
theorem D9{w:World}{base:Nat}{m:Mem}(H:RelOn base ρ S w (restr rd m))(C:q∈rd)(B:m q=some (.dat (NZ ks))):
 Calls prog 32 (SV.cs ρ [.d q]).toArray w λe a=> ∃v g,e=.returned v/\(AU (.mk 48 [] ks)).holds [v] a g/\(∀k,g k->(∃j∈rd,(m j).isSome/\S j k)\/(w.heap.size<=k/\k<a.heap.size))/\Bw w a:=by
 obtain⟨v,K,e,A,F⟩:=Gc H C B;simp only[zX,zS]at e;simp only[SV.cs,SV.c,e];have J:∃l n z,v=.slice l n z:=by obtain⟨l,z,h,_⟩:=A;exact⟨_,_,_,h⟩
 exact(V0 w J).mono λe a ⟨E,a2⟩=>⟨_,S q,E,Y9 (A5 A a2) (Um a2 F),λk I=>.inl ⟨q,C,by rw[B];rfl,I⟩,a2⟩
theorem Iy:CDy 72 #[.string (AB b)] w (AU (B5 b)):=by
 go_enter func72,ntmps72
 refine A4 ?_;iterate 2 refine aT ?_
 iterate 5 refine AA ?_
 refine AX (by exact LH (t:=6) (b:=b) rfl rfl gg rfl rfl) ?_;refine AX (by exact Eu (did:=4) rfl gg rfl rfl rfl rfl yI rfl) ?_;refine aT ?_;refine AG ?_;refine AD (AH results72 (Am rfl rfl yS rfl yI rfl)) ?_;intro ρ c a;exact⟨_,rfl,Fw 4 a rfl,a.1⟩
theorem lG(m:Nat):(CW m).length<=64:=RT rfl
theorem bu(n:Nat):(bl n).length<=64:=by rw[EB];decide
theorem Iz(g:0<=n)(k:n<9223372036854775808):CDy 113 #[.int .i64 n] w (AU (iT n)):=by
 go_enter func113,ntmps113
 refine A4 ?_;iterate 2 refine aT ?_
 iterate 5 refine AA ?_
 refine AX (by exact Ad (v:=.string (AB (CW n.toNat))) rfl gg rfl (eo func167) (λc h=>by have a:=sY n.toNat (by omega) c;rw[Int.toNat_of_nonneg g]at a;exact a)) ?_;refine AX (by exact Al (D:=AU (iT n)) [] rfl rfl gg rfl (eo func33) (λρ S c hb j=>R6 (YE _) (lG _) c)) ?_;refine AX (by exact Eu (did:=5) rfl gg rfl rfl rfl rfl yI rfl) ?_;refine aT ?_;refine AG ?_;refine AD (AH results113 (Am rfl rfl yS rfl yI rfl)) ?_;intro ρ c d;exact⟨_,rfl,Fw 5 d rfl,d.1⟩
theorem Oc:CDy 114 #[.string (AB b)] w (AU (E0 b)):=by
 go_enter func114,ntmps114
 refine A4 ?_;iterate 2 refine aT ?_
 refine AA ?_;iterate 3 refine aT ?_
 refine AX (by exact Al (D:=AU (B5 [85,4,3])) [] rfl rfl gg rfl (eo func72) (λρ S c hb a=>Iy (b:=[85,4,3]) c)) ?_;refine AA ?_;refine AX (by exact LH (t:=12) (b:=b) rfl rfl gg rfl rfl) ?_;refine AX (by exact Dg (is:=[3,5]) (ks:=[_,_]) rfl rfl gg rfl rfl ⟨rfl,rfl,trivial⟩ rfl yV (by kernel_rfl) (by kernel_rfl) (by decide) (by decide) (by decide)) ?_;refine AX (by exact A0 (AU (.mk 48 [] [_,_])) [6] rfl rfl gg rfl (eo func32) (λρ S c hb a=>D9 (q:=6) a (by simp) rfl)) ?_;refine AX (by exact Dg (is:=[7]) (ks:=[_]) rfl rfl gg rfl rfl ⟨rfl,trivial⟩ rfl yV (by kernel_rfl) (by kernel_rfl) (by decide) (by decide) (by decide)) ?_;refine AX (by exact A0 (AU (.mk 48 [] [_])) [8] rfl rfl gg rfl (eo func32) (λρ S c hb a=>D9 (q:=8) a (by simp) rfl)) ?_;refine AX (by exact Eu (did:=9) rfl gg rfl rfl rfl rfl yI rfl) ?_;refine aT ?_;refine AG ?_;refine AD (AH results114 (Am rfl rfl yS rfl yI rfl)) ?_;intro ρ c d;exact⟨_,rfl,Fw 9 d rfl,d.1⟩
theorem V6{j k l:Value}{F:Nat->Prop}(a:t.ok)(z:RN w F t [j,k,l])(d:wt t<=1048576):CDy 115 #[.agg #[j,k,l]] w (AU (C5 t)):=by
 go_enter func115,ntmps115
 refine A4 ?_;iterate 4 refine AA ?_
 iterate 3 refine aT ?_
 refine AA ?_;refine AX (by exact Ad (v:=.tuple #[.string (AB (wrT t).1),.int .i64 (wrT t).2]) rfl gg rfl (eo func31) (λh c=>R2 h a (G9 c z) d)) ?_;iterate 9 refine AA ?_
 refine AX (by exact LH (t:=4) (b:=(wrT t).1) rfl rfl gg rfl rfl) ?_;refine AX (by exact Eu (did:=11) rfl gg rfl rfl rfl rfl yI rfl) ?_;refine aT ?_;refine AG ?_;refine AD (AH results115 (Am rfl rfl yS rfl yI rfl)) ?_;intro ρ h g;exact⟨_,rfl,Fw 11 g rfl,g.1⟩
theorem bJ{w:World}{base:Nat}{m:Mem}(k:RelOn base ρ S w (restr rd m))(a:id∈rd)(l:m id=some (.dat (AU t)))(d:t.ok)(g:wt t<=1048576):CDy 115 #[(ρ id).val] w (AU (C5 t)):=by
 obtain⟨c,j,h⟩:=C9 k a l;obtain⟨z,A,B,rfl⟩:=DI (Cu h);rw[j];exact V6 w d h g
theorem bK{w:World}{base:Nat}{m:Mem}(l:RelOn base ρ S w (restr rd m))(a:id∈rd)(z:m id=some (.dat (AU t)))(g:t.ok)(h:wt t<=1048576):CDy 115 (SV.cs ρ [.agg [.fn (AN 0) (.d id),.fn (AN 1) (.d id),.fn (AN 2) (.d id)]]).toArray w (AU (C5 t)):=by
 obtain⟨c,k,j⟩:=Ud l a z;obtain⟨A,B,C,rfl⟩:=DI (Cu j);simp only[SV.cs,k];exact V6 w g j h
theorem bG{w:World}{base:Nat}{m:Mem}(l:RelOn base ρ S w (restr rd m))(a:id∈rd)(z:m id=some (.dat (AU t)))(g:t.ok)(h:wt t<=1048576):CBy 31 (SV.cs ρ [.d id]).toArray w (.tuple #[.string (AB (wrT t).1),.int .i64 (wrT t).2]):=by
 obtain⟨c,k,j⟩:=C9 l a z;obtain⟨A,B,C,rfl⟩:=DI (Cu j);simp only[SV.cs,SV.c,k];exact R2 w g j h
theorem V4:CDy 32 #[.slice none 0 0] w (AU (Bm [])):=
 (V0 w ⟨none,0,0,rfl⟩).mono λ_e d ⟨a,a2⟩=>⟨_,a,⟨λ_=>False,KZ 48 [] d _,λ_k c=>c.elim⟩,a2⟩
theorem R4{t:Nat}:CBy 11 #[PT r t] w (.string (AB (wrT (BH r t)).1)):=by
 go_enter func11,ntmps11
 refine A4 ?_;iterate 7 refine AA ?_
 refine AX (by exact LD (a:=0) (b:=32) rfl gg rfl y9 yG rfl rfl (by decide) (by decide) (by decide)) ?_;refine AX (by exact Cc (bs:=bl r) rfl gg rfl x7 yL yF (Hw rfl rfl rfl (by decide))) ?_;refine AX (by exact Al (D:=AU (tN (bl r))) [] rfl rfl gg rfl (eo func33) (λρ S d hb c=>R6 (EZ r) (bu r) d)) ?_;refine Kt ?_;refine AX (by exact Cc (bs:=bl t) rfl gg rfl x7 yL yF (Hw rfl rfl rfl (by decide))) ?_;refine AX (by exact Al (D:=AU (tN (bl t))) [] rfl rfl gg rfl (eo func33) (λρ S d hb c=>R6 (EZ t) (bu t) d)) ?_;refine AX (by exact Dg (is:=[8,11]) (ks:=[_,_]) rfl rfl gg rfl rfl ⟨rfl,rfl,trivial⟩ rfl yV (by kernel_rfl) (by kernel_rfl) (by decide) (by decide) (by decide)) ?_;refine AX (by exact A0 (AU (.mk 48 [] [_,_])) [12] rfl rfl gg rfl (eo func32) (λρ S d hb c=>D9 (q:=12) c (by simp) rfl)) ?_;refine AX (by exact Aj (v:=.tuple #[.string (AB (wrT (BH r t)).1),.int .i64 (wrT (BH r t)).2]) [13] rfl gg rfl (eo func31) (λρ S d hb c=>bG (t:=BH r t) c (by simp) rfl (HI r t) (by have:=Rm r t;omega))) ?_;iterate 11 refine AA ?_
 exact AG (AD (AH results11 (AF rfl)) λ_ _ g=>⟨rfl,g.1⟩)
theorem Tv{dT sT:TypeId}{a j z:Nat}{l:List SV}(Q:o.op=.call {callee:=.builtin .copy,args:=#[x,y],argTypes:=#[dT,sT]})(F:AQ ops o s)
 (I:AE s x=.s id a j z)(L:s.mem id=some (.cells l bt))(U:AE s y=.v (.string (AB b)))(M:∀x∈b,x<256)(T:P.underlying dT=some (.slice e))(R:(P.info? e).map (·.size)=some 1)
 (H:b.length<=j)(J:a+b.length<=l.length):
 Ev P ops w0 o s ⟨.v (.int .i64 (b.length:Nat)),[(id,.cells (l.take a++(b.map b8).map .v++l.drop (a+b.length)) bt)],[id],[],[id]⟩:=
 Ev.wrv id _ _ _ _ F L (by simp) λρ S w hb N=>by
  have A:=AI s ρ x;rw[I]at A;have B:=AI s ρ y;rw[U]at B;obtain⟨E,K⟩:=w4 N L (by simp);simp only[SV.c]at A B
  have C:Go.Lib.byteCells (AB b).data.toList=b.map b8:=by
   simp only[Go.Lib.byteCells,AB,KK];exact uB4 λx I=>by simp[yP (M x I)];rfl
  have h:(AB b).size=b.length:=Ff b;have d:=Go.Lib.run_copy_row_string (P:=P) w dT sT o.type e (ρ id).g a j z (AB b) (SV.cs ρ l).toArray bt T R K (by rw[h];exact H) (by rw[h];simp[A8];omega);rw[C,h]at d;refine⟨True.intro,w.setRow (ρ id).g ((SV.cs ρ l).toArray.toList.take a++b.map b8++(SV.cs ρ l).toArray.toList.drop (a+b.length)).toArray,?_,⟨rfl,rfl,rfl,by simp,λk O=>MT w _ k _ O⟩,E,(ID w (ρ id).g _ _ _ _ K).trans ?_⟩
  .unfold execOp
   simp only[Q,resolve,invoke,builtin,Sem.run_bind,Sem.run_pure,Result.andThen_ok,List.map_toArray,List.map_cons,List.map_nil,A,B,d,SV.c,goInt]
  .simp[CP,A8,SV.c,uB0]
theorem YN{w:World}{F:Nat->Prop}:RN w F noT [.int .i64 0,.string (ByteArray.mk #[]),.slice none 0 0]:=by
 simp only[noT,RN,RNs];exact⟨_,[],rfl,⟨none,0,rfl,yD _,rfl,.inl rfl⟩,rfl⟩
theorem X8{w:World}{F:Nat->Prop}{x y z:Value}(h:RN w F t [x,y,z]):((Value.agg #[x,y,z]).cells.toList.all λx=>x.oneCell')=true:=Ib h
theorem mV{c:List Value}{U:Value}{F:Nat->Prop}(hx:RN w F t c)(hp:AO w U p.length 1 (CE p) G)(hm:p.length<=1048576):Calls prog 35 #[.agg c.toArray,U] w λe V=> ∃Z,e=.returned (.agg Z.toArray)/\RN w F (AC p t) Z/\Bw w V:=by
 obtain⟨y0,y1,y2,rfl⟩:=DI (Cu hx);obtain⟨R,z⟩:∃R,AC p t=R:=⟨_,rfl⟩
 rw[z]
 go_enter func35,ntmps35
 refine A4 ?_;iterate 11 refine AA ?_
 refine Bo (α:={x:Nat×Tr×Value×Value×Value // x.1<=p.length/\RN w F x.2.1 [x.2.2.1,x.2.2.2.1,x.2.2.2.2]/\AC (p.drop x.1) x.2.1=R}) (fun(x:{x:Nat×Tr×Value×Value×Value // x.1<=p.length/\RN w F x.2.1 [x.2.2.1,x.2.2.2.1,x.2.2.2.2]/\AC (p.drop x.1) x.2.1=R}) f=>⟨.v (f 0)::.v U::.p 2 0::.v (f 3)::.p 4 0::.v (.int .i64 (x.1.1:Nat))::fv f 24 6 [],AJ [(2,.cells [.v x.1.2.2.1,.v x.1.2.2.2.1,.v x.1.2.2.2.2] 71),(4,.cells [.v (.int .i64 0),.v (.string (ByteArray.mk #[])),.v (.slice none 0 0)] 71)]⟩) (λx=>p.length-x.1.1) ?_ (⟨(0,t,y0,y1,y2),y6 _,hx,z⟩) ?_
 .rintro⟨⟨i,u,z0,z1,z2⟩,hi,hu,a⟩ f
  simp only at hi hu a;obtain⟨d,b,ks,rfl⟩:∃d b ks,u=Tr.mk d b ks:=by cases u with|mk d b ks=>exact⟨d,b,ks,rfl⟩
  have J:=hu;simp only[RN]at J;obtain⟨a2,a0,A,l,O⟩:=J;simp only[zX,zS]at A;obtain⟨rfl,rfl,rfl⟩:=A;obtain⟨q,g⟩:∃q,decide (i<p.length)=q:=⟨_,rfl⟩
  have B:=(CL i p.length).trans g;change VOk _ _ _ _ _;simp only[fv,Nat.reduceAdd];iterate 5 refine AA ?_
  refine AX (by exact BU rfl gg rfl underlying124 (AW hp)) ?_;refine AX (by exact BM rfl gg rfl rfl B) ?_;refine aT ?_;cases q
  .refine aT ?_
   have N:p.drop i=[]:=SM (by have:=yC g;omega);rw[N,AC]at a;refine As ?_;change VOk _ _ _ _ _;iterate 2 refine aT ?_
   refine AA ?_;refine SI ?_;refine aT ?_;refine AG ?_;refine AD (AH results35 (Ac rfl rfl yS rfl yI rfl rfl)) ?_;intro ρ V I;subst a;first|exact⟨_,rfl,YN,I.1⟩|exact⟨_,rfl,hu,I.1⟩
  .refine aT ?_
   have hlt:=yA g;obtain⟨j,hj⟩:=EV hlt;obtain⟨r,h⟩:∃r,decide (ks.length<=j)=r:=⟨_,rfl⟩
   have C:=(Sn ks.length j).trans h;iterate 8 refine AA ?_
   refine SQ ?_;refine SO ?_;refine AA ?_;refine AX (by first|exact BK rfl gg rfl rfl yV rfl rfl|exact BR rfl gg rfl yV rfl (by assumption)) ?_;refine AX (by exact BU rfl gg rfl yV (AW l)) ?_;refine AX (by exact B4 rfl gg rfl rfl C) ?_;refine aT ?_;cases r
   .refine aT ?_
    have H:j<ks.length:=by have:=yC h;omega
    obtain⟨kk,hk⟩:=EV H;obtain⟨c2,L,hd2⟩:=Nw O hk;obtain⟨K,W,Q,rfl⟩:∃d b ks,kk=Tr.mk d b ks:=by cases kk with|mk d b ks=>exact⟨d,b,ks,rfl⟩
    have E:=hd2;simp only[RN]at E;obtain⟨T,a1,rfl,_,_⟩:=E;iterate 2 refine aT ?_
    refine AA ?_;refine AX (by first|exact BK rfl gg rfl rfl yV rfl rfl|exact BR rfl gg rfl yV rfl (by assumption)) ?_;iterate 2 refine AA ?_
    refine SQ ?_;refine SO ?_;refine AX (by exact Bc (k:=j) rfl gg rfl rfl yV yI (AW l) (H) (by decide)) ?_;refine AX (by exact LF rfl gg rfl yS rfl yI (AW l) (L) rfl (by decide)) ?_;refine SI ?_;iterate 3 refine AA ?_
    refine SS ?_;iterate 2 refine AA ?_
    refine⟨⟨(i+1,.mk K W Q,.int .i64 K,.string (AB W),T),by show i+1<=p.length;omega,hd2,by show AC (p.drop (i+1)) _=R;rw[<-a,Bj hj,Xo hk]⟩,by show p.length-(i+1)<p.length-i;omega,?_⟩;exact Ar (λi=>i==1||i==2||i==4||i==5) []
   .refine aT ?_
    have M:=yA h;rw[Bj hj,Xp M]at a;iterate 2 refine aT ?_
    refine AX (by exact A6 rfl gg rfl UR) ?_;refine SI ?_;refine aT ?_;refine AG ?_;refine AD (AH results35 (Ac rfl rfl yS rfl yI rfl rfl)) ?_;intro ρ V I;subst a;first|exact⟨_,rfl,YN,I.1⟩|exact⟨_,rfl,hu,I.1⟩
 .exact(Ar (λi=>i==1||i==2||i==4||i==5) []).trans2 (λf=>Lc (by show(4:Nat)≠2;decide))
section
variable{w:World}{base:Nat}{ρ:Nat->Nm}{S:Nat->Nat->Prop}{m:Mem}{rd:List Nat}{t:Tr}
theorem Fb(i q:Nat)(p:List Nat)(l:RelOn base ρ S w (restr rd m))(z:i∈rd)(H:q∈rd)(h:m i=some (.dat (AU t)))(C:m q=some (.row p.length 1 3 (.exact (CE p))))(F:p.length<=1048576:=by decide):
 Calls prog 35 (SV.cs ρ [.agg [.fn (AN 0) (.d i),.fn (AN 1) (.d i),.fn (AN 2) (.d i)],.d q]).toArray w λe a=> ∃v g,e=.returned v/\(AU (AC p t)).holds [v] a g/\(∀k,g k->(∃j∈rd,(m j).isSome/\S j k)\/(w.heap.size<=k/\k<a.heap.size))/\Bw w a:=by
 obtain⟨c,B,d1⟩:=Ud l z h;have I:=EH l H C;simp only[SV.cs,B];exact(mV w d1 I F).mono λe a ⟨A,a1,a2,a3⟩=>⟨_,S i,a1,⟨A,rfl,G9 a3 a2⟩,λk E=>.inl ⟨i,z,by rw[h];rfl,E⟩,a3⟩
end
theorem dh{c:List Value}{F:Nat->Prop}(g:t.ok)(l:RN w F t c):CDy 36 #[.agg c.toArray] w (AU (Bt t)):=by
 obtain⟨kv,rfl⟩:=L0 l;obtain⟨q,d⟩:∃q,decide ((rdT (Az t)).2≠0)=q:=⟨_,rfl⟩
 go_enter func36,ntmps36
 refine A4 ?_;iterate 4 refine AA ?_
 iterate 3 refine aT ?_
 refine AX (by first|exact BG rfl gg rfl yS rfl CD|exact BF rfl gg rfl yS rfl CD) ?_;refine AA ?_;refine AX (by exact DL (D:=AU (rdT (Az t)).1) (ys:=[.int .i64 (rdT (Az t)).2]) [] rfl rfl gg rfl (eo func27) (λρ S j hb z=>R5 j (EY g).1 (EY g).2)) ?_;iterate 4 refine AA ?_
 refine SK ?_;iterate 6 refine AA ?_
 refine AX (by exact BB rfl gg rfl rfl d) ?_;refine aT ?_;cases q
 .iterate 4 refine aT ?_
  refine AA ?_;refine SK ?_;refine aT ?_;refine AG ?_;refine AD (AH results36 (Am rfl rfl yS rfl yI rfl)) ?_;intro ρ j a;first|exact⟨_,rfl,by rw[Bt,k];exact Fw 13 a rfl,a.1⟩|exact⟨_,rfl,Fw 8 a rfl,a.1⟩
 .refine aT ?_
  have k:=iC (yA d);iterate 2 refine aT ?_
  refine AX (by exact Ev.asD (D:=AU noT) (id:=13) (v:=.agg #[.int .i64 0,.string (ByteArray.mk #[]),.slice none 0 0]) (A6 rfl gg rfl UR) (λh=>by cases h) gg λw=>KZ 0 [] w _) ?_;refine SK ?_;refine aT ?_;refine AG ?_;refine AD (AH results36 (Am rfl rfl yS rfl yI rfl)) ?_;intro ρ j a;first|exact⟨_,rfl,by rw[Bt,k];exact Fw 13 a rfl,a.1⟩|exact⟨_,rfl,Fw 8 a rfl,a.1⟩
theorem cD{l:List Nat}(j:∀x∈l,x<256)(k:l.length=8):decide (l.headD 0>=64)= !decide (beN l<4611686018427387904):=by
 match l,k with
 | [a,b,c,d,e,f,g,h],_=>
   have z:=j a (by simp);have hb:=j b (by simp);have A:=j c (by simp);have B:=j d (by simp);have C:=j e (by simp);have E:=j f (by simp);have F:=j g (by simp);have H:=j h (by simp);simp only[beN,List.foldl_cons,List.foldl_nil,List.headD_cons];have e:(a>=64)↔ ¬((((((((0*256+a)*256+b)*256+c)*256+d)*256+e)*256+f)*256+g)*256+h<4611686018427387904):=by omega
   exact(zM.2 e).trans decide_not
theorem rk{l:List Nat}{b:Nat}(_h:∀x∈l,x<256)(d:beN (l.take (i+1))<9223372036854775808)(c:l[i]? =some b):BOy .add 3 (.int .i64 (((beN (l.take i)*256:Nat)):Int)) (.int .i64 (b:Nat)) (.int .i64 ((beN (l.take (i+1)):Nat):Int)):=by
 intro p q w
 have e:=UU c;have a:IntKind.i64.wrap ((beN (l.take i):Int)*256+(b:Nat))=(beN (l.take i):Int)*256+(b:Nat):=Ah (by omega) (by omega);rw[e]
 go_simp
 try first|exact a|simp
theorem fR{l:List Nat}(_h:∀x∈l,x<256)(_d:i<8)(c:beN (l.take i)*256<9223372036854775808):BOy .shl 3 (.int .i64 ((beN (l.take i):Nat):Int)) (.int .u64 8) (.int .i64 (((beN (l.take i)*256:Nat)):Int)):=by
 intro p q w
 have a:IntKind.i64.wrap (((beN (l.take i):Nat):Int)*256)=((beN (l.take i)*256:Nat):Int):=by rw[Ah (by omega) (by omega)];omega
 go_simp
 try first|exact a|(simp;exact a)
theorem cC{l:List Nat}(i:Nat):beN (l.take i)<=beN l:=by
 have h:∀(r:List Nat) (a:Nat),a<=r.foldl (λa b=>a*256+b) a:=by
  intro r
  induction r with
  |nil=>intro a;exact yD _
  |cons b r ih=>intro a;rw[List.foldl_cons];exact uA9 (by omega) (ih (a*256+b))
 have e:beN l=(l.drop i).foldl (λa b=>a*256+b) (beN (l.take i)):=by
  unfold beN;rw[<-List.foldl_append,uE6]
 rw[e];exact h _ _
theorem dx{c:List Value}{F:Nat->Prop}(d:t.ok)(j:RN w F t c)(h:BW t 8=none):CBy 37 #[.agg c.toArray] w (.int .i64 (-1)):=by
 obtain⟨kv,rfl⟩:=L0 j
 go_enter func37,ntmps37
 refine A4 ?_;iterate 8 refine AA ?_
 refine AX (by exact Ad (v:=.tuple #[.string (AB []),.bool false]) rfl gg rfl (eo func28) (λl g=>by have a:=R3 (sz:=8) l d (G9 g j) (by decide);rw[h]at a;exact a)) ?_;iterate 10 refine AA ?_
 refine k_9 ?_;iterate 2 refine AA ?_
 iterate 2 refine FX ?_
 refine k_9 ?_;iterate 6 refine AA ?_
 exact AG (AD (AH results37 (AF rfl)) λ_ _ k=>⟨rfl,k.1⟩)
theorem d5{c:List Value}{F:Nat->Prop}(hok:t.ok)(hx:RN w F t c){l:List Nat}(h:BW t 8=some l)(z:decide (beN l<4611686018427387904)=false):CBy 37 #[.agg c.toArray] w (.int .i64 (-1)):=by
 obtain⟨kv,rfl⟩:=L0 hx;have g:=Ik h;have h8:=Ij hok h;have d:=(Ej (l.headD 0) 64).trans ((cD h8 g).trans (by rw[z]))
 go_enter func37,ntmps37
 refine A4 ?_;iterate 8 refine AA ?_
 refine Wk ?_;iterate 10 refine AA ?_
 refine k_9 ?_;iterate 2 refine AA ?_
 refine SF ?_;refine AX (by first|exact Ev.skip (λ_=>rfl)|exact Ew (p:=true) rfl (λ_=>rfl) rfl rfl d) ?_;refine k_9 ?_;iterate 6 refine AA ?_
 exact AG (AD (AH results37 (AF rfl)) λ_ _ j=>⟨rfl,j.1⟩)
theorem dz{c:List Value}{F:Nat->Prop}(hok:t.ok)(hx:RN w F t c){l:List Nat}(h:BW t 8=some l)(z:decide (beN l<4611686018427387904)=true):CBy 37 #[.agg c.toArray] w (.int .i64 ((beN l:Nat):Int)):=by
 obtain⟨kv,rfl⟩:=L0 hx;have B:=Ik h;have h8:=Ij hok h;have A:=(Ej (l.headD 0) 64).trans ((cD h8 B).trans (by rw[z]));have C:=yA z
 go_enter func37,ntmps37
 refine A4 ?_;iterate 8 refine AA ?_
 refine Wk ?_;iterate 10 refine AA ?_
 refine k_9 ?_;iterate 2 refine AA ?_
 refine SF ?_;refine AX (by first|exact Ev.skip (λ_=>rfl)|exact Ew (p:=false) rfl (λ_=>rfl) rfl rfl A) ?_;refine k_9 ?_;iterate 13 refine AA ?_
 refine Bo (α:={i:Nat // i<=8}) (fun(x:{i:Nat // i<=8}) f=>⟨.v (f 0)::.v (f 1)::.v (f 2)::.v (.string (AB l))::.v (f 4)::.v (.int .i64 ((beN (l.take x.1):Nat):Int))::.v (.int .i64 (x.1:Nat))::fv f 24 7 [],AJ []⟩) (λx=>8-x.1) ?_ (⟨0,by decide⟩) ?_
 .rintro⟨i,H⟩ f
  obtain⟨q,d⟩:∃q,decide (i<8)=q:=⟨_,rfl⟩
  have g:=(CL i 8).trans d;change VOk _ _ _ _ _;simp only[fv,Nat.reduceAdd];iterate 4 refine AA ?_
  refine AX (by exact BM rfl gg rfl rfl g) ?_;refine aT ?_;cases q
  .refine aT ?_
   have j:i=8:=by have:=yC d;omega
   subst j;rw[zT (by omega)];refine As ?_;change VOk _ _ _ _ _;iterate 5 refine AA ?_
   exact AG (AD (AH results37 (AF rfl)) λ_ _ E=>⟨rfl,E.1⟩)
  .refine aT ?_
   have j:=yA d;obtain⟨b,hb⟩:∃b,l[i]? =some b:=⟨_,zK (by omega)⟩
   iterate 5 refine AA ?_
   refine AX (by exact AK rfl gg rfl rfl (λw=>fR h8 (yA d) (by have:=UU hb;have:=cC (l:=l) (i+1);omega) _ _ w)) ?_;iterate 2 refine AA ?_
   refine AX (by exact CF (k:=i) (c:=b) rfl gg rfl rfl yF hb (h8 _ (zA hb))) ?_;refine AX (by exact B1 rfl gg rfl (λw=>T8 (h8 _ (zA hb)) w)) ?_;refine AX (by exact AK rfl gg rfl rfl (λw=>rk h8 (by have:=cC (l:=l) (i+1);omega) hb _ _ w)) ?_;iterate 4 refine AA ?_
   refine SS ?_;iterate 2 refine AA ?_
   refine⟨⟨i+1,by omega⟩,by show 8-(i+1)<8-i;omega,?_⟩;exact Ar (λi=>i==3||i==5||i==6) []
 .exact Ar (λi=>i==3||i==5||i==6) [1]
theorem d7{c:List Value}{F:Nat->Prop}(a:t.ok)(g:RN w F t c):CBy 37 #[.agg c.toArray] w (.int .i64 (Ax t)):=by
 cases h:BW t 8 with
 |none=>
  have e:Ax t= -1:=by unfold Ax tnN;rw[h];rfl
  rw[e];exact dx w a g h
 |some l=>
  cases d:decide (beN l<4611686018427387904)with
  |false=>
   have e:Ax t= -1:=by unfold Ax tnN;simp only[h,d];rfl
   rw[e];exact d5 w a g h d
  |true=>
   have e:Ax t=((beN l:Nat):Int):=by unfold Ax tnN;simp only[h,d];rfl
   rw[e];exact dz w a g h d
theorem Ma(a c:Nat):decide ((a:Int)≠(c:Int))=decide (a≠c):=zM.2 (by omega)
theorem lV(s:List Nat):Db s=(decide (s≠[]) && (decide (s.length<=64) && Ak (utT s) 1)):=by
 have e:Ju (utT s)=(decide (s.length<=64) && Ak (utT s) 1):=by
  simp only[utT,Ju,decide_true,Bool.true_and];rw[Bool.and_comm]
 unfold Db twN;rw[e];generalize (decide (s.length<=64) && Ak (utT s) 1)=x;cases x
 .simp
 .cases s<;>simp[Az,utT]
theorem dS(n:Int):wiB n 0 4611686018427387903=(decide (n>=0) && decide (n<4611686018427387904)):=by
 unfold wiB;congr 1
 exact zM.2 (by omega)
theorem jR(a:0<=n)(c:n<=15):BOy .quo 3 (.int .i64 n) (.int .i64 2) (.int .i64 (n/2)):=by
 intro p q w
 have e:IntKind.i64.wrap (n.tdiv 2)=n/2:=by rw[Int.tdiv_eq_ediv_of_nonneg a,Ah (by omega) (by omega)]
 go_simp
 try exact e
theorem gY(a:0<=n):BOy .rem 3 (.int .i64 n) (.int .i64 2) (.int .i64 (n %2)):=by
 intro p q w
 go_simp
 exact uD5 a
theorem df(u:Int):usB u=decide (u/2 %2=1):=by
 unfold usB;exact zM.2 (by omega)
theorem gP{c:Crt}(j:0<=c.us)(k:c.us<=15):C2 c=(wiB c.se 0 4611686018427387903 && (decide (c.se>0) && (Db c.is && (Db c.su && (wiB c.fr 0 4611686018427387903 && (wiB c.to 0 4611686018427387903 && (kyB c.ky && (decide (c.pa>=0) && (decide (c.pa<=5) && ((c.ca||decide (c.pa=0)) && (usB c.us==c.ca))))))))))):=by
 have a:wiB c.se 1 4611686018427387903=(wiB c.se 0 4611686018427387903 && decide (c.se>0)):=by
  rw[Bool.eq_iff_iff];simp only[yW,Cv,BY];omega
 have d:wiB c.us 0 15=true:=Cv.2 ⟨j,k⟩;have g:wiB c.pa 0 5=(decide (c.pa>=0) && decide (c.pa<=5)):=rfl;have h:(!decide (c.pa≠0))=decide (c.pa=0):=by simp
 unfold C2;rw[a,d,g,h];generalize kyB c.ky=a1;generalize wiB c.se 0 4611686018427387903=a2;generalize decide (c.se>0)=a3;generalize wiB c.fr 0 4611686018427387903=a4;generalize wiB c.to 0 4611686018427387903=a5;generalize Db c.is=a6;generalize Db c.su=a7;generalize decide (c.pa>=0)=a8;generalize decide (c.pa<=5)=a9;generalize (c.ca||decide (c.pa=0))=b1;generalize (usB c.us==c.ca)=b2;cases a1<;>cases a2<;>cases a3<;>cases a4<;>cases a5<;>cases a6<;>cases a7<;>cases a8<;>cases a9<;>cases b1<;>cases b2<;>rfl
theorem Rt:CBy 68 #[.int .i64 n] w (.bool (wiB n 0 4611686018427387903)):=by
 obtain⟨p,a⟩:∃p,decide (n>=0)=p:=⟨_,rfl⟩
 obtain⟨q,c⟩:∃p,decide (n<4611686018427387904)=p:=⟨_,rfl⟩
 rw[dS,a,c]
 go_enter func68,ntmps68
 refine A4 ?_;cases p<;>cases q<;>
 (
  iterate 7 refine AA ?_
  refine AX (by exact Ew rfl gg rfl rfl a) ?_;iterate 2 refine AA ?_
  refine AX (by first|exact Ev.skip (λ_=>rfl)|exact Ev.skip (λ_=>rfl)|exact BM rfl (λ_=>rfl) rfl rfl c) ?_;refine k_9 ?_;iterate 2 refine AA ?_
  exact AG (AD (AH results68 (AF rfl)) λ_ _ d=>⟨rfl,d.1⟩)
 )
theorem V9{s:List Nat}(g:∀x∈s,x<256)(h:s.length<=1048576):CBy 69 #[.string (AB s)] w (.bool (Db s)):=by
 obtain⟨p,a⟩:∃p,decide (s≠[])=p:=⟨_,rfl⟩
 obtain⟨q,c⟩:∃p,decide (s.length<=64)=p:=⟨_,rfl⟩
 obtain⟨r,d⟩:∃p,Ak (utT s) 1=p:=⟨_,rfl⟩
 rw[lV,a,c,d]
 go_enter func69,ntmps69
 refine A4 ?_;cases p<;>cases q<;>
 (
  iterate 7 refine AA ?_
  refine AX (by exact AK rfl gg rfl rfl (λw=>Hp a g (by simp) _ _ w)) ?_;iterate 2 refine AA ?_
  refine AX (by first|exact Ev.skip (λ_=>rfl)|exact Ev.skip (λ_=>rfl)|exact HX rfl (λ_=>rfl) rfl yF) ?_;refine AX (by first|exact Ev.skip (λ_=>rfl)|exact Ev.skip (λ_=>rfl)|exact LG rfl (λ_=>rfl) rfl rfl ((Sn s.length 64).trans c)) ?_;refine k_9 ?_;iterate 2 refine AA ?_
  refine AX (by first|exact Ev.skip (λ_=>rfl)|exact Ev.skip (λ_=>rfl)|exact A6 rfl (λ_=>rfl) rfl (LP 12 (AB s))) ?_;refine AX (by first|exact Ev.skip (λ_=>rfl)|exact Ev.skip (λ_=>rfl)|exact CI d rfl (λ_=>rfl) rfl (eo func55) (λl k=>Od (utT s) (F0 g h) 1 _ l (λ_=>False) (by decide) (by simp only[utT,RN,RNs];exact⟨_,[],rfl,⟨none,0,rfl,yD _,rfl,.inl rfl⟩,rfl⟩))) ?_;refine k_9 ?_;iterate 2 refine AA ?_
  exact AG (AD (AH results69 (AF rfl)) λ_ _ j=>⟨rfl,j.1⟩)
 )
theorem f7{l:List Nat}(a:decide (l.length≠65)=true):CBy 70 #[.string (AB l)] w (.bool false):=by
 go_enter func70,ntmps70
 refine A4 ?_;iterate 8 refine AA ?_
 refine AX (by exact HX rfl gg rfl yF) ?_;refine AX (by exact BB rfl gg rfl rfl ((Ma l.length 65).trans a)) ?_;iterate 2 refine AA ?_
 iterate 2 refine FX ?_
 refine k_9 ?_;iterate 6 refine AA ?_
 exact AG (AD (AH results70 (AF rfl)) λ_ _ c=>⟨rfl,c.1⟩)
theorem fx{l:List Nat}(g:∀x∈l,x<256)(a:decide (l.length≠65)=false)(d:decide (l.headD 0≠4)=true):CBy 70 #[.string (AB l)] w (.bool false):=by
 go_enter func70,ntmps70
 refine A4 ?_;iterate 8 refine AA ?_
 refine AX (by exact HX rfl gg rfl yF) ?_;refine AX (by exact BB rfl gg rfl rfl ((Ma l.length 65).trans a)) ?_;iterate 2 refine AA ?_
 refine AX (by first|exact Ev.skip (λ_=>rfl)|exact CF (k:=0) (c:=l.headD 0) rfl (λ_=>rfl) rfl rfl yF (IQ (by have:=yC a;omega)) (g _ (zA (IQ (by have:=yC a;omega))))) ?_;refine AX (by first|exact Ev.skip (λ_=>rfl)|exact BB rfl (λ_=>rfl) rfl rfl ((Ma (l.headD 0) 4).trans d)) ?_;refine k_9 ?_;iterate 6 refine AA ?_
 exact AG (AD (AH results70 (AF rfl)) λ_ _ h=>⟨rfl,h.1⟩)
theorem fw{l:List Nat}(h8:∀x∈l,x<256)(A:decide (l.length≠65)=false)(J:decide (l.headD 0≠4)=false):CBy 70 #[.string (AB l)] w (.bool (onB (kX l) (kY l))):=by
 have z:l.length=65:=by have:=yC A;omega
 have B:((l.drop 1).take 32).length=32:=by simp;omega
 have C:(l.drop 33).length=32:=by simp;omega
 have E:∀x∈(l.drop 1).take 32,x<256:=λx a=>h8 x (DO (PA a))
 have F:∀x∈l.drop 33,x<256:=λx a=>h8 x (DO a)
 have H:(l.drop 1).take (33-1)=bl (kX l):=by rw[kX,G6 B E]
 have I:l.drop 33=bl (kY l):=by rw[kY,G6 C F]
 have a:=IX B E;have h:=IX C F;change kX l<R at a;change kY l<R at h
 go_enter func70,ntmps70
 refine A4 ?_;iterate 8 refine AA ?_
 refine AX (by exact HX rfl gg rfl yF) ?_;refine AX (by exact BB rfl gg rfl rfl ((Ma l.length 65).trans A)) ?_;iterate 2 refine AA ?_
 refine SF ?_;refine AX (by first|exact Ev.skip (λ_=>rfl)|exact BB rfl (λ_=>rfl) rfl rfl ((Ma (l.headD 0) 4).trans J)) ?_;refine k_9 ?_;iterate 5 refine aT ?_
 iterate 2 refine AA ?_
 iterate 3 refine aT ?_
 refine F9 ?_;refine AA ?_;refine AX (by exact Tu (i:=1) (j:=33) (b':=bl (kX l)) rfl gg rfl rfl rfl yF (by decide) (by omega) H) ?_;refine AX (by exact Tv (b:=bl (kX l)) rfl gg rfl rfl rfl (EZ _) x7 Er (RT rfl) (RT rfl)) ?_;iterate 3 refine aT ?_
 refine F9 ?_;refine AA ?_;refine AX (by exact IT (k:=33) (b':=bl (kY l)) rfl gg rfl rfl yF (by omega) I) ?_;refine AX (by exact Tv (b:=bl (kY l)) rfl gg rfl rfl rfl (EZ _) x7 Er (RT rfl) (RT rfl)) ?_;iterate 3 refine aT ?_
 refine AA ?_;refine AX (by exact AM rfl gg rfl (eo func112) (λg d=>V8 (kX l) a g)) ?_;refine AA ?_;refine AX (by exact AM rfl gg rfl (eo func112) (λg d=>V8 (kY l) h g)) ?_;refine AX (by exact AM rfl gg rfl (eo func111) (λg d=>jK a h g)) ?_;iterate 2 refine AA ?_
 exact AG (AD (AH results70 (AF rfl)) λ_ _ K=>⟨rfl,K.1⟩)
theorem fy{l:List Nat}(d:∀x∈l,x<256):CBy 70 #[.string (AB l)] w (.bool (kyB l)):=by
 unfold kyB;cases a:decide (l.length≠65)with
 |true=>rw[yB (yA a),Bool.false_and];exact f7 w a
 |false=>
  rw[yE (by have:=yC a;omega),Bool.true_and];cases c:decide (l.headD 0≠4)with
  |true=>rw[yB (yA c),Bool.false_and];exact fx w d a c
  |false=>rw[yE (by have:=yC c;omega),Bool.true_and];exact fw w d a c
theorem p7{c:List Value}{w:World}{S:Nat->Prop}(g:(ρ id).val=.agg c.toArray)(a:RN w S t c):SV.c ρ (.fn (AN 0) (.d id))=.int .i64 (Lf t):=by
 cases t with
 |mk tg b ks=>
  rw[RN]at a;obtain⟨_,_,rfl,_⟩:=a;simp[SV.c,g,AN,Value.cells,Lf]
theorem QO{w:World}{base:Nat}{m:Mem}(i:Nat)(a:t.ok)(j:RelOn base ρ S w (restr rd m))(k:i∈rd)(h:m i=some (.dat (AU t))):CBy 28 (SV.cs ρ [.d i,.v (.int .i64 32)]).toArray w (.tuple #[.string (AB ((BW t 32).getD [])),.bool (BW t 32).isSome]):=by
 obtain⟨c,g,d1⟩:=C9 j k h;simp only[SV.cs,SV.c,g];exact R3 (sz:=32) w a d1 (by decide)
def fX:Option (Nat×Nat)->Value
 |some (r,t)=>.tuple #[PT r t,.bool true]
 |none=>.tuple #[ZV,.bool false]
theorem VO:(decide ((tbN t).2≠0))= !(BW t 32).isSome:=by
 unfold tbN;cases BW t 32<;>rfl
theorem N5{l:List Nat}(a:t.ok)(h:BW t 32=some l):l=bl (tbB t):=by
 have e:(tbN t).1=l:=by unfold tbN;rw[h]
 rw[tbB,e,G6 (Ik h) (Ij a h)]
theorem Qj(M:∀x∈b,x<256)(I:b.length<=1048576):CBy 9 #[.string (AB b)] w (fX (sgT b)):=by
 obtain⟨tg,C,ks,J⟩:∃tg C ks,(rdT b).1=Tr.mk tg C ks:=by cases (rdT b).1 with|mk tg C ks=>exact⟨tg,C,ks,rfl⟩
 obtain⟨E,N⟩:∃E,(rdT b).2=E:=⟨_,rfl⟩
 have z:=I3 M I
 have L:∀d,Bw w d->Calls prog 27 #[.string (AB b)] d λe O=> ∃u,e=.returned (.tuple #[u,.int .i64 E])/\Ae d O u (AU (.mk tg C ks))/\Bw d O:=λd _=>by
  have:=R5 d M I;rw[J,N]at this;exact this
 rw[J]at z;have hks:oks ks:=by simp only[Tr.ok]at z;exact z.2.2.2
 obtain⟨p,j⟩:∃p,decide (E≠0)=p:=⟨_,rfl⟩
 obtain⟨q,l⟩:∃p,decide (tg≠48)=p:=⟨_,rfl⟩
 obtain⟨r,g⟩:∃p,decide (((ks.length:Nat):Int)≠2)=p:=⟨_,rfl⟩
 rw[sgT,J,N,j,KA,l]
 go_enter func9,ntmps9
 refine A4 ?_;iterate 2 refine aT ?_
 iterate 10 refine AA ?_
 refine AX (by exact DL (D:=AU (.mk tg C ks)) (ys:=[.int .i64 E]) [] rfl rfl gg rfl (eo func27) (λρ S d hb T=>L d hb)) ?_;iterate 4 refine AA ?_
 refine AX (by exact Eu (did:=13) rfl gg rfl rfl rfl rfl yI rfl) ?_;iterate 4 refine AA ?_
 have h3:(p=false/\q=false/\r=false)\/(p=true\/(p=false/\q=true)\/(p=false/\q=false/\r=true)):=by cases p<;>cases q<;>cases r<;>simp
 rcases h3 with⟨rfl,rfl,rfl⟩|h3
 .have K:ks.length=2:=by have:=yC g;omega
  obtain⟨k0,k1,rfl⟩:=Xq K;obtain⟨x0,A⟩:∃x,tbB k0=x:=⟨_,rfl⟩
  obtain⟨x1,B⟩:∃x,tbB k1=x:=⟨_,rfl⟩
  rw[H5,VO,VO,A,B];iterate 2 refine AA ?_
  refine AX (by exact BB rfl gg rfl rfl j) ?_;iterate 2 refine AA ?_
  refine Wo ?_;refine AX (by first|exact Ev.skip (λ_=>rfl)|exact BB rfl (λ_=>rfl) rfl rfl l) ?_;refine k_9 ?_;iterate 2 refine AA ?_
  refine AX (by first|exact Ev.skip (λ_=>rfl)|exact BK rfl (λ_=>rfl) rfl rfl yV rfl rfl) ?_;refine AX (by first|exact Ev.skip (λ_=>rfl)|exact Jg rfl (λ_=>rfl) rfl yV (Mh rfl)) ?_;refine AX (by first|exact Ev.skip (λ_=>rfl)|exact BB rfl (λ_=>rfl) rfl rfl g) ?_;refine k_9 ?_;iterate 4 refine aT ?_
  rcases h_a0:BW k0 32 with _|l0<;>rcases h_a1:BW k1 32 with _|l1<;>simp only[uE8,uE9,z5,IN,cond_true,cond_false]
  .skip
   refine aT ?_;iterate 2 refine AA ?_
   refine Oq ?_;refine Oy2 ?_;refine O7 ?_;iterate 10 refine AA ?_
   refine Oo ?_;refine Ox2 ?_;refine O6 ?_;iterate 10 refine AA ?_
   refine k_9 ?_;iterate 2 refine AA ?_
   refine Bz ?_;iterate 4 refine aT ?_
   iterate 4 refine AA ?_
   refine AG ?_;refine AD (Av results9 (Ac rfl rfl y9 rfl zI rfl rfl) (AF rfl)) ?_;intro ρ d h;first|exact⟨rfl,h.1⟩
  .have H:=N5 (Ei hks (i:=1) rfl) h_a1
   rw[B]at H;subst H;refine aT ?_;iterate 2 refine AA ?_
   refine Oq ?_;refine Oy2 ?_;refine O7 ?_;iterate 10 refine AA ?_
   refine Oo ?_;refine Ox2 ?_;refine O6 ?_;iterate 10 refine AA ?_
   refine k_9 ?_;iterate 2 refine AA ?_
   refine Bz ?_;iterate 4 refine aT ?_
   iterate 4 refine AA ?_
   refine AG ?_;refine AD (Av results9 (Ac rfl rfl y9 rfl zI rfl rfl) (AF rfl)) ?_;intro ρ d h;first|exact⟨rfl,h.1⟩
  .have F:=N5 (Ei hks (i:=0) rfl) h_a0
   rw[A]at F;subst F;refine aT ?_;iterate 2 refine AA ?_
   refine Oq ?_;refine Oy2 ?_;refine O7 ?_;iterate 10 refine AA ?_
   refine Oo ?_;refine Ox2 ?_;refine O6 ?_;iterate 10 refine AA ?_
   refine k_9 ?_;iterate 2 refine AA ?_
   refine Bz ?_;iterate 4 refine aT ?_
   iterate 4 refine AA ?_
   refine AG ?_;refine AD (Av results9 (Ac rfl rfl y9 rfl zI rfl rfl) (AF rfl)) ?_;intro ρ d h;first|exact⟨rfl,h.1⟩
  .have F:=N5 (Ei hks (i:=0) rfl) h_a0
   rw[A]at F;subst F;have H:=N5 (Ei hks (i:=1) rfl) h_a1;rw[B]at H;subst H;refine aT ?_;iterate 2 refine AA ?_
   refine Oq ?_;refine Oy2 ?_;refine O7 ?_;iterate 10 refine AA ?_
   refine Oo ?_;refine Ox2 ?_;refine O6 ?_;iterate 10 refine AA ?_
   refine k_9 ?_;iterate 2 refine AA ?_
   refine Bz ?_;iterate 5 refine aT ?_
   refine AX (by exact NS rfl gg rfl y9 yG) ?_;iterate 2 refine AA ?_
   refine AX (by exact AK (c:=.string (AB (bl x0++bl x1))) rfl gg rfl rfl (λw=>Fu (bl x0) (bl x1) (by rw[EB,EB];decide) _ _ w)) ?_;refine AX (by exact Tv (b:=bl x0++bl x1) rfl gg rfl rfl rfl (λx Q=>(uB3.1 Q).elim (EZ _ x) (EZ _ x)) x7 Er (RT rfl) (RT rfl)) ?_;iterate 3 refine aT ?_
   iterate 4 refine AA ?_
   refine AG ?_;refine AD (Av results9 (Ac rfl rfl y9 rfl zI rfl rfl) (AF rfl)) ?_;intro ρ d h;first|exact⟨rfl,h.1⟩
 .have R:(bif p then none else bif q then none else H5 ks)=none:=by rcases h3 with rfl|⟨rfl,rfl⟩|⟨rfl,rfl,rfl⟩<;>first|rfl|exact Xr (by have:=yA g;omega)
  rw[R];rcases h3 with rfl|⟨rfl,rfl⟩|⟨rfl,rfl,rfl⟩<;>
  (
   iterate 2 refine AA ?_
   refine AX (by exact BB rfl gg rfl rfl j) ?_;iterate 2 refine AA ?_
   refine Wo ?_;refine AX (by first|exact Ev.skip (λ_=>rfl)|exact BB rfl (λ_=>rfl) rfl rfl l) ?_;refine k_9 ?_;iterate 2 refine AA ?_
   refine AX (by first|exact Ev.skip (λ_=>rfl)|exact BK rfl (λ_=>rfl) rfl rfl yV rfl rfl) ?_;refine AX (by first|exact Ev.skip (λ_=>rfl)|exact Jg rfl (λ_=>rfl) rfl yV (Mh rfl)) ?_;refine AX (by first|exact Ev.skip (λ_=>rfl)|exact BB rfl (λ_=>rfl) rfl rfl g) ?_;refine k_9 ?_;iterate 4 refine aT ?_
   iterate 4 refine AA ?_
   refine AG ?_;refine AD (Av results9 (Ac rfl rfl y9 rfl zI rfl rfl) (AF rfl)) ?_;intro ρ d h;first|exact⟨rfl,h.1⟩
  )
def kyL(x y:Nat):List Nat:=4::(bl x++bl y)
theorem Y0(x y:Nat):∀z∈kyL x y,z<256:=λz hz=>by
 rcases uA6.1 hz with rfl|hz
 .decide
 .exact(uB3.1 hz).elim (EZ x z) (EZ y z)
theorem dW(x y:Nat):wb x y=(kyL x y).map b8:=by
 unfold wb kyL;rw[PU,PU,List.map_cons,SW];rfl
theorem k7{k:Nat}{p:Pt}(h:Au k base=p):p.on:=h▸TollEc.smul_on TollEc.base_on k
structure Known(c:Crt)(d r t:Nat):Prop where
 fit:c.Fit
 rgt:C2 c=true
 rd:rdC (wrT (c.whole r t)).1=some (c,r,t)
 made:∀{w:World},Laid w->B6 w->CQ w->7<w.heap.size->CBy 58 #[B32 d,B32 (Ed c)] w (.tuple #[PT r t,.int .i64 0])
theorem oa{n size:Nat}{l:List Value}{y:Value}(rd:List Nat)(_hd:o.dst=some id)(k:o.op=.call {callee:=.value (.func f),args:=xs,argTypes:=ats})(h:AQ ops o s)
 (H:xs.toList.map (AE s)=vs)(E:∀args w,(callFunc f args).run P w=.ok (.enter f args) w)(F:l.length=n*size)
 (C:∀ρ S w,Bw w0 w->RelOn w0.heap.size ρ S w (restr rd s.mem)->Calls P f (SV.cs ρ vs).toArray w λe j=> ∃v,e=.returned (.tuple #[y,v])/\BN w j v n size ty l/\Bw w j):Ev P ops w0 o s ⟨.tup [.v y,.d id],[(id,.row n size ty (.exact l))],[],[id],rd⟩:=
 ⟨by simp[Eff.ok],.inr ⟨h,λρ S w hb B=>.inr (.inr ⟨f,(SV.cs ρ vs).toArray,by
  obtain⟨A,J,z,I,a,guard⟩:=o;simp only at k;subst k;rw[DH,G7,H,<-A8]
  simpa using E (SV.cs ρ vs).toArray w,(C ρ S w hb B).mono λe j ⟨v,h1,⟨g,h2⟩,h3⟩=>⟨_,h1,_,_,by
   have:=H6 (base:=w0.heap.size) (t:=s.mem) (ρ:=ρ) (S:=S) (val:=.tup [.v y,.d id]) (rd:=rd) (id:=id) hb.size h3 F h2;simpa[SV.c,SV.cs] using this⟩⟩)⟩⟩
end Go.Proofs.YtafbhakmkbehiaaGreatDoor
