import Derived.Test.YtafbhakmkbehiaaGreatDoorW16
open Go.Proofs.Tryz
set_option maxHeartbeats 4000000
set_option maxRecDepth 100000
namespace Go.Proofs.YtafbhakmkbehiaaGreatDoor
open Go.RowKit Go.Vx
variable(w:World){ops:Array Oper}{xs:Array Operand}{ats:Array TypeId}{x:Bool}{f:FuncId}{n tg:Int}{a b bd rd:List Nat}{ks:List Tr}{news vs:List Value}{h id k r size:Nat}{ρ:Nat->Nm}{S:Nat->Prop}{o:Oper}{Rr:Option (Crt×Nat×Nat)}{P:Program}{n0 t:Tr}{bt:TypeId}{s:VS}{v:Value}{w0:World}
open TollMont
open TollEc (F Pt Au add base nn)
theorem aX{dT sT e:TypeId}{x y:Operand}{i len m:Nat}{l:List SV}{L:SV}(Q:o.op=.call {callee:=.builtin .copy,args:=#[x,y],argTypes:=#[dT,sT]})(D:AQ ops o s)
 (U:AE s x=.s id i len m)(J:s.mem id=some (.cells l bt))(V:AE s y=L)(R:Rdg w0 s.mem rd L k 1 news)(F:P.underlying dT=some (.slice e))(T:(P.info? e).map (·.size)=some 1)
 (d:news.length=k)(E:k<=len)(H:i+k<=l.length)(N:news.all (·.oneCell')=true)(K:0<k):
 Ev P ops w0 o s ⟨.v (.int .i64 (k:Nat)),[(id,.cells (l.take i++news.map .v++l.drop (i+k)) bt)],[id],[],id::rd⟩:=
 Ev.wrv id _ _ _ _ D J (by simp) λρ S w hb G=>by
  have z:=AI s ρ x;rw[U]at z;have A:=AI s ρ y;rw[V]at A;obtain⟨C,I⟩:=w4 G J (by simp)
  have B:RelOn w0.heap.size ρ S w (restr rd s.mem):=by
   have:=G.restr rd
   have e:restr rd (restr (id::rd) s.mem)=restr rd s.mem:=by
    funext j;unfold restr
    by_cases h:j∈rd<;>simp[h]
   rwa [e]at this
  obtain⟨W,X,M,O,Y,Z,p⟩:=R ρ S w hb B;rcases p with p|⟨a,rfl,_,p⟩
  .exfalso;rw[p]at d;simp at d;omega
  .rw[O]at A
   simp only[SV.c]at z;have q:=run_copy_row (P:=P) w dT sT o.type e (ρ id).g i len m a k M (SV.cs ρ l).toArray bt news F T I (by rw[d];exact(Nat.min_eq_left E).symm) p (by rw[d];simp[A8];omega) (λu F=>y5.1 N u F);refine⟨True.intro,w.setRow (ρ id).g ((SV.cs ρ l).toArray.toList.take i++news++(SV.cs ρ l).toArray.toList.drop (i+news.length)).toArray,?_,⟨rfl,rfl,rfl,by simp,λk E=>MT w _ k _ E⟩,C,(ID w (ρ id).g _ _ _ _ I).trans ?_⟩
   .unfold execOp
    simp only[Q,resolve,invoke,builtin,Sem.run_bind,Sem.run_pure,Result.andThen_ok,List.map_toArray,List.map_cons,List.map_nil,z,A,q,SV.c,goInt,d]
   .simp[CP,A8,d,SV.c,uB0]
def tbB(t:Tr):Nat:=TollBy.beV (tbN t).1 0
def H5:List Tr->Option (Nat×Nat)
 | [a,b]=>bif decide ((tbN a).2≠0)then none else bif decide ((tbN b).2≠0)then none else some (tbB a,tbB b)
 |_=>none
def KA:Tr->Option (Nat×Nat)
 | .mk t _ ks=>bif decide (t≠48)then none else H5 ks
def sgT(b:List Nat):Option (Nat×Nat):=bif decide ((rdT b).2≠0)then none else KA (rdT b).1
def ZV:Value:=.agg #[.int .u8 0,.int .u8 0,.int .u8 0,.int .u8 0,.int .u8 0,.int .u8 0,.int .u8 0,.int .u8 0,.int .u8 0,.int .u8 0,.int .u8 0,.int .u8 0,.int .u8 0,.int .u8 0,.int .u8 0,.int .u8 0,.int .u8 0,.int .u8 0,.int .u8 0,.int .u8 0,.int .u8 0,.int .u8 0,.int .u8 0,.int .u8 0,.int .u8 0,.int .u8 0,.int .u8 0,.int .u8 0,.int .u8 0,.int .u8 0,.int .u8 0,.int .u8 0,.int .u8 0,.int .u8 0,.int .u8 0,.int .u8 0,.int .u8 0,.int .u8 0,.int .u8 0,.int .u8 0,.int .u8 0,.int .u8 0,.int .u8 0,.int .u8 0,.int .u8 0,.int .u8 0,.int .u8 0,.int .u8 0,.int .u8 0,.int .u8 0,.int .u8 0,.int .u8 0,.int .u8 0,.int .u8 0,.int .u8 0,.int .u8 0,.int .u8 0,.int .u8 0,.int .u8 0,.int .u8 0,.int .u8 0,.int .u8 0,.int .u8 0,.int .u8 0]
def sgV:Option (Nat×Nat)->Value
 |some (r,t)=>.tuple #[PT r t,.int .i64 0]
 |none=>.tuple #[ZV,.int .i64 2]
theorem Xr:∀{ks:List Tr},ks.length≠2->H5 ks=none
 | [],_=>rfl
 | [_],_=>rfl
 | [_,_],h=>absurd rfl h
 |_::_::_::_,_=>rfl
theorem Xq:∀{ks:List Tr},ks.length=2-> ∃a b,ks=[a,b]
 | [a,b],_=>⟨a,b,rfl⟩
 | [],h=>by simp at h
 | [_],h=>by simp at h
 |_::_::_::_,h=>by simp at h
theorem VU(c:t.ok):tbB t<R:=by
 have:=TollBy.beV_lt (tbN t).1 (VR c);rw[VT]at this;exact Nat.lt_of_lt_of_eq this (by decide)
theorem eG(c:t.ok):Value.agg ((tbN t).1.map b8).toArray=B32 (tbB t):=by rw[Qq,tbB,G6 (VT t) (VR c)]
theorem bf:prog.built 22 []=some #[.int .u8 0,.int .u8 0,.int .u8 0,.int .u8 0,.int .u8 0,.int .u8 0,.int .u8 0,.int .u8 0,.int .u8 0,.int .u8 0,.int .u8 0,.int .u8 0,.int .u8 0,.int .u8 0,.int .u8 0,.int .u8 0,.int .u8 0,.int .u8 0,.int .u8 0,.int .u8 0,.int .u8 0,.int .u8 0,.int .u8 0,.int .u8 0,.int .u8 0,.int .u8 0,.int .u8 0,.int .u8 0,.int .u8 0,.int .u8 0,.int .u8 0,.int .u8 0,.int .u8 0,.int .u8 0,.int .u8 0,.int .u8 0,.int .u8 0,.int .u8 0,.int .u8 0,.int .u8 0,.int .u8 0,.int .u8 0,.int .u8 0,.int .u8 0,.int .u8 0,.int .u8 0,.int .u8 0,.int .u8 0,.int .u8 0,.int .u8 0,.int .u8 0,.int .u8 0,.int .u8 0,.int .u8 0,.int .u8 0,.int .u8 0,.int .u8 0,.int .u8 0,.int .u8 0,.int .u8 0,.int .u8 0,.int .u8 0,.int .u8 0,.int .u8 0]:=by kernel_rfl
theorem p8{c:List Value}{w:World}(g:(ρ id).val=.agg c.toArray)(e:DN w S t c):SV.c ρ (.fn (AN 0) (.d id))=.int .i64 (Lf t):=by
 cases t with
 |mk tg b ks=>
  rw[DN]at e;obtain⟨_,_,_,rfl,_⟩:=e;simp[SV.c,g,AN,Value.cells,Lf]
theorem bO{w:World}{e:Nat}{S:Nat->Nat->Prop}{m:Mem}(i:Nat)(g:t.ok)(p:RelOn e ρ S w (restr rd m))(q:i∈rd)(l:m i=some (.dat (AR t))):CBy 26 (SV.cs ρ [.agg [.fn (AN 0) (.d i),.fn (AN 1) (.d i),.fn (AN 2) (.d i)]]).toArray w (.tuple #[B32 (tbB t),.int .i64 (tbN t).2]):=by
 obtain⟨c,j,d1⟩:=cW p q l;rw[<-eG g];simp only[SV.cs,j];exact d9 w g d1
theorem LU{F:Nat->Prop}(O:AO w v b.length 1 (b.map b8) F)(K:∀x∈b,x<256)(B:b.length<=1048576):CBy 8 #[v] w (sgV (sgT b)):=by
 obtain⟨tg,bd,ks,H⟩:∃tg bd ks,(rdT b).1=Tr.mk tg bd ks:=by cases (rdT b).1 with|mk tg bd ks=>exact⟨tg,bd,ks,rfl⟩
 obtain⟨E,L⟩:∃E,(rdT b).2=E:=⟨_,rfl⟩
 have z:=I3 K B;rw[H]at z;have C:oks ks:=by simp only[Tr.ok]at z;exact z.2.2.2
 obtain⟨p,m⟩:∃p,decide (E≠0)=p:=⟨_,rfl⟩
 obtain⟨q,u⟩:∃p,decide (tg≠48)=p:=⟨_,rfl⟩
 obtain⟨r,g⟩:∃p,decide (((ks.length:Nat):Int)≠2)=p:=⟨_,rfl⟩
 rw[sgT,H,L,m,KA,u]
 go_enter func8,ntmps8
 refine A4 ?_;iterate 2 refine aT ?_
 iterate 10 refine AA ?_
 refine AX (by exact DL (D:=AR (.mk tg bd ks)) (ys:=[.int .i64 E]) [] rfl rfl gg rfl (eo func25) (λρ S J hb G=>(by have:=Uk J (A5 O hb) K B;rw[H,L]at this;exact this))) ?_;iterate 4 refine AA ?_
 refine SE ?_;iterate 4 refine AA ?_
 have h3:(p=false/\q=false/\r=false)\/(p=true\/(p=false/\q=true)\/(p=false/\q=false/\r=true)):=by cases p<;>cases q<;>cases r<;>simp
 rcases h3 with⟨rfl,rfl,rfl⟩|h3
 .have I:ks.length=2:=by have:=yC g;omega
  obtain⟨d,e,rfl⟩:=Xq I;obtain⟨M,j⟩:∃a,decide ((tbN d).2≠0)=a:=⟨_,rfl⟩
  obtain⟨N,l⟩:∃a,decide ((tbN e).2≠0)=a:=⟨_,rfl⟩
  rw[H5,j,l];iterate 2 refine AA ?_
  refine AX (by exact BB rfl gg rfl rfl m) ?_;iterate 2 refine AA ?_
  refine Ws ?_;refine AX (by first|exact Ev.skip (λ_=>rfl)|exact Ev.skip (λ_=>rfl)|exact BB rfl (λ_=>rfl) rfl rfl u) ?_;refine k_9 ?_;iterate 2 refine AA ?_
  refine AX (by first|exact Ev.skip (λ_=>rfl)|exact Ev.skip (λ_=>rfl)|exact BK rfl (λ_=>rfl) rfl rfl yO rfl rfl) ?_;refine AX (by first|exact Ev.skip (λ_=>rfl)|exact Ev.skip (λ_=>rfl)|exact Jg rfl (λ_=>rfl) rfl yO (Ka rfl)) ?_;refine AX (by first|exact Ev.skip (λ_=>rfl)|exact Ev.skip (λ_=>rfl)|exact BB rfl (λ_=>rfl) rfl rfl g) ?_;refine k_9 ?_;iterate 6 refine aT ?_
  refine AA ?_;refine AX (by exact BK rfl gg rfl rfl yO rfl rfl) ?_;refine AX (by exact Jg rfl gg rfl yO (Ka (ks:=[d,e]) rfl)) ?_;iterate 3 refine AA ?_
  refine Br 3 ?_;change VOk _ _ _ _ _;iterate 2 refine aT ?_
  refine AX (by exact BM (p:=true) rfl gg rfl rfl rfl) ?_;iterate 9 refine AA ?_
  refine AX (by exact QC (k:=0) rfl gg rfl rfl yO yH (Ka (ks:=[d,e]) rfl) (by simp) (by decide)) ?_;refine AX (by exact P9 (D:=AR (d)) rfl rfl gg rfl yZ rfl yH (ZD (i:=0) (_k:=0) (ks:=[d,e]) rfl rfl) au (by decide)) ?_;iterate 2 refine AA ?_
  refine SE ?_;iterate 3 refine aT ?_
  refine AA ?_;refine AX (by exact Aj (v:=.tuple #[B32 (tbB d),.int .i64 (tbN d).2]) [37] rfl gg rfl (eo func26) (λρ S J hb G=>bO 37 (Ei C (i:=0) rfl) G (by simp) rfl)) ?_;iterate 11 refine AA ?_
  refine AX (by exact BB rfl gg rfl rfl j) ?_;refine aT ?_;cases M
  .iterate 4 refine AA ?_
   refine AX (by exact AK (c:=.int .i64 0) rfl gg rfl rfl (λw=>by go_simp;rfl)) ?_;refine AX (by exact LD (a:=0) (b:=64) rfl gg rfl y9 yG rfl rfl (by decide) (by decide) (by decide)) ?_;refine F9 ?_;refine AX (by exact aX (news:=l32 (tbB d)) (len:=64) (k:=32) rfl gg rfl rfl rfl (Hw rfl rfl rfl (by decide)) x7 Er rfl (by decide) (RT rfl) rfl (by decide)) ?_;iterate 2 refine aT ?_
   refine AX (by exact BE (c:=1) rfl gg rfl rfl (by decide)) ?_;iterate 2 refine AA ?_
   refine Ea (λi=>decide (i<7)||i==31||i==32||i==33) [37,8,9] (λf=>by simp[B0];exact rfl) (by simp[BQ];exact rfl) λf=> ?_
   iterate 2 refine aT ?_
   refine AX (by exact BM (p:=true) rfl gg rfl rfl rfl) ?_;iterate 9 refine AA ?_
   refine AX (by exact QC (k:=1) rfl gg rfl rfl yO yH (Ka (ks:=[d,e]) rfl) (by simp) (by decide)) ?_;refine AX (by exact P9 (D:=AR (e)) rfl rfl gg rfl yZ rfl yH (ZD (i:=1) (_k:=0) (ks:=[d,e]) rfl rfl) au (by decide)) ?_;iterate 2 refine AA ?_
   refine SE ?_;iterate 3 refine aT ?_
   refine AA ?_;refine AX (by exact Aj (v:=.tuple #[B32 (tbB e),.int .i64 (tbN e).2]) [37] rfl gg rfl (eo func26) (λρ S J hb G=>bO 37 (Ei C (i:=1) rfl) G (by simp) rfl)) ?_;iterate 11 refine AA ?_
   refine AX (by exact BB rfl gg rfl rfl l) ?_;refine aT ?_;cases N
   .iterate 4 refine AA ?_
    refine AX (by exact AK (c:=.int .i64 32) rfl gg rfl rfl (λw=>by go_simp;rfl)) ?_;refine Kt ?_;refine F9 ?_;refine AX (by exact aX (news:=l32 (tbB e)) (len:=32) (k:=32) rfl gg rfl rfl rfl (Hw rfl rfl rfl (by decide)) x7 Er rfl (by decide) (RT rfl) rfl (by decide)) ?_;iterate 2 refine aT ?_
    refine AX (by exact BE (c:=2) rfl gg rfl rfl (by decide)) ?_;iterate 2 refine AA ?_
    refine Ea (λi=>decide (i<7)||i==31||i==32||i==33) [37,8,9] (λf=>by simp[B0];exact rfl) (by simp[BQ];exact rfl) λf=> ?_
    iterate 2 refine aT ?_
    refine AX (by exact BM (p:=false) rfl gg rfl rfl rfl) ?_;iterate 3 refine aT ?_
    refine As ?_;change VOk _ _ _ _ _;iterate 2 refine aT ?_
    iterate 4 refine AA ?_
    exact AG (AD (Av results8 (Ac rfl rfl y9 rfl zI rfl rfl) (AF rfl)) λ_ _ A=>⟨rfl,A.1⟩)
   .iterate 3 refine aT ?_
    refine I7 ?_;iterate 3 refine AA ?_
    exact AG (AD (Av results8 (Ac rfl rfl y9 rfl zI rfl rfl) (AF rfl)) λ_ _ A=>⟨rfl,A.1⟩)
  .iterate 3 refine aT ?_
   refine I7 ?_;iterate 3 refine AA ?_
   exact AG (AD (Av results8 (Ac rfl rfl y9 rfl zI rfl rfl) (AF rfl)) λ_ _ A=>⟨rfl,A.1⟩)
 .have Q:(bif p then none else bif q then none else H5 ks)=none:=by rcases h3 with rfl|⟨rfl,rfl⟩|⟨rfl,rfl,rfl⟩<;>first|rfl|exact Xr (by have:=yA g;omega)
  rw[Q];rcases h3 with rfl|⟨rfl,rfl⟩|⟨rfl,rfl,rfl⟩<;>
  (
   iterate 2 refine AA ?_
   refine AX (by exact BB rfl gg rfl rfl m) ?_;iterate 2 refine AA ?_
   refine Ws ?_;refine AX (by first|exact Ev.skip (λ_=>rfl)|exact Ev.skip (λ_=>rfl)|exact BB rfl (λ_=>rfl) rfl rfl u) ?_;refine k_9 ?_;iterate 2 refine AA ?_
   refine AX (by first|exact Ev.skip (λ_=>rfl)|exact Ev.skip (λ_=>rfl)|exact BK rfl (λ_=>rfl) rfl rfl yO rfl rfl) ?_;refine AX (by first|exact Ev.skip (λ_=>rfl)|exact Ev.skip (λ_=>rfl)|exact Jg rfl (λ_=>rfl) rfl yO (Ka rfl)) ?_;refine AX (by first|exact Ev.skip (λ_=>rfl)|exact Ev.skip (λ_=>rfl)|exact BB rfl (λ_=>rfl) rfl rfl g) ?_;refine k_9 ?_;iterate 4 refine aT ?_
   iterate 4 refine AA ?_
   exact AG (AD (Av results8 (Ac rfl rfl y9 rfl zI rfl rfl) (AF rfl)) λ_ _ A=>⟨rfl,A.1⟩)
  )
def kX(l:List Nat):Nat:=TollBy.beV ((l.drop 1).take 32) 0
def kY(l:List Nat):Nat:=TollBy.beV (l.drop 33) 0
def kyB(l:List Nat):Bool:=decide (l.length=65) && (decide (l.headD 0=4) && onB (kX l) (kY l))
theorem Y3{w:World}{l:List Nat}(c:AO w v l.length 1 (l.map b8) S)(g:∀x∈l,x<256)(i:Laid w):(kyB l=false/\JE w v)\/(kyB l=true/\JO w v (kX l) (kY l)):=by
 by_cases m:l.length=65
 .match l,m,g,c with
  |b::t,hlen,g,c=>
   rw[hlen]at c;by_cases j:b=4
   .subst j
    have C:t.length=64:=by simpa using hlen
    have z:∀x∈t.take 32,x<256:=λx d=>g x (by simp[PA d])
    have A:∀x∈t.drop 32,x<256:=λx d=>g x (by simp[DO d])
    have u:(t.take 32).length=32:=by simp;omega
    have y:(t.drop 32).length=32:=by simp;omega
    have el:(4::t).map b8=wb (TollBy.beV (t.take 32) 0) (TollBy.beV (t.drop 32) 0):=by
     unfold wb;rw[PU,PU,G6 u z,G6 y A,<-SW,uE6];rfl
    rw[el]at c;have d:=IX u z;have p:=IX y A
    have B:kyB (4::t)=onB (TollBy.beV (t.take 32) 0) (TollBy.beV (t.drop 32) 0):=by
     unfold kyB;rw[hlen];rfl
    rw[B];cases q:onB (TollBy.beV (t.take 32) 0) (TollBy.beV (t.drop 32) 0)with
    |true=>exact .inr ⟨rfl,d,p,λe hb=>gm d p e (i.bw hb) (A5 c hb) q⟩
    |false=>exact .inl ⟨rfl,λe hb=>gp d p e (i.bw hb) (A5 c hb) q⟩
   .exact .inl ⟨by simp[kyB,j],λe hb=>gk e (i.bw hb) (A5 c hb) j⟩
 .exact .inl ⟨by simp[kyB,m],λe hb=>gv e (i.bw hb) (A5 c hb) m⟩
def uT(t x:Nat):Nat:=t^(nn-2) %nn*x %nn
noncomputable def chP(l:List Nat)(h r t:Nat):Pt:=add (Au (uT t h) base) (Au (uT t r) (toP (kX l) (kY l)))
open Classical in
noncomputable def EX(l:List Nat)(h r t:Nat):Int:=
 bif !kyB l then 15 else bif !sec r then 6 else bif !sec t then 6 else if chP l h r t=.inf then 6 else if xv (chP l h r t) %nn=r then 0 else 6
theorem pi{l:List Nat}{t:Nat}(k:kyB l=false):EX l h r t=15:=by unfold EX;rw[k];rfl
theorem pf{l:List Nat}{t:Nat}(k:kyB l=true)(c:sec r=false):EX l h r t=6:=by unfold EX;rw[k,c];rfl
theorem pe{l:List Nat}{t:Nat}(k:kyB l=true)(c:sec r=true)(d:sec t=false):EX l h r t=6:=by unfold EX;rw[k,c,d];rfl
theorem bB{l:List Nat}{t:Nat}(k:kyB l=true)(c:sec r=true)(d:sec t=true):EX l h r t=open Classical in if chP l h r t=.inf then 6 else if xv (chP l h r t) %nn=r then 0 else 6:=by
 unfold EX;rw[k,c,d,z5,cond_false,cond_false,cond_false]
theorem bC(l:List Nat)(h r t:Nat):chP l h r t=add (Au (t^(nn-2) %nn*h %nn) base) (Au (t^(nn-2) %nn*r %nn) (toP (kX l) (kY l))):=by unfold chP uT;rfl
theorem sa{w:World}{l:List Nat}{t:Nat}(z:AO w v l.length 1 (l.map b8) S)(G:∀x∈l,x<256)(q:h<R)(u:r<R)(y:t<R)(m:Laid w):
 CBy 46 #[v,B32 h,PT r t] w (.int .i64 (EX l h r t)):=by
 rcases Y3 z G m with⟨k,j⟩|⟨k,D,E,d⟩
 .rw[pi k];exact sZ q u y w m j
 .cases g:sec r with
  |false=>rw[pf k g];exact sn q u y w m d g
  |true=>
   cases st:sec t with
   |false=>rw[pe k g st];exact sj q u y w m d g st
   |true=>
    rw[bB k g st];obtain⟨z,A⟩:=aN st;have p:=bC l h r t;generalize chP l h r t=X at p⊢;generalize t^(nn-2) %nn=i at z A p;have B:=TollEc.smul_on TollEc.base_on (i*h %nn);have C:=TollEc.smul_on (N4 (kX l) (kY l)) (i*r %nn);have F:X.on:=p▸TollEc.on_add B C;by_cases c:X=.inf
    .rw[x9 c];exact sf q u y w m D E d g st A z rfl rfl B C p.symm F c
    .rw[x8 c]
     by_cases e:xv X %nn=r
     .rw[x9 e];exact si q u y w m D E d g st A z rfl rfl B C p.symm F c e
     .rw[x8 e];exact so q u y w m D E d g st A z rfl rfl B C p.symm F c e
theorem e9{a b:Nat}(h:a %nn=b %nn):Au a base=Au b base:=by rw[<-TollEc.smul_mod a,h,TollEc.smul_mod]
theorem pg{l:List Nat}{d t i:Nat}(A:kyB l=true)(u:toP (kX l) (kY l)=Au d base)(E:sec r=true)(m:sec t=true)(D:sec k=true)(B:xv (Au k base) %nn=r)(y:i*k %nn=1)(C:i*((h+r*d %nn) %nn) %nn=t):EX l h r t=0:=by
 have e:chP l h r t=Au k base:=by
  obtain⟨g,_⟩:=aN m;rw[bC,u,<-TollEc.smul_mul TollEc.base_on,<-TollEc.smul_add TollEc.base_on];apply e9;generalize t^(nn-2) %nn=j at g⊢
  have p:(j*h %nn+d*(j*r %nn)) %nn=j*(h+r*d) %nn:=by
   rw[GS,PB,zR d,PB,<-zR,<-GS];congr 1
   rw[Nat.mul_add,<-DP j,zE d]
  have c:t %nn=i*(h+r*d) %nn:=by
   rw[<-C,PB,zR,PB,GS,PB,<-GS,<-zR]
  rw[p];generalize h+r*d=z at c⊢;have q:j*(i*z) %nn=1:=by rw[zR,<-c,<-zR,g]
  calc j*z %nn=(j*z %nn)*1 %nn:=by rw[yQ,PB]
   _=(j*z %nn)*(i*k %nn) %nn:=by rw[y]
   _=j*z*(i*k) %nn:=by rw[<-zR]
   _=k*(j*(i*z)) %nn:=by congr 1;ac_rfl
   _=(k %nn)*(j*(i*z) %nn) %nn:=by rw[<-zR]
   _=k %nn:=by rw[q,yQ,PB]
 rw[bB A E m,e,x8 (fc D),x9 B]
def usB(u:Int):Bool:=decide (2*(u/2 %2)≠0)
def C2(c:Crt):Bool:=kyB c.ky && (wiB c.se 1 4611686018427387903 && (wiB c.fr 0 4611686018427387903 && (wiB c.to 0 4611686018427387903 && (Db c.is && (Db c.su && (wiB c.pa 0 5 && ((c.ca|| !decide (c.pa≠0)) && (wiB c.us 0 15 && (usB c.us==c.ca)))))))))
theorem cP{u:Int}(c:0<=u)(d:u<=15):BOy .and 3 (.int .i64 u) (.int .i64 2) (.int .i64 (2*(u/2 %2))):=by
 intro p q w
 have:u=0\/u=1\/u=2\/u=3\/u=4\/u=5\/u=6\/u=7\/u=8\/u=9\/u=10\/u=11\/u=12\/u=13\/u=14\/u=15:=by omega
 rcases this with rfl|rfl|rfl|rfl|rfl|rfl|rfl|rfl|rfl|rfl|rfl|rfl|rfl|rfl|rfl|rfl<;>(go_simp;rfl)
theorem Cv{a c:Int}:wiB n a c=true↔a<=n/\n<=c:=by unfold wiB;simp
theorem Yb{s:List Nat}(h:Db s=true):s≠[]/\s.length<=64/\Ak (utT s) 1=true:=by
 unfold Db twN at h;cases c:Ju (utT s)with
 |false=>rw[c]at h;simp at h
 |true=>
  rw[c]at h;simp only[cond_true,yW,BY]at h;simp only[utT,Ju,yW,BY]at c;exact⟨h.2,c.2.2,c.2.1⟩
theorem KD{c:Crt}(u:∀x∈c.is,x<256)(z:∀x∈c.su,x<256)(y:∀x∈c.ky,x<256)(h:C2 c=true):c.Fit:=by
 unfold C2 at h;simp only[yW,Cv]at h;obtain⟨g,p,m,q,e,j,i,_,d,_⟩:=h
 have l:c.ky.length=65:=by
  unfold kyB at g;simp only[yW,BY]at g;exact g.1
 exact⟨u,z,y,(Yb e).2.1,(Yb j).2.1,by omega,by omega,by omega,by omega,i.2,d.1,d.2⟩
theorem CI{b:Bool}(d:x=b)(j:o.op=.call {callee:=.value (.func f),args:=xs,argTypes:=ats})(c:AQ ops o s)
 (l:unV (xs.toList.map (AE s))=some vs)(i:∀args w,(callFunc f args).run P w=.ok (.enter f args) w)(g:∀w,Bw w0 w->Calls P f vs.toArray w λe m=>e=.returned (.bool x)/\Bw w m):Ev P ops w0 o s ⟨.v (.bool b),[],[],[],[]⟩:=by
 subst d;exact Ad j c l i g
theorem WE{c:Crt}{K:Value}{F:Nat->Prop}(L:Laid w)(M:AO w K c.ky.length 1 (c.ky.map b8) F)(N:∀x∈c.ky,x<256)(I:∀x∈c.is,x<256)(s8:∀x∈c.su,x<256)(J:c.is.length<=1048576)(sl:c.su.length<=1048576):CBy 57 #[(.agg #[.int .i64 c.se,.string (AB c.is),.string (AB c.su),.int .i64 c.fr,.int .i64 c.to,K,.bool c.ca,.int .i64 c.pa,.int .i64 c.us])] w (.bool (C2 c)):=by
 obtain⟨a,q⟩:∃p,wiB c.se 1 4611686018427387903=p:=⟨_,rfl⟩
 obtain⟨b,y⟩:∃p,wiB c.fr 0 4611686018427387903=p:=⟨_,rfl⟩
 obtain⟨d,A⟩:∃p,wiB c.to 0 4611686018427387903=p:=⟨_,rfl⟩
 obtain⟨e,B⟩:∃p,Db c.is=p:=⟨_,rfl⟩
 obtain⟨f,h_f⟩:∃p,Db c.su=p:=⟨_,rfl⟩
 obtain⟨p,C⟩:∃p,wiB c.pa 0 5=p:=⟨_,rfl⟩
 obtain⟨g,H⟩:∃p,c.ca=p:=⟨_,rfl⟩
 obtain⟨z,E⟩:∃p,decide (c.pa≠0)=p:=⟨_,rfl⟩
 obtain⟨u,m⟩:∃p,wiB c.us 0 15=p:=⟨_,rfl⟩
 obtain⟨v,D⟩:∃p,usB c.us=p:=⟨_,rfl⟩
 rw[C2,q,y,A,B,h_f,C,H,E,m,D]
 go_enter func57,ntmps57
 refine A4 ?_;iterate 7 refine AA ?_
 rcases Y3 M N L with⟨G,hj⟩|⟨G,_,_,hj⟩<;>rw[G]
 .skip
  refine aT ?_;iterate 2 refine AA ?_
  refine Wt ?_;iterate 3 refine AA ?_
  refine AX (by exact BZ rfl rfl gg zeroValue141) ?_;refine AX (by exact BA rfl gg rfl rfl rfl uA3 rfl (by simp) rfl) ?_;iterate 5 refine AA ?_
  refine KN ?_;iterate 6 refine AA ?_
  refine AG ?_;refine AD (AH results57 (AF rfl)) ?_;intro ρ i l;first|exact⟨rfl,l.1⟩|(cases v<;>exact⟨rfl,l.1⟩)
 .skip
  refine aT ?_;iterate 2 refine AA ?_
  refine Wt ?_;iterate 3 refine AA ?_
  refine AX (by exact BZ rfl rfl gg zeroValue141) ?_;refine AX (by exact BA rfl gg rfl rfl rfl uA3 rfl (by simp) rfl) ?_;iterate 5 refine AA ?_
  refine KN ?_;iterate 6 refine aT ?_
  have h3:(a=true/\b=true/\d=true)\/(a=false\/(a=true/\b=false)\/(a=true/\b=true/\d=false)):=by cases a<;>cases b<;>cases d<;>simp
  rcases h3 with⟨rfl,rfl,rfl⟩|h3
  .skip
   refine aT ?_;iterate 2 refine AA ?_
   refine AX (by exact CI q rfl gg rfl (eo func66) (λi j=>EF i)) ?_;refine k_9 ?_;iterate 3 refine AA ?_
   refine AX (by first|exact Ev.skip (λ_=>rfl)|exact CI y rfl (λ_=>rfl) rfl (eo func66) (λi j=>EF i)) ?_;refine Bz ?_;iterate 3 refine AA ?_
   refine AX (by first|exact Ev.skip (λ_=>rfl)|exact CI A rfl (λ_=>rfl) rfl (eo func66) (λi j=>EF i)) ?_;refine Bz ?_;iterate 4 refine AA ?_
   have h3:(e=true/\f=true)\/(e=false\/(e=true/\f=false)):=by cases e<;>cases f<;>simp
   rcases h3 with⟨rfl,rfl⟩|h3
   .skip
    refine aT ?_;iterate 2 refine AA ?_
    refine AX (by exact CI B rfl gg rfl (eo func104) (λi j=>Sp i I J)) ?_;refine k_9 ?_;iterate 3 refine AA ?_
    refine Wy ?_;refine Bz ?_;iterate 4 refine AA ?_
    have h3:((p=true/\g=true)\/(p=true/\g=false/\z=false))\/(p=false\/(p=true/\g=false/\z=true)):=by cases p<;>cases g<;>cases z<;>simp
    rcases h3 with h3|h3
    .rcases h3 with⟨rfl,rfl⟩|⟨rfl,rfl,rfl⟩<;>
     (
      refine aT ?_;iterate 2 refine AA ?_
      refine AX (by exact CI C rfl gg rfl (eo func66) (λi j=>EF i)) ?_;refine k_9 ?_;iterate 3 refine AA ?_
      refine FX ?_;iterate 3 refine AA ?_
      refine AX (by first|exact Ev.skip (λ_=>rfl)|exact BB rfl (λ_=>rfl) rfl rfl E) ?_;refine Bz ?_;iterate 5 refine AA ?_
      cases u
      .skip
       refine aT ?_;iterate 2 refine AA ?_
       refine AX (by exact CI m rfl gg rfl (eo func66) (λi j=>EF i)) ?_;iterate 3 refine AA ?_
       refine AX (by first|exact Ev.skip (λ_=>rfl)|exact AK rfl (λ_=>rfl) rfl rfl (λw=>cP (Cv.1 m).1 (Cv.1 m).2 _ _ w)) ?_;refine AX (by first|exact Ev.skip (λ_=>rfl)|exact BB rfl (λ_=>rfl) rfl rfl D) ?_;iterate 2 refine AA ?_
       refine D1 ?_;iterate 2 refine AA ?_
       refine AG ?_;refine AD (AH results57 (AF rfl)) ?_;intro ρ i l;first|exact⟨rfl,l.1⟩|(cases v<;>exact⟨rfl,l.1⟩)
      .skip
       refine aT ?_;iterate 2 refine AA ?_
       refine AX (by exact CI m rfl gg rfl (eo func66) (λi j=>EF i)) ?_;iterate 3 refine AA ?_
       refine AX (by first|exact Ev.skip (λ_=>rfl)|exact AK rfl (λ_=>rfl) rfl rfl (λw=>cP (Cv.1 m).1 (Cv.1 m).2 _ _ w)) ?_;refine AX (by first|exact Ev.skip (λ_=>rfl)|exact BB rfl (λ_=>rfl) rfl rfl D) ?_;iterate 2 refine AA ?_
       refine D1 ?_;iterate 2 refine AA ?_
       refine AG ?_;refine AD (AH results57 (AF rfl)) ?_;intro ρ i l;first|exact⟨rfl,l.1⟩|(cases v<;>exact⟨rfl,l.1⟩)
     )
    .rcases h3 with rfl|⟨rfl,rfl,rfl⟩<;>
     (
      refine aT ?_;iterate 2 refine AA ?_
      refine AX (by exact CI C rfl gg rfl (eo func66) (λi j=>EF i)) ?_;refine k_9 ?_;iterate 3 refine AA ?_
      refine FX ?_;iterate 3 refine AA ?_
      refine AX (by first|exact Ev.skip (λ_=>rfl)|exact BB rfl (λ_=>rfl) rfl rfl E) ?_;refine Bz ?_;iterate 7 refine AA ?_
      refine AG ?_;refine AD (AH results57 (AF rfl)) ?_;intro ρ i l;first|exact⟨rfl,l.1⟩|(cases v<;>exact⟨rfl,l.1⟩)
     )
   .rcases h3 with rfl|⟨rfl,rfl⟩<;>
    (
     refine aT ?_;iterate 2 refine AA ?_
     refine AX (by exact CI B rfl gg rfl (eo func104) (λi j=>Sp i I J)) ?_;refine k_9 ?_;iterate 3 refine AA ?_
     refine Wy ?_;refine Bz ?_;iterate 7 refine AA ?_
     refine AG ?_;refine AD (AH results57 (AF rfl)) ?_;intro ρ i l;first|exact⟨rfl,l.1⟩|(cases v<;>exact⟨rfl,l.1⟩)
    )
  .rcases h3 with rfl|⟨rfl,rfl⟩|⟨rfl,rfl,rfl⟩<;>
   (
    refine aT ?_;iterate 2 refine AA ?_
    refine AX (by exact CI q rfl gg rfl (eo func66) (λi j=>EF i)) ?_;refine k_9 ?_;iterate 3 refine AA ?_
    refine AX (by first|exact Ev.skip (λ_=>rfl)|exact CI y rfl (λ_=>rfl) rfl (eo func66) (λi j=>EF i)) ?_;refine Bz ?_;iterate 3 refine AA ?_
    refine AX (by first|exact Ev.skip (λ_=>rfl)|exact CI A rfl (λ_=>rfl) rfl (eo func66) (λi j=>EF i)) ?_;refine Bz ?_;iterate 7 refine AA ?_
    refine AG ?_;refine AD (AH results57 (AF rfl)) ?_;intro ρ i l;first|exact⟨rfl,l.1⟩|(cases v<;>exact⟨rfl,l.1⟩)
   )
def mT:Tr->List Tr
 | .mk _ _ ks=>ks
def isC(k:Tr):Bool:=decide (((mT k).length:Int)>0)
def SY(k:Tr):Int:=bif isC k then Ax (AC [1] k)else 0
def JF(n:Tr):Tr:=AC [7,0] (AC [0] n)
def CX(n:Tr):Int:=Ax (Bt (AC [1,2] (JF n)))
def Cl(n:Tr):Int:=Ax (Bt (AC [2,1] (JF n)))
def QY(n:Tr):Tr:=Bt (AC [0,2] (JF n))
def GJ(n:Tr):Crt:=⟨Ax (AC [1] (AC [0] n)),Az (AC [3,0,1] (AC [0] n)),Az (AC [5,0,1] (AC [0] n)),Ax (AC [4,0] (AC [0] n)),Ax (AC [4,1] (AC [0] n)),BO (AC [6,1] (AC [0] n)),isC (QY n),SY (QY n),Cl n*4+CX n⟩
def GF(c:Crt)(b:List Nat):Option (Nat×Nat)->Option (Crt×Nat×Nat)
 |none=>none
 |some (r,t)=>bif !C2 c then none else bif !decide ((wrT (c.whole r t)).1=b)then none else some (c,r,t)
def Gz(n:Tr)(b:List Nat):Option (Crt×Nat×Nat):=bif !(wiB (CX n) 0 3 && wiB (Cl n) 0 3)then none else GF (GJ n) b (sgT (BO (AC [2] n)))
def rdC(b:List Nat):Option (Crt×Nat×Nat):=bif decide ((rdT b).2≠0)then none else Gz (rdT b).1 b
def CZ:Value:=.agg #[.int .i64 0,.string (AB []),.string (AB []),.int .i64 0,.int .i64 0,.slice none 0 0,.bool false,.int .i64 0,.int .i64 0]
def CVV(c:Crt)(d:Value):Value:=.agg #[.int .i64 c.se,.string (AB c.is),.string (AB c.su),.int .i64 c.fr,.int .i64 c.to,d,.bool c.ca,.int .i64 c.pa,.int .i64 c.us]
def RdC(w w':World)(e:Ending):Option (Crt×Nat×Nat)->Prop
 |none=>e=.returned (.tuple #[CZ,ZV,.int .i64 2])
 |some (c,r,t)=> ∃kv,e=.returned (.tuple #[CVV c kv,PT r t,.int .i64 0])/\BN w w' kv c.ky.length 1 5 (c.ky.map b8)
theorem qg(a c d:Int)(b e:ByteArray)(p:Option Addr)(m q:Nat):prog.built 34 [(0,.int .i64 a),(1,.string b),(3,.int .i64 c),(4,.int .i64 d),(2,.string e),(5,.slice p m q)]=some #[.int .i64 a,.string b,.string e,.int .i64 c,.int .i64 d,.slice p m q,.bool false,.int .i64 0,.int .i64 0]:=by kernel_rfl
theorem qe:prog.built 34 []=some #[.int .i64 0,.string (AB []),.string (AB []),.int .i64 0,.int .i64 0,.slice none 0 0,.bool false,.int .i64 0,.int .i64 0]:=by kernel_rfl
theorem om{q u y z A B:Operand}{a c d:Int}{b e:ByteArray}{p:SV}{n:Nat}{l:List Value}(R:o.op=.build 34 #[(0,q),(1,u),(3,z),(4,A),(2,y),(5,B)])(m:AQ ops o s)
 (J:AE s q=.v (.int .i64 a))(K:AE s u=.v (.string b))(M:AE s z=.v (.int .i64 c))(N:AE s A=.v (.int .i64 d))(L:AE s y=.v (.string e))(O:AE s B=p)(T:Rdg w0 s.mem rd p n size l):
 Ev prog ops w0 o s ⟨.agg [.v (.int .i64 a),.v (.string b),.v (.string e),.v (.int .i64 c),.v (.int .i64 d),p,.v (.bool false),.v (.int .i64 0),.v (.int .i64 0)],[],[],[],rd⟩:=
 Ev.run _ _ m λρ S w j Q=>by
  have C:=AI s ρ q;rw[J]at C;have D:=AI s ρ u;rw[K]at D;have E:=AI s ρ y;rw[L]at E;have F:=AI s ρ z;rw[M]at F;have G:=AI s ρ A;rw[N]at G;have i:=AI s ρ B;rw[O]at i;obtain⟨_,I,g,H,_⟩:=T ρ S w j Q;rw[H]at i;simp only[execOp,R,List.map_toArray,List.map_cons,List.map_nil,C,D,E,F,G,i,SV.c];rw[Sem.run_bind,run_build w 34 _ _ (qg a c d b e I n g)];simp[SV.c,SV.cs,H]
theorem lZ(c:0<=n)(d:n<=3):BOy .mul 3 (.int .i64 n) (.int .i64 4) (.int .i64 (n*4)):=by
 intro p q w
 have:n=0\/n=1\/n=2\/n=3:=by omega
 rcases this with rfl|rfl|rfl|rfl<;>(go_simp;rfl)
theorem r9{m:Int}(e:0<=n)(g:n<=3)(i:0<=m)(j:m<=3):BOy .add 3 (.int .i64 (n*4)) (.int .i64 m) (.int .i64 (n*4+m)):=by
 intro p q w
 have d:n=0\/n=1\/n=2\/n=3:=by omega
 have c:m=0\/m=1\/m=2\/m=3:=by omega
 rcases d with rfl|rfl|rfl|rfl<;>rcases c with rfl|rfl|rfl|rfl<;>(go_simp;rfl)
theorem o2(c:∀x∈a,x<256)(d:∀x∈b,x<256):BOy .eql 9 (.string (AB a)) (.string (AB b)) (.bool (decide (a=b))):=λ_p _q w=>E4 rfl c d _ _ w
theorem sX{u:Value}{F G:Nat->Prop}(g:AO w u a.length 1 (a.map b8) F)(i:AO w v b.length 1 (b.map b8) G)(c:∀x∈a,x<256)(d:∀x∈b,x<256):CBy 67 #[u,v] w (.bool (decide (a=b))):=by
 go_enter func67,ntmps67
 refine A4 ?_;iterate 7 refine AA ?_
 refine AX (by exact Cc rfl gg rfl x7 yL yF (AW g)) ?_;refine AA ?_;refine AX (by exact Cc rfl gg rfl x7 yL yF (AW i)) ?_;refine AX (by exact AK rfl gg rfl rfl (λw=>o2 c d _ _ w)) ?_;iterate 2 refine AA ?_
 exact AG (AD (AH results67 (AF rfl)) λ_ _ e=>⟨rfl,e.1⟩)
def Jj(n:Tr)(c:Bool)(d:Int):Crt:=⟨Ax (AC [1] (AC [0] n)),Az (AC [3,0,1] (AC [0] n)),Az (AC [5,0,1] (AC [0] n)),Ax (AC [4,0] (AC [0] n)),Ax (AC [4,1] (AC [0] n)),BO (AC [6,1] (AC [0] n)),c,d,Cl n*4+CX n⟩
theorem QG{n:Tr}(c:Bt (AC [0,2] (AC [7,0] (AC [0] n)))=.mk tg bd ks)(d:decide (((ks.length:Nat):Int)>0)=true):GJ n=Jj n true (Ax (AC [1] (.mk tg bd ks))):=by
 unfold GJ Jj SY QY JF;rw[c,show isC (.mk tg bd ks)=true from d];rfl
theorem QH{n:Tr}(c:Bt (AC [0,2] (AC [7,0] (AC [0] n)))=.mk tg bd ks)(d:decide (((ks.length:Nat):Int)>0)=false):GJ n=Jj n false 0:=by
 unfold GJ Jj SY QY JF;rw[c,show isC (.mk tg bd ks)=false from d];rfl
theorem KE(h:t.ok):(BO t).length<=1048576:=by have:=(EY h).2;unfold BO;rw[zH];omega
theorem Hv(h:t.ok):∀x∈BO t,x<256:=λx c=>(EY h).1 x (DO c)
theorem T5{w:World}{g:Nat}{S:Nat->Nat->Prop}{m:Mem}{n:Nat}{l:List Value}(j:RelOn g ρ S w (restr rd m))(i:id∈rd)(p:m id=some (.dat (.sl n size l))):AO w (SV.c ρ (.d id)) n size l (S id):=by
 obtain⟨v,e,h⟩:=Gc j i p;simp only[zX,zS]at e;simp only[SV.c,e];exact h
theorem aZ{vs:List SV}{b:Bool}(d:x=b)(rd:List Nat)(j:o.op=.call {callee:=.value (.func f),args:=xs,argTypes:=ats})(c:AQ ops o s)
 (l:xs.toList.map (AE s)=vs)(i:∀args w,(callFunc f args).run P w=.ok (.enter f args) w)(g:∀ρ S w,Bw w0 w->RelOn w0.heap.size ρ S w (restr rd s.mem)->Calls P f (SV.cs ρ vs).toArray w λe m=>e=.returned (.bool x)/\Bw w m):Ev P ops w0 o s ⟨.v (.bool b),[],[],[],rd⟩:=by
 subst d;exact Aj rd j c l i g
theorem hG{F:Nat->Prop}(_M:Laid w)(K:AO w v b.length 1 (b.map b8) F)(H:∀x∈b,x<256)(y:b.length<=1048576)(C:decide ((rdT b).2≠0)=true->Rr=none)(q:∀n0 E,(rdT b).1=n0->(rdT b).2=E->decide (E≠0)=false->n0.ok-> ∀f:Nat->Value,VOk prog w ⟨(.v v::.v (f 1)::.p 2 0::.p 3 0::.v (f 4)::.p 5 0::.v (f 6)::.v (f 7)::.p 8 0::.p 9 0::fv f 113 10 []),AJ [(9,.cells [.v (.int .i64 (Ax (AC [1] (AC [0] n0)))),.v (.string (AB (Az (AC [3,0,1] (AC [0] n0))))),.v (.string (AB (Az (AC [5,0,1] (AC [0] n0))))),.v (.int .i64 (Ax (AC [4,0] (AC [0] n0)))),.v (.int .i64 (Ax (AC [4,1] (AC [0] n0)))),.d 55,.v (.bool false),.v (.int .i64 0),.v (.int .i64 0)] 34),(55,.row (BO (AC [6,1] (AC [0] n0))).length 1 5 (.exact ((BO (AC [6,1] (AC [0] n0))).map b8))),(8,.cells [.fn (AN 0) (.d 28),.fn (AN 1) (.d 28),.fn (AN 2) (.d 28)] 61),(28,.dat (AR (AC [7,0] (AC [0] n0)))),(5,.cells [.fn (AN 0) (.d 16),.fn (AN 1) (.d 16),.fn (AN 2) (.d 16)] 61),(16,.dat (AR n0)),(3,.cells (zs 64) 22),(2,.cells [.v (.int .i64 0),.v (.string (ByteArray.mk #[])),.v (.string (ByteArray.mk #[])),.v (.int .i64 0),.v (.int .i64 0),.v (.slice none 0 0),.v (.bool false),.v (.int .i64 0),.v (.int .i64 0)] 34)]⟩ (Cm 6 (Ct f34)) (QB prog f34 w (λe c=>RdC w c e Rr/\Bw w c))):Calls prog 34 #[v] w (λe c=>RdC w c e Rr/\Bw w c):=by
 try simp only[fv,zs,Nat.reduceAdd]
 obtain⟨n0,A⟩:∃n0,(rdT b).1=n0:=⟨_,rfl⟩
 obtain⟨E,z⟩:∃E,(rdT b).2=E:=⟨_,rfl⟩
 have j:=I3 H y;rw[A]at j
 have G:∀c,Bw w c->Calls prog 25 #[v] c λe I=> ∃u,e=.returned (.tuple #[u,.int .i64 E])/\Ae c I u (AR n0)/\Bw c I:=λc hb=>by
  have:=Uk c (A5 K hb) H y;rw[A,z]at this;exact this
 obtain⟨p,m⟩:∃p,decide (E≠0)=p:=⟨_,rfl⟩
 have B:=Af [6,1] (Af [0] j)
 go_enter func34,ntmps34
 refine A4 ?_;iterate 2 refine aT ?_
 iterate 7 refine AA ?_
 refine AX (by exact DL (D:=AR n0) (ys:=[.int .i64 E]) [] rfl rfl gg rfl (eo func25) (λρ S c hb g=>G c hb)) ?_;iterate 4 refine AA ?_
 refine O4 ?_;iterate 6 refine AA ?_
 refine AX (by exact BB rfl gg rfl rfl m) ?_;refine aT ?_;cases p
 .iterate 4 refine aT ?_
  refine AA ?_;refine AX (by exact BL rfl rfl gg rfl (e:=3) (l:=CE [0]) rfl (by decide) (λ_=>by kernel_rfl)) ?_;refine AX (by exact A0 (AR (AC [0] n0)) [16,24] rfl rfl gg rfl (eo func61) (λρ S c hb g=>Ex 16 24 [0] g (by simp) (by simp) rfl rfl)) ?_;refine AA ?_;refine O4 ?_;iterate 3 refine aT ?_
  refine AA ?_;refine AX (by exact BL rfl rfl gg rfl (e:=3) (l:=CE [7,0]) rfl (by decide) (λ_=>by kernel_rfl)) ?_;refine AX (by exact A0 (AR (AC [7,0] (AC [0] n0))) [25,27] rfl rfl gg rfl (eo func61) (λρ S c hb g=>Ex 25 27 [7,0] g (by simp) (by simp) rfl rfl)) ?_;refine AA ?_;refine O4 ?_;iterate 3 refine aT ?_
  refine AA ?_;refine On ?_;refine AX (by exact A0 (AR (AC [1] (AC [0] n0))) [25,30] rfl rfl gg rfl (eo func61) (λρ S c hb g=>Ex 25 30 [1] g (by simp) (by simp) rfl rfl)) ?_;refine AX (by exact Aj (v:=.int .i64 (Ax (AC [1] (AC [0] n0)))) [31] rfl gg rfl (eo func62) (λρ S c hb g=>LN 31 (Af _ ((Af _ (j)))) g (by simp) rfl)) ?_;refine AA ?_;refine AX (by exact BL rfl rfl gg rfl (e:=3) (l:=CE [3,0,1]) rfl (by decide) (λ_=>by kernel_rfl)) ?_;refine AX (by exact A0 (AR (AC [3,0,1] (AC [0] n0))) [25,34] rfl rfl gg rfl (eo func61) (λρ S c hb g=>Ex 25 34 [3,0,1] g (by simp) (by simp) rfl rfl)) ?_;refine AX (by exact aV rfl gg rfl rfl) ?_;refine AX (by exact Cc rfl gg rfl x7 yL yF (WW (id:=35) rfl)) ?_;refine AA ?_;refine AX (by exact BL rfl rfl gg rfl (e:=3) (l:=CE [4,0]) rfl (by decide) (λ_=>by kernel_rfl)) ?_;refine AX (by exact A0 (AR (AC [4,0] (AC [0] n0))) [25,39] rfl rfl gg rfl (eo func61) (λρ S c hb g=>Ex 25 39 [4,0] g (by simp) (by simp) rfl rfl)) ?_;refine AX (by exact Aj (v:=.int .i64 (Ax (AC [4,0] (AC [0] n0)))) [40] rfl gg rfl (eo func62) (λρ S c hb g=>LN 40 (Af _ ((Af _ (j)))) g (by simp) rfl)) ?_;refine AA ?_;refine AX (by exact BL rfl rfl gg rfl (e:=3) (l:=CE [4,1]) rfl (by decide) (λ_=>by kernel_rfl)) ?_;refine AX (by exact A0 (AR (AC [4,1] (AC [0] n0))) [25,43] rfl rfl gg rfl (eo func61) (λρ S c hb g=>Ex 25 43 [4,1] g (by simp) (by simp) rfl rfl)) ?_;refine AX (by exact Aj (v:=.int .i64 (Ax (AC [4,1] (AC [0] n0)))) [44] rfl gg rfl (eo func62) (λρ S c hb g=>LN 44 (Af _ ((Af _ (j)))) g (by simp) rfl)) ?_;refine AA ?_;refine AX (by exact BL rfl rfl gg rfl (e:=3) (l:=CE [5,0,1]) rfl (by decide) (λ_=>by kernel_rfl)) ?_;refine AX (by exact A0 (AR (AC [5,0,1] (AC [0] n0))) [25,47] rfl rfl gg rfl (eo func61) (λρ S c hb g=>Ex 25 47 [5,0,1] g (by simp) (by simp) rfl rfl)) ?_;refine AX (by exact aV rfl gg rfl rfl) ?_;refine AX (by exact Cc rfl gg rfl x7 yL yF (WW (id:=48) rfl)) ?_;refine AA ?_;refine AX (by exact BL rfl rfl gg rfl (e:=3) (l:=CE [6,1]) rfl (by decide) (λ_=>by kernel_rfl)) ?_;refine AX (by exact A0 (AR (AC [6,1] (AC [0] n0))) [25,52] rfl rfl gg rfl (eo func61) (λρ S c hb g=>Ex 25 52 [6,1] g (by simp) (by simp) rfl rfl)) ?_;refine AX (by exact A0 (Dat.sl (BO (AC [6,1] (AC [0] n0))).length 1 ((BO (AC [6,1] (AC [0] n0))).map b8)) [53] rfl rfl gg rfl (eo func64) (λρ S c hb g=>bN 53 (Af _ ((Af _ (j)))) g (by simp) rfl)) ?_;refine AX (by exact Cs [54] rfl rfl gg rfl (eo func63) (n:=(BO (AC [6,1] (AC [0] n0))).length) (size:=1) (l:=(BO (AC [6,1] (AC [0] n0))).map b8) (by simp) (λρ S c hb g=>Nl c (T5 (id:=54) g (by simp) rfl) (by have:=KE B;omega))) ?_;refine AX (by exact om rfl gg rfl rfl rfl rfl rfl rfl (BI rfl)) ?_;refine AA ?_;refine I8 ?_;refine aT ?_;refine Ea (λi=>i==0||i==2||i==3||i==5||i==8||i==9) [7,15,18,24,27,30,34,39,43,47,52,25,31,35,40,44,48,53,54] (λf=>by simp[B0];exact rfl) (by simp[BQ];exact rfl) λf=> ?_
  exact q n0 E A z m j f
 .refine aT ?_
  have L:=C (by rw[z];exact m);subst L;iterate 2 refine aT ?_
  refine MG ?_;refine I7 ?_;refine I8 ?_;iterate 3 refine AA ?_
  exact AG (AD (BX results34 (Am rfl rfl zB rfl yN rfl) (Ac rfl rfl y9 rfl zI rfl rfl) (AF rfl)) λ_ _ J=>⟨rfl,J.1⟩)
theorem g9(C:n0.ok)(c:∀g E,GJ n0=Jj n0 g E-> ∀f:Nat->Value,VOk prog w ⟨(.v v::.v (f 1)::.p 2 0::.p 3 0::.v (f 4)::.p 5 0::.v (f 6)::.v (f 7)::.p 8 0::.p 9 0::fv f 113 10 []),AJ [(9,.cells [.v (.int .i64 (Ax (AC [1] (AC [0] n0)))),.v (.string (AB (Az (AC [3,0,1] (AC [0] n0))))),.v (.string (AB (Az (AC [5,0,1] (AC [0] n0))))),.v (.int .i64 (Ax (AC [4,0] (AC [0] n0)))),.v (.int .i64 (Ax (AC [4,1] (AC [0] n0)))),.d 55,.v (.bool g),.v (.int .i64 E),.v (.int .i64 0)] 34),(55,.row (BO (AC [6,1] (AC [0] n0))).length 1 5 (.exact ((BO (AC [6,1] (AC [0] n0))).map b8))),(8,.cells [.fn (AN 0) (.d 28),.fn (AN 1) (.d 28),.fn (AN 2) (.d 28)] 61),(28,.dat (AR (AC [7,0] (AC [0] n0)))),(5,.cells [.fn (AN 0) (.d 16),.fn (AN 1) (.d 16),.fn (AN 2) (.d 16)] 61),(16,.dat (AR n0)),(3,.cells (zs 64) 22),(2,.cells [.v (.int .i64 0),.v (.string (ByteArray.mk #[])),.v (.string (ByteArray.mk #[])),.v (.int .i64 0),.v (.int .i64 0),.v (.slice none 0 0),.v (.bool false),.v (.int .i64 0),.v (.int .i64 0)] 34)]⟩ (Cm 7 (Ct f34)) (QB prog f34 w (λe y=>RdC w y e Rr/\Bw w y)))(f:Nat->Value):VOk prog w ⟨(.v v::.v (f 1)::.p 2 0::.p 3 0::.v (f 4)::.p 5 0::.v (f 6)::.v (f 7)::.p 8 0::.p 9 0::fv f 113 10 []),AJ [(9,.cells [.v (.int .i64 (Ax (AC [1] (AC [0] n0)))),.v (.string (AB (Az (AC [3,0,1] (AC [0] n0))))),.v (.string (AB (Az (AC [5,0,1] (AC [0] n0))))),.v (.int .i64 (Ax (AC [4,0] (AC [0] n0)))),.v (.int .i64 (Ax (AC [4,1] (AC [0] n0)))),.d 55,.v (.bool false),.v (.int .i64 0),.v (.int .i64 0)] 34),(55,.row (BO (AC [6,1] (AC [0] n0))).length 1 5 (.exact ((BO (AC [6,1] (AC [0] n0))).map b8))),(8,.cells [.fn (AN 0) (.d 28),.fn (AN 1) (.d 28),.fn (AN 2) (.d 28)] 61),(28,.dat (AR (AC [7,0] (AC [0] n0)))),(5,.cells [.fn (AN 0) (.d 16),.fn (AN 1) (.d 16),.fn (AN 2) (.d 16)] 61),(16,.dat (AR n0)),(3,.cells (zs 64) 22),(2,.cells [.v (.int .i64 0),.v (.string (ByteArray.mk #[])),.v (.string (ByteArray.mk #[])),.v (.int .i64 0),.v (.int .i64 0),.v (.slice none 0 0),.v (.bool false),.v (.int .i64 0),.v (.int .i64 0)] 34)]⟩ (Cm 6 (Ct f34)) (QB prog f34 w (λe y=>RdC w y e Rr/\Bw w y)):=by
 try simp only[fv,zs,Nat.reduceAdd]
 obtain⟨u,q,j,A⟩:∃tg bd ks,Bt (AC [0,2] (AC [7,0] (AC [0] n0)))=Tr.mk tg bd ks:=by cases Bt (AC [0,2] (AC [7,0] (AC [0] n0)))with|mk tg bd ks=>exact⟨tg,bd,ks,rfl⟩
 have B:(Tr.mk u q j).ok:=A▸K9 (Af _ (Af _ (Af _ C)));obtain⟨g,m⟩:∃p,decide (((j.length:Nat):Int)>0)=p:=⟨_,rfl⟩
 iterate 3 refine aT ?_
 refine AA ?_;refine AX (by exact BL rfl rfl gg rfl (e:=3) (l:=CE [0,2]) rfl (by decide) (λ_=>by kernel_rfl)) ?_;refine AX (by exact A0 (AR (AC [0,2] (AC [7,0] (AC [0] n0)))) [28,58] rfl rfl gg rfl (eo func61) (λρ S y hb z=>Ex 28 58 [0,2] z (by simp) (by simp) rfl rfl)) ?_;refine AX (by exact Al (D:=AR (.mk u q j)) [59] rfl rfl gg rfl (eo func65) (λρ S y hb z=>A▸UJ 59 (Af _ ((Af _ ((Af _ (C)))))) z (by simp) rfl)) ?_;refine AA ?_;refine O4 ?_;iterate 3 refine aT ?_
 refine AA ?_;refine AX (by exact BK rfl gg rfl rfl yO rfl rfl) ?_;refine AX (by exact Jg rfl gg rfl yO (Ka (ks:=j) rfl)) ?_;refine AX (by exact BV rfl gg rfl rfl m) ?_;refine aT ?_;cases g
 .iterate 2 refine aT ?_
  refine Ea (λi=>i==0||i==2||i==3||i==5||i==8||i==9) [10,58,59,60,66,67] (λf=>by simp[B0];exact rfl) (by simp[BQ];exact rfl) λf=> ?_
  first|exact c _ _ (QG A m) f|exact c _ _ (QH A m) f
 .iterate 2 refine aT ?_
  refine AA ?_;refine On ?_;refine AX (by exact A0 (AR (AC [1] (.mk u q j))) [60,66] rfl rfl gg rfl (eo func61) (λρ S y hb z=>Ex 60 66 [1] z (by simp) (by simp) rfl rfl)) ?_;refine AX (by exact Aj (v:=.int .i64 (Ax (AC [1] (.mk u q j)))) [67] rfl gg rfl (eo func62) (λρ S y hb z=>LN 67 (Af _ (B)) z (by simp) rfl)) ?_;refine AA ?_;refine AX (by exact BA rfl gg rfl rfl rfl sizeOf4 rfl (by simp) rfl) ?_;iterate 2 refine AA ?_
  refine aT ?_;refine Ea (λi=>i==0||i==2||i==3||i==5||i==8||i==9) [10,58,59,60,66,67] (λf=>by simp[B0];exact rfl) (by simp[BQ];exact rfl) λf=> ?_
  first|exact c _ _ (QG A m) f|exact c _ _ (QH A m) f
theorem g8{g:Bool}{G:Int}(y:n0.ok)(C:(wiB (CX n0) 0 3 && wiB (Cl n0) 0 3)=false->Rr=none)(A:wiB (CX n0) 0 3=true->wiB (Cl n0) 0 3=true-> ∀c,c=Jj n0 g G-> ∀f:Nat->Value,VOk prog w ⟨(.v v::.v (f 1)::.p 2 0::.p 3 0::.v (f 4)::.p 5 0::.v (f 6)::.v (f 7)::.v (f 8)::.p 9 0::fv f 113 10 []),AJ [(9,.cells [.v (.int .i64 c.se),.v (.string (AB c.is)),.v (.string (AB c.su)),.v (.int .i64 c.fr),.v (.int .i64 c.to),.d 55,.v (.bool c.ca),.v (.int .i64 c.pa),.v (.int .i64 c.us)] 34),(55,.row c.ky.length 1 5 (.exact (c.ky.map b8))),(5,.cells [.fn (AN 0) (.d 16),.fn (AN 1) (.d 16),.fn (AN 2) (.d 16)] 61),(16,.dat (AR n0)),(3,.cells (zs 64) 22),(2,.cells [.v (.int .i64 0),.v (.string (ByteArray.mk #[])),.v (.string (ByteArray.mk #[])),.v (.int .i64 0),.v (.int .i64 0),.v (.slice none 0 0),.v (.bool false),.v (.int .i64 0),.v (.int .i64 0)] 34)]⟩ (Cm 10 (Ct f34)) (QB prog f34 w (λe q=>RdC w q e Rr/\Bw w q)))(f:Nat->Value):VOk prog w ⟨(.v v::.v (f 1)::.p 2 0::.p 3 0::.v (f 4)::.p 5 0::.v (f 6)::.v (f 7)::.p 8 0::.p 9 0::fv f 113 10 []),AJ [(9,.cells [.v (.int .i64 (Ax (AC [1] (AC [0] n0)))),.v (.string (AB (Az (AC [3,0,1] (AC [0] n0))))),.v (.string (AB (Az (AC [5,0,1] (AC [0] n0))))),.v (.int .i64 (Ax (AC [4,0] (AC [0] n0)))),.v (.int .i64 (Ax (AC [4,1] (AC [0] n0)))),.d 55,.v (.bool g),.v (.int .i64 G),.v (.int .i64 0)] 34),(55,.row (BO (AC [6,1] (AC [0] n0))).length 1 5 (.exact ((BO (AC [6,1] (AC [0] n0))).map b8))),(8,.cells [.fn (AN 0) (.d 28),.fn (AN 1) (.d 28),.fn (AN 2) (.d 28)] 61),(28,.dat (AR (AC [7,0] (AC [0] n0)))),(5,.cells [.fn (AN 0) (.d 16),.fn (AN 1) (.d 16),.fn (AN 2) (.d 16)] 61),(16,.dat (AR n0)),(3,.cells (zs 64) 22),(2,.cells [.v (.int .i64 0),.v (.string (ByteArray.mk #[])),.v (.string (ByteArray.mk #[])),.v (.int .i64 0),.v (.int .i64 0),.v (.slice none 0 0),.v (.bool false),.v (.int .i64 0),.v (.int .i64 0)] 34)]⟩ (Cm 7 (Ct f34)) (QB prog f34 w (λe q=>RdC w q e Rr/\Bw w q)):=by
 try simp only[fv,zs,Nat.reduceAdd]
 obtain⟨E,m⟩:∃p,wiB (Ax (Bt (AC [1,2] (AC [7,0] (AC [0] n0))))) 0 3=p:=⟨_,rfl⟩
 obtain⟨F,j⟩:∃p,wiB (Ax (Bt (AC [2,1] (AC [7,0] (AC [0] n0))))) 0 3=p:=⟨_,rfl⟩
 have z:(E && F)=false->Rr=none:=λh=>C (by rw[<-h,<-m,<-j];rfl)
 iterate 2 refine aT ?_
 refine AA ?_;refine AX (by exact BL rfl rfl gg rfl (e:=3) (l:=CE [1,2]) rfl (by decide) (λ_=>by kernel_rfl)) ?_;refine AX (by exact A0 (AR (AC [1,2] (AC [7,0] (AC [0] n0)))) [28,72] rfl rfl gg rfl (eo func61) (λρ S q hb u=>Ex 28 72 [1,2] u (by simp) (by simp) rfl rfl)) ?_;refine AX (by exact Al (D:=AR (Bt (AC [1,2] (AC [7,0] (AC [0] n0))))) [73] rfl rfl gg rfl (eo func65) (λρ S q hb u=>UJ 73 (Af _ ((Af _ ((Af _ (y)))))) u (by simp) rfl)) ?_;refine AX (by exact Aj (v:=.int .i64 (Ax (Bt (AC [1,2] (AC [7,0] (AC [0] n0)))))) [74] rfl gg rfl (eo func62) (λρ S q hb u=>LN 74 (K9 (Af _ ((Af _ ((Af _ (y))))))) u (by simp) rfl)) ?_;refine AA ?_;refine AX (by exact BL rfl rfl gg rfl (e:=3) (l:=CE [2,1]) rfl (by decide) (λ_=>by kernel_rfl)) ?_;refine AX (by exact A0 (AR (AC [2,1] (AC [7,0] (AC [0] n0)))) [28,77] rfl rfl gg rfl (eo func61) (λρ S q hb u=>Ex 28 77 [2,1] u (by simp) (by simp) rfl rfl)) ?_;refine AX (by exact Al (D:=AR (Bt (AC [2,1] (AC [7,0] (AC [0] n0))))) [78] rfl rfl gg rfl (eo func65) (λρ S q hb u=>UJ 78 (Af _ ((Af _ ((Af _ (y)))))) u (by simp) rfl)) ?_;refine AX (by exact Aj (v:=.int .i64 (Ax (Bt (AC [2,1] (AC [7,0] (AC [0] n0)))))) [79] rfl gg rfl (eo func62) (λρ S q hb u=>LN 79 (K9 (Af _ ((Af _ ((Af _ (y))))))) u (by simp) rfl)) ?_;iterate 5 refine AA ?_
 have h3:(E=true/\F=true)\/(E=false\/(E=true/\F=false)):=by cases E<;>cases F<;>simp
 rcases h3 with⟨rfl,rfl⟩|h3
 .skip
  iterate 2 refine AA ?_
  refine AX (by exact CI m rfl gg rfl (eo func66) (λq B=>EF q)) ?_;refine k_9 ?_;iterate 2 refine AA ?_
  refine AX (by first|exact Ev.skip (λ_=>rfl)|exact CI j rfl (λ_=>rfl) rfl (eo func66) (λq B=>EF q)) ?_;refine Bz ?_;iterate 6 refine AA ?_
  refine AX (by exact AK rfl gg rfl rfl (λw=>lZ (Cv.1 j).1 (Cv.1 j).2 _ _ w)) ?_;refine AA ?_;refine AX (by exact AK rfl gg rfl rfl (λw=>r9 (Cv.1 j).1 (Cv.1 j).2 (Cv.1 m).1 (Cv.1 m).2 _ _ w)) ?_;iterate 2 refine AA ?_
  refine aT ?_;refine Ea (λi=>i==0||i==2||i==3||i==5||i==9) [8,28,72,73,74,77,78,79] (λf=>by simp[B0];exact rfl) (by simp[BQ];exact rfl) λf=> ?_
  exact A m j _ rfl f
 .have I:Rr=none:=z (by rcases h3 with rfl|⟨rfl,rfl⟩<;>simp)
  subst I;rcases h3 with rfl|⟨rfl,rfl⟩<;>
  (
   iterate 2 refine AA ?_
   refine AX (by exact CI m rfl gg rfl (eo func66) (λq B=>EF q)) ?_;refine k_9 ?_;iterate 2 refine AA ?_
   refine AX (by first|exact Ev.skip (λ_=>rfl)|exact CI j rfl (λ_=>rfl) rfl (eo func66) (λq B=>EF q)) ?_;refine Bz ?_;iterate 4 refine aT ?_
   refine MG ?_;refine I7 ?_;refine I8 ?_;iterate 3 refine AA ?_
   exact AG (AD (BX results34 (Am rfl rfl zB rfl yN rfl) (Ac rfl rfl y9 rfl zI rfl rfl) (AF rfl)) λ_ _ H=>⟨rfl,H.1⟩)
  )
theorem g7{F:Nat->Prop}{c:Crt}(hL:Laid w)(hv:AO w v b.length 1 (b.map b8) F)(h8:∀x∈b,x<256)(hok:n0.ok)(i8:∀x∈c.is,x<256)(il:c.is.length<=1048576)(s8:∀x∈c.su,x<256)(sl:c.su.length<=1048576)(k8:∀x∈c.ky,x<256)(g:Rr=GF c b (sgT (BO (AC [2] n0))))(f:Nat->Value):VOk prog w ⟨(.v v::.v (f 1)::.p 2 0::.p 3 0::.v (f 4)::.p 5 0::.v (f 6)::.v (f 7)::.v (f 8)::.p 9 0::fv f 113 10 []),AJ [(9,.cells [.v (.int .i64 c.se),.v (.string (AB c.is)),.v (.string (AB c.su)),.v (.int .i64 c.fr),.v (.int .i64 c.to),.d 55,.v (.bool c.ca),.v (.int .i64 c.pa),.v (.int .i64 c.us)] 34),(55,.row c.ky.length 1 5 (.exact (c.ky.map b8))),(5,.cells [.fn (AN 0) (.d 16),.fn (AN 1) (.d 16),.fn (AN 2) (.d 16)] 61),(16,.dat (AR n0)),(3,.cells (zs 64) 22),(2,.cells [.v (.int .i64 0),.v (.string (ByteArray.mk #[])),.v (.string (ByteArray.mk #[])),.v (.int .i64 0),.v (.int .i64 0),.v (.slice none 0 0),.v (.bool false),.v (.int .i64 0),.v (.int .i64 0)] 34)]⟩ (Cm 10 (Ct f34)) (QB prog f34 w (λe j=>RdC w j e Rr/\Bw w j)):=by
 try simp only[fv,zs,Nat.reduceAdd]
 have hsg:=Af [2] hok;refine aT ?_;rcases h_s:sgT (BO (AC [2] n0))with _|⟨r,t⟩<;>rw[h_s]at g
 .subst g
  refine aT ?_;refine AA ?_;refine SR ?_;refine XI ?_;refine Wn ?_;refine Ww ?_;iterate 11 refine AA ?_
  refine KN ?_;iterate 2 refine AA ?_
  refine O2 ?_;refine Bz ?_;iterate 3 refine AA ?_
  refine O5 ?_;refine AA ?_;refine O3 ?_;refine Bz ?_;iterate 4 refine aT ?_
  refine MG ?_;refine I7 ?_;refine I8 ?_;iterate 3 refine AA ?_
  refine AG ?_;refine AD (BX results34 (Am rfl rfl zB rfl yN rfl) (Ac rfl rfl y9 rfl zI rfl rfl) (AF rfl)) ?_;intro ρ j i;first|exact⟨rfl,i.1⟩|exact⟨⟨(ρ 55).val,rfl,B8 i rfl⟩,i.1⟩
 .skip
  refine aT ?_;refine AA ?_;refine SR ?_;refine XI ?_;refine Wn ?_;refine Ww ?_;iterate 9 refine AA ?_
  obtain⟨z,h_r⟩:∃z,C2 c=z:=⟨_,rfl⟩
  obtain⟨y,h_e⟩:∃y,decide ((wrT (c.whole r t)).1=b)=y:=⟨_,rfl⟩
  rw[GF,h_r,h_e]at g;have m:z=false\/(z=true/\y=false)\/(z=true/\y=true):=by cases z<;>cases y<;>simp
  rcases m with rfl|⟨rfl,rfl⟩|⟨rfl,rfl⟩
  .simp only[IN,cond_true]at g
   subst g;iterate 2 refine AA ?_
   refine KN ?_;iterate 2 refine AA ?_
   refine O2 ?_;refine Bz ?_;iterate 3 refine AA ?_
   refine O5 ?_;refine AA ?_;refine O3 ?_;refine Bz ?_;iterate 4 refine aT ?_
   refine MG ?_;refine I7 ?_;refine I8 ?_;iterate 3 refine AA ?_
   refine AG ?_;refine AD (BX results34 (Am rfl rfl zB rfl yN rfl) (Ac rfl rfl y9 rfl zI rfl rfl) (AF rfl)) ?_;intro ρ j i;first|exact⟨rfl,i.1⟩|exact⟨⟨(ρ 55).val,rfl,B8 i rfl⟩,i.1⟩
  .simp only[z5,IN,cond_false,cond_true]at g
   subst g;have hF:=KD i8 s8 k8 h_r;iterate 2 refine AA ?_
   refine KN ?_;iterate 2 refine AA ?_
   refine O2 ?_;refine Bz ?_;iterate 3 refine AA ?_
   refine O5 ?_;refine AA ?_;refine O3 ?_;refine Bz ?_;iterate 4 refine aT ?_
   refine MG ?_;refine I7 ?_;refine I8 ?_;iterate 3 refine AA ?_
   refine AG ?_;refine AD (BX results34 (Am rfl rfl zB rfl yN rfl) (Ac rfl rfl y9 rfl zI rfl rfl) (AF rfl)) ?_;intro ρ j i;first|exact⟨rfl,i.1⟩|exact⟨⟨(ρ 55).val,rfl,B8 i rfl⟩,i.1⟩
  .simp only[z5,cond_false]at g
   subst g;have hF:=KD i8 s8 k8 h_r;iterate 2 refine AA ?_
   refine KN ?_;iterate 2 refine AA ?_
   refine O2 ?_;refine Bz ?_;iterate 3 refine AA ?_
   refine O5 ?_;refine AA ?_;refine O3 ?_;refine Bz ?_;iterate 5 refine aT ?_
   iterate 2 refine AA ?_
   refine I8 ?_;iterate 3 refine AA ?_
   refine AG ?_;refine AD (BX results34 (Am rfl rfl zB rfl yN rfl) (Ac rfl rfl y9 rfl zI rfl rfl) (AF rfl)) ?_;intro ρ j i;first|exact⟨rfl,i.1⟩|exact⟨⟨(ρ 55).val,rfl,B8 i rfl⟩,i.1⟩
theorem WO{F:Nat->Prop}(u:Laid w)(y:AO w v b.length 1 (b.map b8) F)(q:∀x∈b,x<256)(m:b.length<=1048576):Calls prog 34 #[v] w λe z=>RdC w z e (rdC b)/\Bw w z:=by
 refine hG w u y q m (λh=>by rw[rdC,h];rfl) λn0 E G D l d f=> ?_
 have p:rdC b=Gz n0 b:=by rw[rdC,G,D,l];rfl
 refine g9 w d (λg I C f=> ?_) f;refine g8 w d (λh=>by rw[p,Gz,h];rfl) (λA B c H f=> ?_) f;subst H;have i:=EY (Af [3,0,1] (Af [0] d));have j:=EY (Af [5,0,1] (Af [0] d));exact g7 w u y q d i.1 i.2 j.1 j.2 (Hv (Af [6,1] (Af [0] d))) (by rw[p,Gz,A,B,C];rfl) f
end Go.Proofs.YtafbhakmkbehiaaGreatDoor
