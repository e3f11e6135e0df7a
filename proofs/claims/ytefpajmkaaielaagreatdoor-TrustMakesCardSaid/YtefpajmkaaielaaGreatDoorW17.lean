import Derived.Test.YtefpajmkaaielaaGreatDoorW16
open Go.Proofs.Tryz
set_option maxHeartbeats 4000000
set_option maxRecDepth 100000
namespace Go.Proofs.YtefpajmkaaielaaGreatDoor
open Go.RowKit Go.Vx
variable(w:World){ops:Array Oper}{xs:Array Operand}{ats:Array TypeId}{x:Bool}{f:FuncId}{n tg:Int}{a b bd rd:List Nat}{ks:List Tr}{news vs:List Value}{h id k r size:Nat}{ρ:Nat→Nm}{S:Nat→Prop}{o:Oper}{Rr:Option (Crt×Nat×Nat)}{P:Program}{n0 t:Tr}{bt:TypeId}{s:VS}{v:Value}{w0:World}
open TollMont
open Go.Toll (Gw)
open TollEc (F pp cb Jp Pt AZ add base nn neg)
open TollSha (sha Ap)
theorem XO{dT sT e:TypeId}{x y:Operand}{off len cap:Nat}{l:List SV}{sv:SV}(ho:o.op= .call {callee:= .builtin .copy,args:= #[x,y],argTypes:= #[dT,sT]})(hgd:AR ops o s)
 (hx:AC s x= .s id off len cap)(hm:s.mem id=some (.cells l bt))(hy:AC s y=sv)(hr:Rdg w0 s.mem rd sv k 1 news)(hu:P.underlying dT=some (.slice e))(hs:(P.info? e).map (·.size)=some 1)
 (hlen:news.length=k)(hk:k≤len)(hfit:off+k≤l.length)(h1:news.all (·.oneCell')=true)(hpos:0<k):
 Ev P ops w0 o s ⟨.v (.int .i64 (k:Nat)),[(id,.cells (l.take off++news.map .v++l.drop (off+k)) bt)],[id],[],id::rd⟩:=
 Ev.wrv id _ _ _ _ hgd hm (by simp) fun ρ S w hb hR=>by
  have e1:=AH s ρ x;rw[hx]at e1;have e2:=AH s ρ y;rw[hy]at e2;obtain⟨hg0,hg⟩:=A6 hR hm (by simp)
  have hR2:RelOn w0.heap.size ρ S w (restr rd s.mem):=by
   have:=hR.restr rd
   have e:restr rd (restr (id::rd) s.mem)=restr rd s.mem:=by
    funext j;unfold restr
    by_cases h:j∈rd<;>simp[h]
   rwa [e]at this
  obtain⟨S1,ao,cp,h3,h4,h5,h6⟩:=hr ρ S w hb hR2;rcases h6 with h6|⟨a,rfl,_,h6⟩
  ·exfalso;rw[h6]at hlen;simp at hlen;omega
  ·rw[h3]at e2
   simp only[SV.c]at e1;have hrun:=run_copy_row (P:=P) w dT sT o.type e (ρ id).g off len cap a k cp (SV.cs ρ l).toArray bt news hu hs hg (by rw[hlen];exact(Nat.min_eq_left hk).symm) h6 (by rw[hlen];simp[A3];omega) (fun u hu=>List.all_eq_true.1 h1 u hu);refine⟨True.intro,w.setRow (ρ id).g ((SV.cs ρ l).toArray.toList.take off++news++(SV.cs ρ l).toArray.toList.drop (off+news.length)).toArray,?_,⟨rfl,rfl,rfl,by simp,fun k hk=>setRow_other w _ k _ hk⟩,hg0,(setRow_heap w (ρ id).g _ _ _ _ hg).trans ?_⟩
   ·unfold execOp
    simp only[ho,resolve,invoke,builtin,Sem.run_bind,Sem.run_pure,Result.andThen_ok,List.map_toArray,List.map_cons,List.map_nil,e1,e2,hrun,SV.c,goInt,hlen]
   ·simp[Cb,A3,hlen,List.map_take,List.map_drop,SV.c,Function.comp_def]
def tbB(t:Tr):Nat:=TollBy.beV (tbN t).1 0
def IZ:List Tr→Option (Nat×Nat)
 | [a,b]=>bif decide ((tbN a).2≠0)then none else bif decide ((tbN b).2≠0)then none else some (tbB a,tbB b)
 |_=>none
def Jx:Tr→Option (Nat×Nat)
 | .mk t _ ks=>bif decide (t≠48)then none else IZ ks
def sgT(b:List Nat):Option (Nat×Nat):=bif decide ((rdT b).2≠0)then none else Jx (rdT b).1
def ZV:Value:= .agg #[.int .u8 0,.int .u8 0,.int .u8 0,.int .u8 0,.int .u8 0,.int .u8 0,.int .u8 0,.int .u8 0,.int .u8 0,.int .u8 0,.int .u8 0,.int .u8 0,.int .u8 0,.int .u8 0,.int .u8 0,.int .u8 0,.int .u8 0,.int .u8 0,.int .u8 0,.int .u8 0,.int .u8 0,.int .u8 0,.int .u8 0,.int .u8 0,.int .u8 0,.int .u8 0,.int .u8 0,.int .u8 0,.int .u8 0,.int .u8 0,.int .u8 0,.int .u8 0,.int .u8 0,.int .u8 0,.int .u8 0,.int .u8 0,.int .u8 0,.int .u8 0,.int .u8 0,.int .u8 0,.int .u8 0,.int .u8 0,.int .u8 0,.int .u8 0,.int .u8 0,.int .u8 0,.int .u8 0,.int .u8 0,.int .u8 0,.int .u8 0,.int .u8 0,.int .u8 0,.int .u8 0,.int .u8 0,.int .u8 0,.int .u8 0,.int .u8 0,.int .u8 0,.int .u8 0,.int .u8 0,.int .u8 0,.int .u8 0,.int .u8 0,.int .u8 0]
def sgV:Option (Nat×Nat)→Value
 |some (r,t)=> .tuple #[PT r t,.int .i64 0]
 |none=> .tuple #[ZV,.int .i64 2]
theorem ei: ∀{ks:List Tr},ks.length≠2→IZ ks=none
 | [],_=>rfl
 | [_],_=>rfl
 | [_,_],h=>absurd rfl h
 |_::_::_::_,_=>rfl
theorem eh: ∀{ks:List Tr},ks.length=2→ ∃a b,ks=[a,b]
 | [a,b],_=>⟨a,b,rfl⟩
 | [],h=>by simp at h
 | [_],h=>by simp at h
 |_::_::_::_,h=>by simp at h
theorem SY(hok:t.ok):tbB t<R:=by
 have:=TollBy.beV_lt (tbN t).1 (SU hok);rw[SX]at this;exact Nat.lt_of_lt_of_eq this (by decide)
theorem aZ(hok:t.ok):Value.agg ((tbN t).1.map b8).toArray=B32 (tbB t):=by rw[OB,tbB,Hv (SX t) (SU hok)]
theorem qs:prog.built 63 []=some #[.int .u8 0,.int .u8 0,.int .u8 0,.int .u8 0,.int .u8 0,.int .u8 0,.int .u8 0,.int .u8 0,.int .u8 0,.int .u8 0,.int .u8 0,.int .u8 0,.int .u8 0,.int .u8 0,.int .u8 0,.int .u8 0,.int .u8 0,.int .u8 0,.int .u8 0,.int .u8 0,.int .u8 0,.int .u8 0,.int .u8 0,.int .u8 0,.int .u8 0,.int .u8 0,.int .u8 0,.int .u8 0,.int .u8 0,.int .u8 0,.int .u8 0,.int .u8 0,.int .u8 0,.int .u8 0,.int .u8 0,.int .u8 0,.int .u8 0,.int .u8 0,.int .u8 0,.int .u8 0,.int .u8 0,.int .u8 0,.int .u8 0,.int .u8 0,.int .u8 0,.int .u8 0,.int .u8 0,.int .u8 0,.int .u8 0,.int .u8 0,.int .u8 0,.int .u8 0,.int .u8 0,.int .u8 0,.int .u8 0,.int .u8 0,.int .u8 0,.int .u8 0,.int .u8 0,.int .u8 0,.int .u8 0,.int .u8 0,.int .u8 0,.int .u8 0]:=by kernel_rfl
theorem qR{c:List Value}{w:World}(h1:(ρ id).val= .agg c.toArray)(h2:DN w S t c):SV.c ρ (.fn (AU 0) (.d id))= .int .i64 (Sb t):=by
 cases t with
 |mk tg b ks=>
  rw[DN]at h2;obtain⟨_,_,_,rfl,_⟩:=h2;simp[SV.c,h1,AU,Value.cells,Sb]
theorem Yb{w:World}{base:Nat}{S:Nat→Nat→Prop}{m:Mem}(i:Nat)(hok:t.ok)(hR:RelOn base ρ S w (restr rd m))(hi:i∈rd)(h1:m i=some (.dat (AQ t))):CBy 119 (SV.cs ρ [.agg [.fn (AU 0) (.d i),.fn (AU 1) (.d i),.fn (AU 2) (.d i)]]).toArray w (.tuple #[B32 (tbB t),.int .i64 (tbN t).2]):=by
 obtain⟨c,e1,d1⟩:=Y9 hR hi h1;rw[←aZ hok];simp only[SV.cs,e1];exact aS w hok d1
theorem ZR{F:Nat→Prop}(hv:AJ w v b.length 1 (b.map b8) F)(h8: ∀x∈b,x<256)(hbl:b.length≤1048576):CBy 97 #[v] w (sgV (sgT b)):=by
 obtain⟨tg,bd,ks,hT⟩: ∃tg bd ks,(rdT b).1=Tr.mk tg bd ks:=by cases (rdT b).1 with|mk tg bd ks=>exact⟨tg,bd,ks,rfl⟩
 obtain⟨E,hE⟩: ∃E,(rdT b).2=E:=⟨_,rfl⟩
 have hok:=J7 h8 hbl;rw[hT]at hok;have hks:oks ks:=by simp only[Tr.ok]at hok;exact hok.2.2.2
 obtain⟨p,h_p⟩: ∃p,decide (E≠0)=p:=⟨_,rfl⟩
 obtain⟨q,h_q⟩: ∃p,decide (tg≠48)=p:=⟨_,rfl⟩
 obtain⟨r,h_r⟩: ∃p,decide (((ks.length:Nat):Int)≠2)=p:=⟨_,rfl⟩
 rw[sgT,hT,hE,h_p,Jx,h_q]
 go_enter func97,ntmps97
 refine AO ?_;iterate 2 refine k_g ?_
 iterate 10 refine AA ?_
 refine AB (by exact Cg (D:=AQ (.mk tg bd ks)) (ys:=[.int .i64 E]) [] rfl rfl gg rfl (eo func91) (fun ρ S w' hb hR=>(by have:=Rn w' (Aa hv hb) h8 hbl;rw[hT,hE]at this;exact this))) ?_;iterate 4 refine AA ?_
 refine PE ?_;iterate 4 refine AA ?_
 have h3:(p=false∧q=false∧r=false)∨(p=true∨(p=false∧q=true)∨(p=false∧q=false∧r=true)):=by cases p<;>cases q<;>cases r<;>simp
 rcases h3 with⟨rfl,rfl,rfl⟩|h3
 ·have hk2:ks.length=2:=by have:=of_decide_eq_false h_r;omega
  obtain⟨k0,k1,rfl⟩:=eh hk2;obtain⟨a0,h_a0⟩: ∃a,decide ((tbN k0).2≠0)=a:=⟨_,rfl⟩
  obtain⟨a1,h_a1⟩: ∃a,decide ((tbN k1).2≠0)=a:=⟨_,rfl⟩
  rw[IZ,h_a0,h_a1];iterate 2 refine AA ?_
  refine AB (by exact A0 rfl gg rfl rfl h_p) ?_;iterate 2 refine AA ?_
  refine Tf ?_;refine AB (by first|exact Ev.skip (fun _=>rfl)|exact Ev.skip (fun _=>rfl)|exact A0 rfl (fun _=>rfl) rfl rfl h_q) ?_;refine k_9 ?_;iterate 2 refine AA ?_
  refine AB (by first|exact Ev.skip (fun _=>rfl)|exact Ev.skip (fun _=>rfl)|exact Cl rfl (fun _=>rfl) rfl rfl underlying106 rfl rfl) ?_;refine AB (by first|exact Ev.skip (fun _=>rfl)|exact Ev.skip (fun _=>rfl)|exact NQ rfl (fun _=>rfl) rfl underlying106 (Is rfl)) ?_;refine AB (by first|exact Ev.skip (fun _=>rfl)|exact Ev.skip (fun _=>rfl)|exact A0 rfl (fun _=>rfl) rfl rfl h_r) ?_;refine k_9 ?_;iterate 6 refine k_g ?_
  refine AA ?_;refine AB (by exact Cl rfl gg rfl rfl underlying106 rfl rfl) ?_;refine AB (by exact NQ rfl gg rfl underlying106 (Is (ks:=[k0,k1]) rfl)) ?_;iterate 3 refine AA ?_
  refine Ce 3 ?_;change VOk _ _ _ _ _;iterate 2 refine k_g ?_
  refine AB (by exact A4 (p:=true) rfl gg rfl rfl rfl) ?_;iterate 9 refine AA ?_
  refine AB (by exact XL (k:=0) rfl gg rfl rfl underlying106 sizeOf108 (Is (ks:=[k0,k1]) rfl) (by simp) (by decide)) ?_;refine AB (by exact XH (D:=AQ (k0)) rfl rfl gg rfl underlying108 rfl sizeOf108 (Vh (i:=0) (_k:=0) (ks:=[k0,k1]) rfl rfl) Xp (by decide)) ?_;iterate 2 refine AA ?_
  refine PE ?_;iterate 3 refine k_g ?_
  refine AA ?_;refine AB (by exact Aj (v:= .tuple #[B32 (tbB k0),.int .i64 (tbN k0).2]) [37] rfl gg rfl (eo func119) (fun ρ S w' hb hR=>Yb 37 (MU hks (i:=0) rfl) hR (by simp) rfl)) ?_;iterate 11 refine AA ?_
  refine AB (by exact A0 rfl gg rfl rfl h_a0) ?_;refine k_g ?_;cases a0
  ·iterate 4 refine AA ?_
   refine AB (by exact AN (c:= .int .i64 0) rfl gg rfl rfl (fun w=>by go_simp;rfl)) ?_;refine AB (by exact NM (a:=0) (b:=64) rfl gg rfl underlying63 sizeOf5 rfl rfl (by decide) (by decide) (by decide)) ?_;refine D8 ?_;refine AB (by exact XO (news:=l32 (tbB k0)) (len:=64) (k:=32) rfl gg rfl rfl rfl (GK rfl rfl rfl (by decide)) underlying26 FI rfl (by decide) (Nat.le_of_ble_eq_true rfl) rfl (by decide)) ?_;iterate 2 refine k_g ?_
   refine AB (by exact A2 (c:=1) rfl gg rfl rfl (by decide)) ?_;iterate 2 refine AA ?_
   refine F5 (fun i=>decide (i<7)||i==31||i==32||i==33) [37,8,9] (fun f=>by simp[CC];exact rfl) (by simp[BS];exact rfl) fun f=> ?_
   iterate 2 refine k_g ?_
   refine AB (by exact A4 (p:=true) rfl gg rfl rfl rfl) ?_;iterate 9 refine AA ?_
   refine AB (by exact XL (k:=1) rfl gg rfl rfl underlying106 sizeOf108 (Is (ks:=[k0,k1]) rfl) (by simp) (by decide)) ?_;refine AB (by exact XH (D:=AQ (k1)) rfl rfl gg rfl underlying108 rfl sizeOf108 (Vh (i:=1) (_k:=0) (ks:=[k0,k1]) rfl rfl) Xp (by decide)) ?_;iterate 2 refine AA ?_
   refine PE ?_;iterate 3 refine k_g ?_
   refine AA ?_;refine AB (by exact Aj (v:= .tuple #[B32 (tbB k1),.int .i64 (tbN k1).2]) [37] rfl gg rfl (eo func119) (fun ρ S w' hb hR=>Yb 37 (MU hks (i:=1) rfl) hR (by simp) rfl)) ?_;iterate 11 refine AA ?_
   refine AB (by exact A0 rfl gg rfl rfl h_a1) ?_;refine k_g ?_;cases a1
   ·iterate 4 refine AA ?_
    refine AB (by exact AN (c:= .int .i64 32) rfl gg rfl rfl (fun w=>by go_simp;rfl)) ?_;refine Gg ?_;refine D8 ?_;refine AB (by exact XO (news:=l32 (tbB k1)) (len:=32) (k:=32) rfl gg rfl rfl rfl (GK rfl rfl rfl (by decide)) underlying26 FI rfl (by decide) (Nat.le_of_ble_eq_true rfl) rfl (by decide)) ?_;iterate 2 refine k_g ?_
    refine AB (by exact A2 (c:=2) rfl gg rfl rfl (by decide)) ?_;iterate 2 refine AA ?_
    refine F5 (fun i=>decide (i<7)||i==31||i==32||i==33) [37,8,9] (fun f=>by simp[CC];exact rfl) (by simp[BS];exact rfl) fun f=> ?_
    iterate 2 refine k_g ?_
    refine AB (by exact A4 (p:=false) rfl gg rfl rfl rfl) ?_;iterate 3 refine k_g ?_
    refine Aq ?_;change VOk _ _ _ _ _;iterate 2 refine k_g ?_
    iterate 4 refine AA ?_
    exact AG (AD (Av results97 (Ad rfl rfl underlying63 rfl sizeOf63 rfl rfl) (AE rfl)) fun _ _ hr=>⟨rfl,hr.1⟩)
   ·iterate 3 refine k_g ?_
    refine HL ?_;iterate 3 refine AA ?_
    exact AG (AD (Av results97 (Ad rfl rfl underlying63 rfl sizeOf63 rfl rfl) (AE rfl)) fun _ _ hr=>⟨rfl,hr.1⟩)
  ·iterate 3 refine k_g ?_
   refine HL ?_;iterate 3 refine AA ?_
   exact AG (AD (Av results97 (Ad rfl rfl underlying63 rfl sizeOf63 rfl rfl) (AE rfl)) fun _ _ hr=>⟨rfl,hr.1⟩)
 ·have hz:(bif p then none else bif q then none else IZ ks)=none:=by rcases h3 with rfl|⟨rfl,rfl⟩|⟨rfl,rfl,rfl⟩<;>first|rfl|exact ei (by have:=of_decide_eq_true h_r;omega)
  rw[hz];rcases h3 with rfl|⟨rfl,rfl⟩|⟨rfl,rfl,rfl⟩<;>
  (
   iterate 2 refine AA ?_
   refine AB (by exact A0 rfl gg rfl rfl h_p) ?_;iterate 2 refine AA ?_
   refine Tf ?_;refine AB (by first|exact Ev.skip (fun _=>rfl)|exact Ev.skip (fun _=>rfl)|exact A0 rfl (fun _=>rfl) rfl rfl h_q) ?_;refine k_9 ?_;iterate 2 refine AA ?_
   refine AB (by first|exact Ev.skip (fun _=>rfl)|exact Ev.skip (fun _=>rfl)|exact Cl rfl (fun _=>rfl) rfl rfl underlying106 rfl rfl) ?_;refine AB (by first|exact Ev.skip (fun _=>rfl)|exact Ev.skip (fun _=>rfl)|exact NQ rfl (fun _=>rfl) rfl underlying106 (Is rfl)) ?_;refine AB (by first|exact Ev.skip (fun _=>rfl)|exact Ev.skip (fun _=>rfl)|exact A0 rfl (fun _=>rfl) rfl rfl h_r) ?_;refine k_9 ?_;iterate 4 refine k_g ?_
   iterate 4 refine AA ?_
   exact AG (AD (Av results97 (Ad rfl rfl underlying63 rfl sizeOf63 rfl rfl) (AE rfl)) fun _ _ hr=>⟨rfl,hr.1⟩)
  )
def kX(l:List Nat):Nat:=TollBy.beV ((l.drop 1).take 32) 0
def kY(l:List Nat):Nat:=TollBy.beV (l.drop 33) 0
def kyB(l:List Nat):Bool:=decide (l.length=65) && (decide (l.headD 0=4) && onB (kX l) (kY l))
theorem Vd{w:World}{l:List Nat}(hv:AJ w v l.length 1 (l.map b8) S)(h8: ∀x∈l,x<256)(hL:Laid w):(kyB l=false∧JE w v)∨(kyB l=true∧JO w v (kX l) (kY l)):=by
 by_cases hn:l.length=65
 ·match l,hn,h8,hv with
  |b::t,hlen,h8,hv=>
   rw[hlen]at hv;by_cases h4:b=4
   ·subst h4
    have ht:t.length=64:=by simpa using hlen
    have m1: ∀x∈t.take 32,x<256:=fun x hx=>h8 x (by simp[List.mem_of_mem_take hx])
    have m2: ∀x∈t.drop 32,x<256:=fun x hx=>h8 x (by simp[List.mem_of_mem_drop hx])
    have l1:(t.take 32).length=32:=by simp;omega
    have l2:(t.drop 32).length=32:=by simp;omega
    have el:(4::t).map b8=wb (TollBy.beV (t.take 32) 0) (TollBy.beV (t.drop 32) 0):=by
     unfold wb;rw[Mp,Mp,Hv l1 m1,Hv l2 m2,←List.map_append,List.take_append_drop];rfl
    rw[el]at hv;have hx:=Ny l1 m1;have hy:=Ny l2 m2
    have ek:kyB (4::t)=onB (TollBy.beV (t.take 32) 0) (TollBy.beV (t.drop 32) 0):=by
     unfold kyB;rw[hlen];rfl
    rw[ek];cases ho:onB (TollBy.beV (t.take 32) 0) (TollBy.beV (t.drop 32) 0)with
    |true=>exact .inr ⟨rfl,hx,hy,fun w' hb=>dL hx hy w' (hL.bw hb) (Aa hv hb) ho⟩
    |false=>exact .inl ⟨rfl,fun w' hb=>dM hx hy w' (hL.bw hb) (Aa hv hb) ho⟩
   ·exact .inl ⟨by simp[kyB,h4],fun w' hb=>dK w' (hL.bw hb) (Aa hv hb) h4⟩
 ·exact .inl ⟨by simp[kyB,hn],fun w' hb=>dQ w' (hL.bw hb) (Aa hv hb) hn⟩
def uT(t x:Nat):Nat:=t^(nn-2) %nn*x %nn
noncomputable def chP(l:List Nat)(h r t:Nat):Pt:=add (AZ (uT t h) base) (AZ (uT t r) (toP (kX l) (kY l)))
open Classical in
noncomputable def Bh(l:List Nat)(h r t:Nat):Int:=
 bif !kyB l then 15 else bif !sec r then 6 else bif !sec t then 6 else if chP l h r t= .inf then 6 else if xv (chP l h r t) %nn=r then 0 else 6
theorem qI{l:List Nat}{t:Nat}(k:kyB l=false):Bh l h r t=15:=by unfold Bh;rw[k];rfl
theorem qH{l:List Nat}{t:Nat}(k:kyB l=true)(sr:sec r=false):Bh l h r t=6:=by unfold Bh;rw[k,sr];rfl
theorem qG{l:List Nat}{t:Nat}(k:kyB l=true)(sr:sec r=true)(st:sec t=false):Bh l h r t=6:=by unfold Bh;rw[k,sr,st];rfl
theorem YN{l:List Nat}{t:Nat}(k:kyB l=true)(sr:sec r=true)(st:sec t=true):Bh l h r t=open Classical in if chP l h r t= .inf then 6 else if xv (chP l h r t) %nn=r then 0 else 6:=by
 unfold Bh;rw[k,sr,st,Bool.not_true,cond_false,cond_false,cond_false]
theorem YQ(l:List Nat)(h r t:Nat):chP l h r t=add (AZ (t^(nn-2) %nn*h %nn) base) (AZ (t^(nn-2) %nn*r %nn) (toP (kX l) (kY l))):=by unfold chP uT;rfl
theorem uy{w:World}{l:List Nat}{t:Nat}(hv:AJ w v l.length 1 (l.map b8) S)(h8: ∀x∈l,x<256)(hh:h<R)(hr:r<R)(ht:t<R)(hL:Laid w):
 CBy 54 #[v,B32 h,PT r t] w (.int .i64 (Bh l h r t)):=by
 rcases Vd hv h8 hL with⟨k,j⟩|⟨k,hx,hy,hrd⟩
 ·rw[qI k];exact uw hh hr ht w hL j
 ·cases sr:sec r with
  |false=>rw[qH k sr];exact u9 hh hr ht w hL hrd sr
  |true=>
   cases st:sec t with
   |false=>rw[qG k sr st];exact u7 hh hr ht w hL hrd sr st
   |true=>
    rw[YN k sr st];obtain⟨hv,hi⟩:=Qh st;have hP:=YQ l h r t;generalize chP l h r t=X at hP⊢;generalize t^(nn-2) %nn=i at hv hi hP;have oA:=TollEc.smul_on TollEc.base_on (i*h %nn);have oB:=TollEc.smul_on (Ll (kX l) (kY l)) (i*r %nn);have oX:X.on:=hP▸TollEc.on_add oA oB;by_cases hinf:X= .inf
    ·rw[if_pos hinf];exact uz hh hr ht w hL hx hy hrd sr st hi hv rfl rfl oA oB hP.symm oX hinf
    ·rw[if_neg hinf]
     by_cases hne:xv X %nn=r
     ·rw[if_pos hne];exact u6 hh hr ht w hL hx hy hrd sr st hi hv rfl rfl oA oB hP.symm oX hinf hne
     ·rw[if_neg hne];exact vA hh hr ht w hL hx hy hrd sr st hi hv rfl rfl oA oB hP.symm oX hinf hne
theorem br{a b:Nat}(h:a %nn=b %nn):AZ a base=AZ b base:=by rw[←TollEc.smul_mod a,h,TollEc.smul_mod]
theorem YO{l:List Nat}{d t i:Nat}(hk:kyB l=true)(hP:toP (kX l) (kY l)=AZ d base)(sr:sec r=true)(st:sec t=true)(sk:sec k=true)(hr:xv (AZ k base) %nn=r)(hi:i*k %nn=1)(ht:i*((h+r*d %nn) %nn) %nn=t):Bh l h r t=0:=by
 have e:chP l h r t=AZ k base:=by
  obtain⟨hv,_⟩:=Qh st;rw[YQ,hP,←TollEc.smul_mul TollEc.base_on,←TollEc.smul_add TollEc.base_on];apply br;generalize t^(nn-2) %nn=j at hv⊢
  have e1:(j*h %nn+d*(j*r %nn)) %nn=j*(h+r*d) %nn:=by
   rw[Nat.add_mod,Nat.mod_mod,Nat.mul_mod d,Nat.mod_mod,←Nat.mul_mod,←Nat.add_mod];congr 1
   rw[Nat.mul_add,←Nat.mul_assoc j,Nat.mul_comm d]
  have e2:t %nn=i*(h+r*d) %nn:=by
   rw[←ht,Nat.mod_mod,Nat.mul_mod,Nat.mod_mod,Nat.add_mod,Nat.mod_mod,←Nat.add_mod,←Nat.mul_mod]
  rw[e1];generalize h+r*d=z at e2⊢;have e3:j*(i*z) %nn=1:=by rw[Nat.mul_mod,←e2,←Nat.mul_mod,hv]
  calc j*z %nn=(j*z %nn)*1 %nn:=by rw[Nat.mul_one,Nat.mod_mod]
   _=(j*z %nn)*(i*k %nn) %nn:=by rw[hi]
   _=j*z*(i*k) %nn:=by rw[←Nat.mul_mod]
   _=k*(j*(i*z)) %nn:=by congr 1;ac_rfl
   _=(k %nn)*(j*(i*z) %nn) %nn:=by rw[←Nat.mul_mod]
   _=k %nn:=by rw[e3,Nat.mul_one,Nat.mod_mod]
 rw[YN hk sr st,e,if_neg (cS sk),if_pos hr]
def usB(u:Int):Bool:=decide (2*(u/2 %2)≠0)
def Df(c:Crt):Bool:=kyB c.ky && (wiB c.se 1 4611686018427387903 && (wiB c.fr 0 4611686018427387903 && (wiB c.to 0 4611686018427387903 && (Fg c.is && (Fg c.su && (wiB c.pa 0 5 && ((c.ca|| !decide (c.pa≠0)) && (wiB c.us 0 15 && (usB c.us==c.ca)))))))))
theorem Y4{u:Int}(h0:0≤u)(hm:u≤15):BOy .and 3 (.int .i64 u) (.int .i64 2) (.int .i64 (2*(u/2 %2))):=by
 intro p q w
 have:u=0∨u=1∨u=2∨u=3∨u=4∨u=5∨u=6∨u=7∨u=8∨u=9∨u=10∨u=11∨u=12∨u=13∨u=14∨u=15:=by omega
 rcases this with rfl|rfl|rfl|rfl|rfl|rfl|rfl|rfl|rfl|rfl|rfl|rfl|rfl|rfl|rfl|rfl<;>(go_simp;rfl)
theorem C3{a c:Int}:wiB n a c=true↔a≤n∧n≤c:=by unfold wiB;simp
theorem Ue{s:List Nat}(h:Fg s=true):s≠[]∧s.length≤64∧Ag (utT s) 1=true:=by
 unfold Fg twN at h;cases hw:Lb (utT s)with
 |false=>rw[hw]at h;simp at h
 |true=>
  rw[hw]at h;simp only[cond_true,Bool.and_eq_true,decide_eq_true_eq]at h;simp only[utT,Lb,Bool.and_eq_true,decide_eq_true_eq]at hw;exact⟨h.2,hw.2.2,hw.2.1⟩
theorem IV{c:Crt}(i8: ∀x∈c.is,x<256)(s8: ∀x∈c.su,x<256)(k8: ∀x∈c.ky,x<256)(h:Df c=true):c.Fit:=by
 unfold Df at h;simp only[Bool.and_eq_true,C3]at h;obtain⟨hk,hse,hfr,hto,his,hsu,hpa,_,hus,_⟩:=h
 have hk65:c.ky.length=65:=by
  unfold kyB at hk;simp only[Bool.and_eq_true,decide_eq_true_eq]at hk;exact hk.1
 exact⟨i8,s8,k8,(Ue his).2.1,(Ue hsu).2.1,by omega,by omega,by omega,by omega,hpa.2,hus.1,hus.2⟩
theorem C0{b:Bool}(hxb:x=b)(ho:o.op= .call {callee:= .value (.func f),args:=xs,argTypes:=ats})(hgd:AR ops o s)
 (hx:unV (xs.toList.map (AC s))=some vs)(he: ∀args w,(callFunc f args).run P w= .ok (.enter f args) w)(hc: ∀w,Bw w0 w→Calls P f vs.toArray w fun e w'=>e= .returned (.bool x)∧Bw w w'):Ev P ops w0 o s ⟨.v (.bool b),[],[],[],[]⟩:=by
 subst hxb;exact Ah ho hgd hx he hc
theorem TI{c:Crt}{kv:Value}{F:Nat→Prop}(hL:Laid w)(hk:AJ w kv c.ky.length 1 (c.ky.map b8) F)(k8: ∀x∈c.ky,x<256)(i8: ∀x∈c.is,x<256)(s8: ∀x∈c.su,x<256)(il:c.is.length≤1048576)(sl:c.su.length≤1048576):CBy 18 #[(.agg #[.int .i64 c.se,.string (AI c.is),.string (AI c.su),.int .i64 c.fr,.int .i64 c.to,kv,.bool c.ca,.int .i64 c.pa,.int .i64 c.us])] w (.bool (Df c)):=by
 obtain⟨a,h_a⟩: ∃p,wiB c.se 1 4611686018427387903=p:=⟨_,rfl⟩
 obtain⟨b,h_b⟩: ∃p,wiB c.fr 0 4611686018427387903=p:=⟨_,rfl⟩
 obtain⟨d,h_d⟩: ∃p,wiB c.to 0 4611686018427387903=p:=⟨_,rfl⟩
 obtain⟨e,h_e⟩: ∃p,Fg c.is=p:=⟨_,rfl⟩
 obtain⟨f,h_f⟩: ∃p,Fg c.su=p:=⟨_,rfl⟩
 obtain⟨p,h_p⟩: ∃p,wiB c.pa 0 5=p:=⟨_,rfl⟩
 obtain⟨g,h_g⟩: ∃p,c.ca=p:=⟨_,rfl⟩
 obtain⟨z,h_z⟩: ∃p,decide (c.pa≠0)=p:=⟨_,rfl⟩
 obtain⟨u,h_u⟩: ∃p,wiB c.us 0 15=p:=⟨_,rfl⟩
 obtain⟨v,h_v⟩: ∃p,usB c.us=p:=⟨_,rfl⟩
 rw[Df,h_a,h_b,h_d,h_e,h_f,h_p,h_g,h_z,h_u,h_v]
 go_enter func18,ntmps18
 refine AO ?_;iterate 7 refine AA ?_
 rcases Vd hk k8 hL with⟨h_k,hj⟩|⟨h_k,_,_,hj⟩<;>rw[h_k]
 ·skip
  refine k_g ?_;iterate 2 refine AA ?_
  refine Tg ?_;iterate 3 refine AA ?_
  refine AB (by exact Bq rfl rfl gg zeroValue87) ?_;refine AB (by exact Be rfl gg rfl rfl rfl sizeOf87 rfl (by simp) rfl) ?_;iterate 5 refine AA ?_
  refine IW ?_;iterate 6 refine AA ?_
  refine AG ?_;refine AD (AM results18 (AE rfl)) ?_;intro ρ w' hr;first|exact⟨rfl,hr.1⟩|(cases v<;>exact⟨rfl,hr.1⟩)
 ·skip
  refine k_g ?_;iterate 2 refine AA ?_
  refine Tg ?_;iterate 3 refine AA ?_
  refine AB (by exact Bq rfl rfl gg zeroValue87) ?_;refine AB (by exact Be rfl gg rfl rfl rfl sizeOf87 rfl (by simp) rfl) ?_;iterate 5 refine AA ?_
  refine IW ?_;iterate 6 refine k_g ?_
  have h3:(a=true∧b=true∧d=true)∨(a=false∨(a=true∧b=false)∨(a=true∧b=true∧d=false)):=by cases a<;>cases b<;>cases d<;>simp
  rcases h3 with⟨rfl,rfl,rfl⟩|h3
  ·skip
   refine k_g ?_;iterate 2 refine AA ?_
   refine AB (by exact C0 h_a rfl gg rfl (eo func35) (fun w' hw'=>Dm w')) ?_;refine k_9 ?_;iterate 3 refine AA ?_
   refine AB (by first|exact Ev.skip (fun _=>rfl)|exact C0 h_b rfl (fun _=>rfl) rfl (eo func35) (fun w' hw'=>Dm w')) ?_;refine CW ?_;iterate 3 refine AA ?_
   refine AB (by first|exact Ev.skip (fun _=>rfl)|exact C0 h_d rfl (fun _=>rfl) rfl (eo func35) (fun w' hw'=>Dm w')) ?_;refine CW ?_;iterate 4 refine AA ?_
   have h3:(e=true∧f=true)∨(e=false∨(e=true∧f=false)):=by cases e<;>cases f<;>simp
   rcases h3 with⟨rfl,rfl⟩|h3
   ·skip
    refine k_g ?_;iterate 2 refine AA ?_
    refine AB (by exact C0 h_e rfl gg rfl (eo func36) (fun w' hw'=>Pe w' i8 il)) ?_;refine k_9 ?_;iterate 3 refine AA ?_
    refine Tm ?_;refine CW ?_;iterate 4 refine AA ?_
    have h3:((p=true∧g=true)∨(p=true∧g=false∧z=false))∨(p=false∨(p=true∧g=false∧z=true)):=by cases p<;>cases g<;>cases z<;>simp
    rcases h3 with h3|h3
    ·rcases h3 with⟨rfl,rfl⟩|⟨rfl,rfl,rfl⟩<;>
     (
      refine k_g ?_;iterate 2 refine AA ?_
      refine AB (by exact C0 h_p rfl gg rfl (eo func35) (fun w' hw'=>Dm w')) ?_;refine k_9 ?_;iterate 3 refine AA ?_
      refine DW ?_;iterate 3 refine AA ?_
      refine AB (by first|exact Ev.skip (fun _=>rfl)|exact A0 rfl (fun _=>rfl) rfl rfl h_z) ?_;refine CW ?_;iterate 5 refine AA ?_
      cases u
      ·skip
       refine k_g ?_;iterate 2 refine AA ?_
       refine AB (by exact C0 h_u rfl gg rfl (eo func35) (fun w' hw'=>Dm w')) ?_;iterate 3 refine AA ?_
       refine AB (by first|exact Ev.skip (fun _=>rfl)|exact AN rfl (fun _=>rfl) rfl rfl (fun w=>Y4 (C3.1 h_u).1 (C3.1 h_u).2 _ _ w)) ?_;refine AB (by first|exact Ev.skip (fun _=>rfl)|exact A0 rfl (fun _=>rfl) rfl rfl h_v) ?_;iterate 2 refine AA ?_
       refine Tk ?_;refine k_9 ?_;iterate 2 refine AA ?_
       refine AG ?_;refine AD (AM results18 (AE rfl)) ?_;intro ρ w' hr;first|exact⟨rfl,hr.1⟩|(cases v<;>exact⟨rfl,hr.1⟩)
      ·skip
       refine k_g ?_;iterate 2 refine AA ?_
       refine AB (by exact C0 h_u rfl gg rfl (eo func35) (fun w' hw'=>Dm w')) ?_;iterate 3 refine AA ?_
       refine AB (by first|exact Ev.skip (fun _=>rfl)|exact AN rfl (fun _=>rfl) rfl rfl (fun w=>Y4 (C3.1 h_u).1 (C3.1 h_u).2 _ _ w)) ?_;refine AB (by first|exact Ev.skip (fun _=>rfl)|exact A0 rfl (fun _=>rfl) rfl rfl h_v) ?_;iterate 2 refine AA ?_
       refine Tk ?_;refine k_9 ?_;iterate 2 refine AA ?_
       refine AG ?_;refine AD (AM results18 (AE rfl)) ?_;intro ρ w' hr;first|exact⟨rfl,hr.1⟩|(cases v<;>exact⟨rfl,hr.1⟩)
     )
    ·rcases h3 with rfl|⟨rfl,rfl,rfl⟩<;>
     (
      refine k_g ?_;iterate 2 refine AA ?_
      refine AB (by exact C0 h_p rfl gg rfl (eo func35) (fun w' hw'=>Dm w')) ?_;refine k_9 ?_;iterate 3 refine AA ?_
      refine DW ?_;iterate 3 refine AA ?_
      refine AB (by first|exact Ev.skip (fun _=>rfl)|exact A0 rfl (fun _=>rfl) rfl rfl h_z) ?_;refine CW ?_;iterate 7 refine AA ?_
      refine AG ?_;refine AD (AM results18 (AE rfl)) ?_;intro ρ w' hr;first|exact⟨rfl,hr.1⟩|(cases v<;>exact⟨rfl,hr.1⟩)
     )
   ·rcases h3 with rfl|⟨rfl,rfl⟩<;>
    (
     refine k_g ?_;iterate 2 refine AA ?_
     refine AB (by exact C0 h_e rfl gg rfl (eo func36) (fun w' hw'=>Pe w' i8 il)) ?_;refine k_9 ?_;iterate 3 refine AA ?_
     refine Tm ?_;refine CW ?_;iterate 7 refine AA ?_
     refine AG ?_;refine AD (AM results18 (AE rfl)) ?_;intro ρ w' hr;first|exact⟨rfl,hr.1⟩|(cases v<;>exact⟨rfl,hr.1⟩)
    )
  ·rcases h3 with rfl|⟨rfl,rfl⟩|⟨rfl,rfl,rfl⟩<;>
   (
    refine k_g ?_;iterate 2 refine AA ?_
    refine AB (by exact C0 h_a rfl gg rfl (eo func35) (fun w' hw'=>Dm w')) ?_;refine k_9 ?_;iterate 3 refine AA ?_
    refine AB (by first|exact Ev.skip (fun _=>rfl)|exact C0 h_b rfl (fun _=>rfl) rfl (eo func35) (fun w' hw'=>Dm w')) ?_;refine CW ?_;iterate 3 refine AA ?_
    refine AB (by first|exact Ev.skip (fun _=>rfl)|exact C0 h_d rfl (fun _=>rfl) rfl (eo func35) (fun w' hw'=>Dm w')) ?_;refine CW ?_;iterate 7 refine AA ?_
    refine AG ?_;refine AD (AM results18 (AE rfl)) ?_;intro ρ w' hr;first|exact⟨rfl,hr.1⟩|(cases v<;>exact⟨rfl,hr.1⟩)
   )
def ku:Tr→List Tr
 | .mk _ _ ks=>ks
def isC(k:Tr):Bool:=decide (((ku k).length:Int)>0)
def KD(k:Tr):Int:=bif isC k then BF (AL [1] k)else 0
def KW(n:Tr):Tr:=AL [7,0] (AL [0] n)
def HT(n:Tr):Int:=BF (CR (AL [1,2] (KW n)))
def Hd(n:Tr):Int:=BF (CR (AL [2,1] (KW n)))
def Nz(n:Tr):Tr:=CR (AL [0,2] (KW n))
def Fv(n:Tr):Crt:=⟨BF (AL [1] (AL [0] n)),B6 (AL [3,0,1] (AL [0] n)),B6 (AL [5,0,1] (AL [0] n)),BF (AL [4,0] (AL [0] n)),BF (AL [4,1] (AL [0] n)),Bv (AL [6,1] (AL [0] n)),isC (Nz n),KD (Nz n),Hd n*4+HT n⟩
def I7(c:Crt)(b:List Nat):Option (Nat×Nat)→Option (Crt×Nat×Nat)
 |none=>none
 |some (r,t)=>bif !Df c then none else bif !decide ((wrT (c.whole r t)).1=b)then none else some (c,r,t)
def Hg(n:Tr)(b:List Nat):Option (Crt×Nat×Nat):=bif !(wiB (HT n) 0 3 && wiB (Hd n) 0 3)then none else I7 (Fv n) b (sgT (Bv (AL [2] n)))
def rdC(b:List Nat):Option (Crt×Nat×Nat):=bif decide ((rdT b).2≠0)then none else Hg (rdT b).1 b
def CZ:Value:= .agg #[.int .i64 0,.string (AI []),.string (AI []),.int .i64 0,.int .i64 0,.slice none 0 0,.bool false,.int .i64 0,.int .i64 0]
def CVV(c:Crt)(kv:Value):Value:= .agg #[.int .i64 c.se,.string (AI c.is),.string (AI c.su),.int .i64 c.fr,.int .i64 c.to,kv,.bool c.ca,.int .i64 c.pa,.int .i64 c.us]
def RdC(w w':World)(e:Ending):Option (Crt×Nat×Nat)→Prop
 |none=>e= .returned (.tuple #[CZ,ZV,.int .i64 2])
 |some (c,r,t)=> ∃kv,e= .returned (.tuple #[CVV c kv,PT r t,.int .i64 0])∧BJ w w' kv c.ky.length 1 5 (c.ky.map b8)
theorem rE(a c d:Int)(b e:ByteArray)(p:Option Addr)(m q:Nat):prog.built 28 [(0,.int .i64 a),(1,.string b),(3,.int .i64 c),(4,.int .i64 d),(2,.string e),(5,.slice p m q)]=some #[.int .i64 a,.string b,.string e,.int .i64 c,.int .i64 d,.slice p m q,.bool false,.int .i64 0,.int .i64 0]:=by kernel_rfl
theorem Yj:prog.built 28 []=some #[.int .i64 0,.string (AI []),.string (AI []),.int .i64 0,.int .i64 0,.slice none 0 0,.bool false,.int .i64 0,.int .i64 0]:=by kernel_rfl
theorem oa{t0 t1 t2 t3 t4 t5:Operand}{a c d:Int}{b e:ByteArray}{sy:SV}{n:Nat}{l:List Value}(ho:o.op= .build 28 #[(0,t0),(1,t1),(3,t3),(4,t4),(2,t2),(5,t5)])(hgd:AR ops o s)
 (h0:AC s t0= .v (.int .i64 a))(h1:AC s t1= .v (.string b))(h3:AC s t3= .v (.int .i64 c))(h4:AC s t4= .v (.int .i64 d))(h2:AC s t2= .v (.string e))(h5:AC s t5=sy)(hr:Rdg w0 s.mem rd sy n size l):
 Ev prog ops w0 o s ⟨.agg [.v (.int .i64 a),.v (.string b),.v (.string e),.v (.int .i64 c),.v (.int .i64 d),sy,.v (.bool false),.v (.int .i64 0),.v (.int .i64 0)],[],[],[],rd⟩:=
 Ev.run _ _ hgd fun ρ S w hbw hR=>by
  have e0:=AH s ρ t0;rw[h0]at e0;have e1:=AH s ρ t1;rw[h1]at e1;have e2:=AH s ρ t2;rw[h2]at e2;have e3:=AH s ρ t3;rw[h3]at e3;have e4:=AH s ρ t4;rw[h4]at e4;have e5:=AH s ρ t5;rw[h5]at e5;obtain⟨_,ao,cap,hv,_⟩:=hr ρ S w hbw hR;rw[hv]at e5;simp only[execOp,ho,List.map_toArray,List.map_cons,List.map_nil,e0,e1,e2,e3,e4,e5,SV.c];rw[Sem.run_bind,run_build w 28 _ _ (rE a c d b e ao n cap)];simp[SV.c,SV.cs,hv]
theorem gO(h0:0≤n)(hm:n≤3):BOy .mul 3 (.int .i64 n) (.int .i64 4) (.int .i64 (n*4)):=by
 intro p q w
 have:n=0∨n=1∨n=2∨n=3:=by omega
 rcases this with rfl|rfl|rfl|rfl<;>(go_simp;rfl)
theorem uD{m:Int}(h0:0≤n)(hm:n≤3)(m0:0≤m)(mm:m≤3):BOy .add 3 (.int .i64 (n*4)) (.int .i64 m) (.int .i64 (n*4+m)):=by
 intro p q w
 have hn:n=0∨n=1∨n=2∨n=3:=by omega
 have hmm:m=0∨m=1∨m=2∨m=3:=by omega
 rcases hn with rfl|rfl|rfl|rfl<;>rcases hmm with rfl|rfl|rfl|rfl<;>(go_simp;rfl)
theorem oj(h1: ∀x∈a,x<256)(h2: ∀x∈b,x<256):BOy .eql 9 (.string (AI a)) (.string (AI b)) (.bool (decide (a=b))):=fun _p _q w=>L6 rfl h1 h2 _ _ w
theorem ut{u:Value}{F G:Nat→Prop}(hu:AJ w u a.length 1 (a.map b8) F)(hv:AJ w v b.length 1 (b.map b8) G)(h1: ∀x∈a,x<256)(h2: ∀x∈b,x<256):CBy 98 #[u,v] w (.bool (decide (a=b))):=by
 go_enter func98,ntmps98
 refine AO ?_;iterate 7 refine AA ?_
 refine AB (by exact ER rfl gg rfl underlying26 underlying5 underlying9 (AW hu)) ?_;refine AA ?_;refine AB (by exact ER rfl gg rfl underlying26 underlying5 underlying9 (AW hv)) ?_;refine AB (by exact AN rfl gg rfl rfl (fun w=>oj h1 h2 _ _ w)) ?_;iterate 2 refine AA ?_
 exact AG (AD (AM results98 (AE rfl)) fun _ _ hr=>⟨rfl,hr.1⟩)
def JP(n:Tr)(ca:Bool)(pa:Int):Crt:=⟨BF (AL [1] (AL [0] n)),B6 (AL [3,0,1] (AL [0] n)),B6 (AL [5,0,1] (AL [0] n)),BF (AL [4,0] (AL [0] n)),BF (AL [4,1] (AL [0] n)),Bv (AL [6,1] (AL [0] n)),ca,pa,Hd n*4+HT n⟩
theorem YL{n:Tr}(hK:CR (AL [0,2] (AL [7,0] (AL [0] n)))= .mk tg bd ks)(hg:decide (((ks.length:Nat):Int)>0)=true):Fv n=JP n true (BF (AL [1] (.mk tg bd ks))):=by
 unfold Fv JP KD Nz KW;rw[hK,show isC (.mk tg bd ks)=true from hg];rfl
theorem YM{n:Tr}(hK:CR (AL [0,2] (AL [7,0] (AL [0] n)))= .mk tg bd ks)(hg:decide (((ks.length:Nat):Int)>0)=false):Fv n=JP n false 0:=by
 unfold Fv JP KD Nz KW;rw[hK,show isC (.mk tg bd ks)=false from hg];rfl
theorem MH(h:t.ok):(Bv t).length≤1048576:=by have:=(Gp h).2;unfold Bv;rw[List.length_drop];omega
theorem J2(h:t.ok): ∀x∈Bv t,x<256:=fun x hx=>(Gp h).1 x (List.mem_of_mem_drop hx)
theorem ES{w:World}{base:Nat}{S:Nat→Nat→Prop}{m:Mem}{n:Nat}{l:List Value}(hR:RelOn base ρ S w (restr rd m))(hid:id∈rd)(hm:m id=some (.dat (.sl n size l))):AJ w (SV.c ρ (.d id)) n size l (S id):=by
 obtain⟨v,e,h⟩:=Fb hR hid hm;simp only[List.cons.injEq,and_true]at e;simp only[SV.c,e];exact h
theorem XR{vs:List SV}{b:Bool}(hxb:x=b)(rd:List Nat)(ho:o.op= .call {callee:= .value (.func f),args:=xs,argTypes:=ats})(hgd:AR ops o s)
 (hx:xs.toList.map (AC s)=vs)(he: ∀args w,(callFunc f args).run P w= .ok (.enter f args) w)(hc: ∀ρ S w,Bw w0 w→RelOn w0.heap.size ρ S w (restr rd s.mem)→Calls P f (SV.cs ρ vs).toArray w fun e w'=>e= .returned (.bool x)∧Bw w w'):Ev P ops w0 o s ⟨.v (.bool b),[],[],[],rd⟩:=by
 subst hxb;exact Aj rd ho hgd hx he hc
theorem dY{F:Nat→Prop}(_hL:Laid w)(hv:AJ w v b.length 1 (b.map b8) F)(h8: ∀x∈b,x<256)(hbl:b.length≤1048576)(hno:decide ((rdT b).2≠0)=true→Rr=none)(htail: ∀n0 E,(rdT b).1=n0→(rdT b).2=E→decide (E≠0)=false→n0.ok→ ∀f:Nat→Value,VOk prog w ⟨(.v v:: .v (f 1):: .p 2 0:: .p 3 0:: .v (f 4):: .p 5 0:: .v (f 6):: .v (f 7):: .p 8 0:: .p 9 0::fv f 113 10 []),AK [(9,.cells [.v (.int .i64 (BF (AL [1] (AL [0] n0)))),.v (.string (AI (B6 (AL [3,0,1] (AL [0] n0))))),.v (.string (AI (B6 (AL [5,0,1] (AL [0] n0))))),.v (.int .i64 (BF (AL [4,0] (AL [0] n0)))),.v (.int .i64 (BF (AL [4,1] (AL [0] n0)))),.d 55,.v (.bool false),.v (.int .i64 0),.v (.int .i64 0)] 28),(55,.row (Bv (AL [6,1] (AL [0] n0))).length 1 5 (.exact ((Bv (AL [6,1] (AL [0] n0))).map b8))),(8,.cells [.fn (AU 0) (.d 28),.fn (AU 1) (.d 28),.fn (AU 2) (.d 28)] 108),(28,.dat (AQ (AL [7,0] (AL [0] n0)))),(5,.cells [.fn (AU 0) (.d 16),.fn (AU 1) (.d 16),.fn (AU 2) (.d 16)] 108),(16,.dat (AQ n0)),(3,.cells (zs 64) 63),(2,.cells [.v (.int .i64 0),.v (.string (ByteArray.mk #[])),.v (.string (ByteArray.mk #[])),.v (.int .i64 0),.v (.int .i64 0),.v (.slice none 0 0),.v (.bool false),.v (.int .i64 0),.v (.int .i64 0)] 28)]⟩ (Hn 6 (JU f53)) (QB prog f53 w (fun e w'=>RdC w w' e Rr∧Bw w w'))):Calls prog 53 #[v] w (fun e w'=>RdC w w' e Rr∧Bw w w'):=by
 try simp only[fv,zs,Nat.reduceAdd]
 obtain⟨n0,hT⟩: ∃n0,(rdT b).1=n0:=⟨_,rfl⟩
 obtain⟨E,hE⟩: ∃E,(rdT b).2=E:=⟨_,rfl⟩
 have hok:=J7 h8 hbl;rw[hT]at hok
 have hrd: ∀w',Bw w w'→Calls prog 91 #[v] w' fun e w2=> ∃u,e= .returned (.tuple #[u,.int .i64 E])∧BO w' w2 u (AQ n0)∧Bw w' w2:=fun w' hb=>by
  have:=Rn w' (Aa hv hb) h8 hbl;rw[hT,hE]at this;exact this
 obtain⟨p,h_E⟩: ∃p,decide (E≠0)=p:=⟨_,rfl⟩
 have hky:=A8 [6,1] (A8 [0] hok)
 go_enter func53,ntmps53
 refine AO ?_;iterate 2 refine k_g ?_
 iterate 7 refine AA ?_
 refine AB (by exact Cg (D:=AQ n0) (ys:=[.int .i64 E]) [] rfl rfl gg rfl (eo func91) (fun ρ S w' hb hR=>hrd w' hb)) ?_;iterate 4 refine AA ?_
 refine MO ?_;iterate 6 refine AA ?_
 refine AB (by exact A0 rfl gg rfl rfl h_E) ?_;refine k_g ?_;cases p
 ·iterate 4 refine k_g ?_
  refine AA ?_;refine AB (by exact BV rfl rfl gg rfl (e:=3) (l:=DY [0]) rfl (by decide) (fun _=>by kernel_rfl)) ?_;refine AB (by exact Bp (AQ (AL [0] n0)) [16,24] rfl rfl gg rfl (eo func92) (fun ρ S w' hb hR=>EC 16 24 [0] hR (by simp) (by simp) rfl rfl)) ?_;refine AA ?_;refine MO ?_;iterate 3 refine k_g ?_
  refine AA ?_;refine AB (by exact BV rfl rfl gg rfl (e:=3) (l:=DY [7,0]) rfl (by decide) (fun _=>by kernel_rfl)) ?_;refine AB (by exact Bp (AQ (AL [7,0] (AL [0] n0))) [25,27] rfl rfl gg rfl (eo func92) (fun ρ S w' hb hR=>EC 25 27 [7,0] hR (by simp) (by simp) rfl rfl)) ?_;refine AA ?_;refine MO ?_;iterate 3 refine k_g ?_
  refine AA ?_;refine Td ?_;refine AB (by exact Bp (AQ (AL [1] (AL [0] n0))) [25,30] rfl rfl gg rfl (eo func92) (fun ρ S w' hb hR=>EC 25 30 [1] hR (by simp) (by simp) rfl rfl)) ?_;refine AB (by exact Aj (v:= .int .i64 (BF (AL [1] (AL [0] n0)))) [31] rfl gg rfl (eo func93) (fun ρ S w' hb hR=>JR 31 (A8 _ ((A8 _ (hok)))) hR (by simp) rfl)) ?_;refine AA ?_;refine AB (by exact BV rfl rfl gg rfl (e:=3) (l:=DY [3,0,1]) rfl (by decide) (fun _=>by kernel_rfl)) ?_;refine AB (by exact Bp (AQ (AL [3,0,1] (AL [0] n0))) [25,34] rfl rfl gg rfl (eo func92) (fun ρ S w' hb hR=>EC 25 34 [3,0,1] hR (by simp) (by simp) rfl rfl)) ?_;refine AB (by exact XM rfl gg rfl rfl) ?_;refine AB (by exact ER rfl gg rfl underlying26 underlying5 underlying9 (TX (id:=35) rfl)) ?_;refine AA ?_;refine AB (by exact BV rfl rfl gg rfl (e:=3) (l:=DY [4,0]) rfl (by decide) (fun _=>by kernel_rfl)) ?_;refine AB (by exact Bp (AQ (AL [4,0] (AL [0] n0))) [25,39] rfl rfl gg rfl (eo func92) (fun ρ S w' hb hR=>EC 25 39 [4,0] hR (by simp) (by simp) rfl rfl)) ?_;refine AB (by exact Aj (v:= .int .i64 (BF (AL [4,0] (AL [0] n0)))) [40] rfl gg rfl (eo func93) (fun ρ S w' hb hR=>JR 40 (A8 _ ((A8 _ (hok)))) hR (by simp) rfl)) ?_;refine AA ?_;refine AB (by exact BV rfl rfl gg rfl (e:=3) (l:=DY [4,1]) rfl (by decide) (fun _=>by kernel_rfl)) ?_;refine AB (by exact Bp (AQ (AL [4,1] (AL [0] n0))) [25,43] rfl rfl gg rfl (eo func92) (fun ρ S w' hb hR=>EC 25 43 [4,1] hR (by simp) (by simp) rfl rfl)) ?_;refine AB (by exact Aj (v:= .int .i64 (BF (AL [4,1] (AL [0] n0)))) [44] rfl gg rfl (eo func93) (fun ρ S w' hb hR=>JR 44 (A8 _ ((A8 _ (hok)))) hR (by simp) rfl)) ?_;refine AA ?_;refine AB (by exact BV rfl rfl gg rfl (e:=3) (l:=DY [5,0,1]) rfl (by decide) (fun _=>by kernel_rfl)) ?_;refine AB (by exact Bp (AQ (AL [5,0,1] (AL [0] n0))) [25,47] rfl rfl gg rfl (eo func92) (fun ρ S w' hb hR=>EC 25 47 [5,0,1] hR (by simp) (by simp) rfl rfl)) ?_;refine AB (by exact XM rfl gg rfl rfl) ?_;refine AB (by exact ER rfl gg rfl underlying26 underlying5 underlying9 (TX (id:=48) rfl)) ?_;refine AA ?_;refine AB (by exact BV rfl rfl gg rfl (e:=3) (l:=DY [6,1]) rfl (by decide) (fun _=>by kernel_rfl)) ?_;refine AB (by exact Bp (AQ (AL [6,1] (AL [0] n0))) [25,52] rfl rfl gg rfl (eo func92) (fun ρ S w' hb hR=>EC 25 52 [6,1] hR (by simp) (by simp) rfl rfl)) ?_;refine AB (by exact Bp (Dat.sl (Bv (AL [6,1] (AL [0] n0))).length 1 ((Bv (AL [6,1] (AL [0] n0))).map b8)) [53] rfl rfl gg rfl (eo func95) (fun ρ S w' hb hR=>Ya 53 (A8 _ ((A8 _ (hok)))) hR (by simp) rfl)) ?_;refine AB (by exact Cs [54] rfl rfl gg rfl (eo func94) (n:=(Bv (AL [6,1] (AL [0] n0))).length) (size:=1) (l:=(Bv (AL [6,1] (AL [0] n0))).map b8) (by simp) (fun ρ S w' hb hR=>LM w' (ES (id:=54) hR (by simp) rfl) (by have:=MH hky;omega))) ?_;refine AB (by exact oa rfl gg rfl rfl rfl rfl rfl rfl (BI rfl)) ?_;refine AA ?_;refine HM ?_;refine k_g ?_;refine F5 (fun i=>i==0||i==2||i==3||i==5||i==8||i==9) [7,15,18,24,27,30,34,39,43,47,52,25,31,35,40,44,48,53,54] (fun f=>by simp[CC];exact rfl) (by simp[BS];exact rfl) fun f=> ?_
  exact htail n0 E hT hE h_E hok f
 ·refine k_g ?_
  have hz:=hno (by rw[hE];exact h_E);subst hz;iterate 2 refine k_g ?_
  refine HK ?_;refine HL ?_;refine HM ?_;iterate 3 refine AA ?_
  exact AG (AD (B9 results53 (BN rfl rfl underlying28 rfl sizeOf28 rfl) (Ad rfl rfl underlying63 rfl sizeOf63 rfl rfl) (AE rfl)) fun _ _ hr=>⟨rfl,hr.1⟩)
theorem dX(hok:n0.ok)(htail: ∀g pa,Fv n0=JP n0 g pa→ ∀f:Nat→Value,VOk prog w ⟨(.v v:: .v (f 1):: .p 2 0:: .p 3 0:: .v (f 4):: .p 5 0:: .v (f 6):: .v (f 7):: .p 8 0:: .p 9 0::fv f 113 10 []),AK [(9,.cells [.v (.int .i64 (BF (AL [1] (AL [0] n0)))),.v (.string (AI (B6 (AL [3,0,1] (AL [0] n0))))),.v (.string (AI (B6 (AL [5,0,1] (AL [0] n0))))),.v (.int .i64 (BF (AL [4,0] (AL [0] n0)))),.v (.int .i64 (BF (AL [4,1] (AL [0] n0)))),.d 55,.v (.bool g),.v (.int .i64 pa),.v (.int .i64 0)] 28),(55,.row (Bv (AL [6,1] (AL [0] n0))).length 1 5 (.exact ((Bv (AL [6,1] (AL [0] n0))).map b8))),(8,.cells [.fn (AU 0) (.d 28),.fn (AU 1) (.d 28),.fn (AU 2) (.d 28)] 108),(28,.dat (AQ (AL [7,0] (AL [0] n0)))),(5,.cells [.fn (AU 0) (.d 16),.fn (AU 1) (.d 16),.fn (AU 2) (.d 16)] 108),(16,.dat (AQ n0)),(3,.cells (zs 64) 63),(2,.cells [.v (.int .i64 0),.v (.string (ByteArray.mk #[])),.v (.string (ByteArray.mk #[])),.v (.int .i64 0),.v (.int .i64 0),.v (.slice none 0 0),.v (.bool false),.v (.int .i64 0),.v (.int .i64 0)] 28)]⟩ (Hn 7 (JU f53)) (QB prog f53 w (fun e w'=>RdC w w' e Rr∧Bw w w')))(f:Nat→Value):VOk prog w ⟨(.v v:: .v (f 1):: .p 2 0:: .p 3 0:: .v (f 4):: .p 5 0:: .v (f 6):: .v (f 7):: .p 8 0:: .p 9 0::fv f 113 10 []),AK [(9,.cells [.v (.int .i64 (BF (AL [1] (AL [0] n0)))),.v (.string (AI (B6 (AL [3,0,1] (AL [0] n0))))),.v (.string (AI (B6 (AL [5,0,1] (AL [0] n0))))),.v (.int .i64 (BF (AL [4,0] (AL [0] n0)))),.v (.int .i64 (BF (AL [4,1] (AL [0] n0)))),.d 55,.v (.bool false),.v (.int .i64 0),.v (.int .i64 0)] 28),(55,.row (Bv (AL [6,1] (AL [0] n0))).length 1 5 (.exact ((Bv (AL [6,1] (AL [0] n0))).map b8))),(8,.cells [.fn (AU 0) (.d 28),.fn (AU 1) (.d 28),.fn (AU 2) (.d 28)] 108),(28,.dat (AQ (AL [7,0] (AL [0] n0)))),(5,.cells [.fn (AU 0) (.d 16),.fn (AU 1) (.d 16),.fn (AU 2) (.d 16)] 108),(16,.dat (AQ n0)),(3,.cells (zs 64) 63),(2,.cells [.v (.int .i64 0),.v (.string (ByteArray.mk #[])),.v (.string (ByteArray.mk #[])),.v (.int .i64 0),.v (.int .i64 0),.v (.slice none 0 0),.v (.bool false),.v (.int .i64 0),.v (.int .i64 0)] 28)]⟩ (Hn 6 (JU f53)) (QB prog f53 w (fun e w'=>RdC w w' e Rr∧Bw w w')):=by
 try simp only[fv,zs,Nat.reduceAdd]
 obtain⟨ktg,kbd,kks,hK⟩: ∃tg bd ks,CR (AL [0,2] (AL [7,0] (AL [0] n0)))=Tr.mk tg bd ks:=by cases CR (AL [0,2] (AL [7,0] (AL [0] n0)))with|mk tg bd ks=>exact⟨tg,bd,ks,rfl⟩
 have hkok:(Tr.mk ktg kbd kks).ok:=hK▸Qa (A8 _ (A8 _ (A8 _ hok)));obtain⟨g,h_g⟩: ∃p,decide (((kks.length:Nat):Int)>0)=p:=⟨_,rfl⟩
 iterate 3 refine k_g ?_
 refine AA ?_;refine AB (by exact BV rfl rfl gg rfl (e:=3) (l:=DY [0,2]) rfl (by decide) (fun _=>by kernel_rfl)) ?_;refine AB (by exact Bp (AQ (AL [0,2] (AL [7,0] (AL [0] n0)))) [28,58] rfl rfl gg rfl (eo func92) (fun ρ S w' hb hR=>EC 28 58 [0,2] hR (by simp) (by simp) rfl rfl)) ?_;refine AB (by exact BG (D:=AQ (.mk ktg kbd kks)) [59] rfl rfl gg rfl (eo func96) (fun ρ S w' hb hR=>hK▸RB 59 (A8 _ ((A8 _ ((A8 _ (hok)))))) hR (by simp) rfl)) ?_;refine AA ?_;refine MO ?_;iterate 3 refine k_g ?_
 refine AA ?_;refine AB (by exact Cl rfl gg rfl rfl underlying106 rfl rfl) ?_;refine AB (by exact NQ rfl gg rfl underlying106 (Is (ks:=kks) rfl)) ?_;refine AB (by exact Bf rfl gg rfl rfl h_g) ?_;refine k_g ?_;cases g
 ·iterate 2 refine k_g ?_
  refine F5 (fun i=>i==0||i==2||i==3||i==5||i==8||i==9) [10,58,59,60,66,67] (fun f=>by simp[CC];exact rfl) (by simp[BS];exact rfl) fun f=> ?_
  first|exact htail _ _ (YL hK h_g) f|exact htail _ _ (YM hK h_g) f
 ·iterate 2 refine k_g ?_
  refine AA ?_;refine Td ?_;refine AB (by exact Bp (AQ (AL [1] (.mk ktg kbd kks))) [60,66] rfl rfl gg rfl (eo func92) (fun ρ S w' hb hR=>EC 60 66 [1] hR (by simp) (by simp) rfl rfl)) ?_;refine AB (by exact Aj (v:= .int .i64 (BF (AL [1] (.mk ktg kbd kks)))) [67] rfl gg rfl (eo func93) (fun ρ S w' hb hR=>JR 67 (A8 _ (hkok)) hR (by simp) rfl)) ?_;refine AA ?_;refine AB (by exact Be rfl gg rfl rfl rfl sizeOf4 rfl (by simp) rfl) ?_;iterate 2 refine AA ?_
  refine k_g ?_;refine F5 (fun i=>i==0||i==2||i==3||i==5||i==8||i==9) [10,58,59,60,66,67] (fun f=>by simp[CC];exact rfl) (by simp[BS];exact rfl) fun f=> ?_
  first|exact htail _ _ (YL hK h_g) f|exact htail _ _ (YM hK h_g) f
theorem dW{g:Bool}{pa:Int}(hok:n0.ok)(hbad:(wiB (HT n0) 0 3 && wiB (Hd n0) 0 3)=false→Rr=none)(htail:wiB (HT n0) 0 3=true→wiB (Hd n0) 0 3=true→ ∀c,c=JP n0 g pa→ ∀f:Nat→Value,VOk prog w ⟨(.v v:: .v (f 1):: .p 2 0:: .p 3 0:: .v (f 4):: .p 5 0:: .v (f 6):: .v (f 7):: .v (f 8):: .p 9 0::fv f 113 10 []),AK [(9,.cells [.v (.int .i64 c.se),.v (.string (AI c.is)),.v (.string (AI c.su)),.v (.int .i64 c.fr),.v (.int .i64 c.to),.d 55,.v (.bool c.ca),.v (.int .i64 c.pa),.v (.int .i64 c.us)] 28),(55,.row c.ky.length 1 5 (.exact (c.ky.map b8))),(5,.cells [.fn (AU 0) (.d 16),.fn (AU 1) (.d 16),.fn (AU 2) (.d 16)] 108),(16,.dat (AQ n0)),(3,.cells (zs 64) 63),(2,.cells [.v (.int .i64 0),.v (.string (ByteArray.mk #[])),.v (.string (ByteArray.mk #[])),.v (.int .i64 0),.v (.int .i64 0),.v (.slice none 0 0),.v (.bool false),.v (.int .i64 0),.v (.int .i64 0)] 28)]⟩ (Hn 10 (JU f53)) (QB prog f53 w (fun e w'=>RdC w w' e Rr∧Bw w w')))(f:Nat→Value):VOk prog w ⟨(.v v:: .v (f 1):: .p 2 0:: .p 3 0:: .v (f 4):: .p 5 0:: .v (f 6):: .v (f 7):: .p 8 0:: .p 9 0::fv f 113 10 []),AK [(9,.cells [.v (.int .i64 (BF (AL [1] (AL [0] n0)))),.v (.string (AI (B6 (AL [3,0,1] (AL [0] n0))))),.v (.string (AI (B6 (AL [5,0,1] (AL [0] n0))))),.v (.int .i64 (BF (AL [4,0] (AL [0] n0)))),.v (.int .i64 (BF (AL [4,1] (AL [0] n0)))),.d 55,.v (.bool g),.v (.int .i64 pa),.v (.int .i64 0)] 28),(55,.row (Bv (AL [6,1] (AL [0] n0))).length 1 5 (.exact ((Bv (AL [6,1] (AL [0] n0))).map b8))),(8,.cells [.fn (AU 0) (.d 28),.fn (AU 1) (.d 28),.fn (AU 2) (.d 28)] 108),(28,.dat (AQ (AL [7,0] (AL [0] n0)))),(5,.cells [.fn (AU 0) (.d 16),.fn (AU 1) (.d 16),.fn (AU 2) (.d 16)] 108),(16,.dat (AQ n0)),(3,.cells (zs 64) 63),(2,.cells [.v (.int .i64 0),.v (.string (ByteArray.mk #[])),.v (.string (ByteArray.mk #[])),.v (.int .i64 0),.v (.int .i64 0),.v (.slice none 0 0),.v (.bool false),.v (.int .i64 0),.v (.int .i64 0)] 28)]⟩ (Hn 7 (JU f53)) (QB prog f53 w (fun e w'=>RdC w w' e Rr∧Bw w w')):=by
 try simp only[fv,zs,Nat.reduceAdd]
 obtain⟨lo,h_lo⟩: ∃p,wiB (BF (CR (AL [1,2] (AL [7,0] (AL [0] n0))))) 0 3=p:=⟨_,rfl⟩
 obtain⟨hi,h_hi⟩: ∃p,wiB (BF (CR (AL [2,1] (AL [7,0] (AL [0] n0))))) 0 3=p:=⟨_,rfl⟩
 have hbad':(lo && hi)=false→Rr=none:=fun h=>hbad (by rw[←h,←h_lo,←h_hi];rfl)
 iterate 2 refine k_g ?_
 refine AA ?_;refine AB (by exact BV rfl rfl gg rfl (e:=3) (l:=DY [1,2]) rfl (by decide) (fun _=>by kernel_rfl)) ?_;refine AB (by exact Bp (AQ (AL [1,2] (AL [7,0] (AL [0] n0)))) [28,72] rfl rfl gg rfl (eo func92) (fun ρ S w' hb hR=>EC 28 72 [1,2] hR (by simp) (by simp) rfl rfl)) ?_;refine AB (by exact BG (D:=AQ (CR (AL [1,2] (AL [7,0] (AL [0] n0))))) [73] rfl rfl gg rfl (eo func96) (fun ρ S w' hb hR=>RB 73 (A8 _ ((A8 _ ((A8 _ (hok)))))) hR (by simp) rfl)) ?_;refine AB (by exact Aj (v:= .int .i64 (BF (CR (AL [1,2] (AL [7,0] (AL [0] n0)))))) [74] rfl gg rfl (eo func93) (fun ρ S w' hb hR=>JR 74 (Qa (A8 _ ((A8 _ ((A8 _ (hok))))))) hR (by simp) rfl)) ?_;refine AA ?_;refine AB (by exact BV rfl rfl gg rfl (e:=3) (l:=DY [2,1]) rfl (by decide) (fun _=>by kernel_rfl)) ?_;refine AB (by exact Bp (AQ (AL [2,1] (AL [7,0] (AL [0] n0)))) [28,77] rfl rfl gg rfl (eo func92) (fun ρ S w' hb hR=>EC 28 77 [2,1] hR (by simp) (by simp) rfl rfl)) ?_;refine AB (by exact BG (D:=AQ (CR (AL [2,1] (AL [7,0] (AL [0] n0))))) [78] rfl rfl gg rfl (eo func96) (fun ρ S w' hb hR=>RB 78 (A8 _ ((A8 _ ((A8 _ (hok)))))) hR (by simp) rfl)) ?_;refine AB (by exact Aj (v:= .int .i64 (BF (CR (AL [2,1] (AL [7,0] (AL [0] n0)))))) [79] rfl gg rfl (eo func93) (fun ρ S w' hb hR=>JR 79 (Qa (A8 _ ((A8 _ ((A8 _ (hok))))))) hR (by simp) rfl)) ?_;iterate 5 refine AA ?_
 have h3:(lo=true∧hi=true)∨(lo=false∨(lo=true∧hi=false)):=by cases lo<;>cases hi<;>simp
 rcases h3 with⟨rfl,rfl⟩|h3
 ·skip
  iterate 2 refine AA ?_
  refine AB (by exact C0 h_lo rfl gg rfl (eo func35) (fun w' hw'=>Dm w')) ?_;refine k_9 ?_;iterate 2 refine AA ?_
  refine AB (by first|exact Ev.skip (fun _=>rfl)|exact C0 h_hi rfl (fun _=>rfl) rfl (eo func35) (fun w' hw'=>Dm w')) ?_;refine CW ?_;iterate 6 refine AA ?_
  refine AB (by exact AN rfl gg rfl rfl (fun w=>gO (C3.1 h_hi).1 (C3.1 h_hi).2 _ _ w)) ?_;refine AA ?_;refine AB (by exact AN rfl gg rfl rfl (fun w=>uD (C3.1 h_hi).1 (C3.1 h_hi).2 (C3.1 h_lo).1 (C3.1 h_lo).2 _ _ w)) ?_;iterate 2 refine AA ?_
  refine k_g ?_;refine F5 (fun i=>i==0||i==2||i==3||i==5||i==9) [8,28,72,73,74,77,78,79] (fun f=>by simp[CC];exact rfl) (by simp[BS];exact rfl) fun f=> ?_
  exact htail h_lo h_hi _ rfl f
 ·have hz:Rr=none:=hbad' (by rcases h3 with rfl|⟨rfl,rfl⟩<;>simp)
  subst hz;rcases h3 with rfl|⟨rfl,rfl⟩<;>
  (
   iterate 2 refine AA ?_
   refine AB (by exact C0 h_lo rfl gg rfl (eo func35) (fun w' hw'=>Dm w')) ?_;refine k_9 ?_;iterate 2 refine AA ?_
   refine AB (by first|exact Ev.skip (fun _=>rfl)|exact C0 h_hi rfl (fun _=>rfl) rfl (eo func35) (fun w' hw'=>Dm w')) ?_;refine CW ?_;iterate 4 refine k_g ?_
   refine HK ?_;refine HL ?_;refine HM ?_;iterate 3 refine AA ?_
   exact AG (AD (B9 results53 (BN rfl rfl underlying28 rfl sizeOf28 rfl) (Ad rfl rfl underlying63 rfl sizeOf63 rfl rfl) (AE rfl)) fun _ _ hr=>⟨rfl,hr.1⟩)
  )
theorem dV{F:Nat→Prop}{c:Crt}(hL:Laid w)(hv:AJ w v b.length 1 (b.map b8) F)(h8: ∀x∈b,x<256)(hok:n0.ok)(i8: ∀x∈c.is,x<256)(il:c.is.length≤1048576)(s8: ∀x∈c.su,x<256)(sl:c.su.length≤1048576)(k8: ∀x∈c.ky,x<256)(hRr:Rr=I7 c b (sgT (Bv (AL [2] n0))))(f:Nat→Value):VOk prog w ⟨(.v v:: .v (f 1):: .p 2 0:: .p 3 0:: .v (f 4):: .p 5 0:: .v (f 6):: .v (f 7):: .v (f 8):: .p 9 0::fv f 113 10 []),AK [(9,.cells [.v (.int .i64 c.se),.v (.string (AI c.is)),.v (.string (AI c.su)),.v (.int .i64 c.fr),.v (.int .i64 c.to),.d 55,.v (.bool c.ca),.v (.int .i64 c.pa),.v (.int .i64 c.us)] 28),(55,.row c.ky.length 1 5 (.exact (c.ky.map b8))),(5,.cells [.fn (AU 0) (.d 16),.fn (AU 1) (.d 16),.fn (AU 2) (.d 16)] 108),(16,.dat (AQ n0)),(3,.cells (zs 64) 63),(2,.cells [.v (.int .i64 0),.v (.string (ByteArray.mk #[])),.v (.string (ByteArray.mk #[])),.v (.int .i64 0),.v (.int .i64 0),.v (.slice none 0 0),.v (.bool false),.v (.int .i64 0),.v (.int .i64 0)] 28)]⟩ (Hn 10 (JU f53)) (QB prog f53 w (fun e w'=>RdC w w' e Rr∧Bw w w')):=by
 try simp only[fv,zs,Nat.reduceAdd]
 have hsg:=A8 [2] hok;refine k_g ?_;rcases h_s:sgT (Bv (AL [2] n0))with _|⟨r,t⟩<;>rw[h_s]at hRr
 ·subst hRr
  refine k_g ?_;refine AA ?_;refine Tn ?_;refine Tq ?_;refine Te ?_;refine Tj ?_;iterate 11 refine AA ?_
  refine IW ?_;iterate 2 refine AA ?_
  refine MM ?_;refine CW ?_;iterate 3 refine AA ?_
  refine MP ?_;refine AA ?_;refine MN ?_;refine CW ?_;iterate 4 refine k_g ?_
  refine HK ?_;refine HL ?_;refine HM ?_;iterate 3 refine AA ?_
  refine AG ?_;refine AD (B9 results53 (BN rfl rfl underlying28 rfl sizeOf28 rfl) (Ad rfl rfl underlying63 rfl sizeOf63 rfl rfl) (AE rfl)) ?_;intro ρ w' hr;first|exact⟨rfl,hr.1⟩|exact⟨⟨(ρ 55).val,rfl,BR hr rfl⟩,hr.1⟩
 ·skip
  refine k_g ?_;refine AA ?_;refine Tn ?_;refine Tq ?_;refine Te ?_;refine Tj ?_;iterate 9 refine AA ?_
  obtain⟨z,h_r⟩: ∃z,Df c=z:=⟨_,rfl⟩
  obtain⟨y,h_e⟩: ∃y,decide ((wrT (c.whole r t)).1=b)=y:=⟨_,rfl⟩
  rw[I7,h_r,h_e]at hRr;have h3:z=false∨(z=true∧y=false)∨(z=true∧y=true):=by cases z<;>cases y<;>simp
  rcases h3 with rfl|⟨rfl,rfl⟩|⟨rfl,rfl⟩
  ·simp only[Bool.not_false,cond_true]at hRr
   subst hRr;iterate 2 refine AA ?_
   refine IW ?_;iterate 2 refine AA ?_
   refine MM ?_;refine CW ?_;iterate 3 refine AA ?_
   refine MP ?_;refine AA ?_;refine MN ?_;refine CW ?_;iterate 4 refine k_g ?_
   refine HK ?_;refine HL ?_;refine HM ?_;iterate 3 refine AA ?_
   refine AG ?_;refine AD (B9 results53 (BN rfl rfl underlying28 rfl sizeOf28 rfl) (Ad rfl rfl underlying63 rfl sizeOf63 rfl rfl) (AE rfl)) ?_;intro ρ w' hr;first|exact⟨rfl,hr.1⟩|exact⟨⟨(ρ 55).val,rfl,BR hr rfl⟩,hr.1⟩
  ·simp only[Bool.not_true,Bool.not_false,cond_false,cond_true]at hRr
   subst hRr;have hF:=IV i8 s8 k8 h_r;iterate 2 refine AA ?_
   refine IW ?_;iterate 2 refine AA ?_
   refine MM ?_;refine CW ?_;iterate 3 refine AA ?_
   refine MP ?_;refine AA ?_;refine MN ?_;refine CW ?_;iterate 4 refine k_g ?_
   refine HK ?_;refine HL ?_;refine HM ?_;iterate 3 refine AA ?_
   refine AG ?_;refine AD (B9 results53 (BN rfl rfl underlying28 rfl sizeOf28 rfl) (Ad rfl rfl underlying63 rfl sizeOf63 rfl rfl) (AE rfl)) ?_;intro ρ w' hr;first|exact⟨rfl,hr.1⟩|exact⟨⟨(ρ 55).val,rfl,BR hr rfl⟩,hr.1⟩
  ·simp only[Bool.not_true,cond_false]at hRr
   subst hRr;have hF:=IV i8 s8 k8 h_r;iterate 2 refine AA ?_
   refine IW ?_;iterate 2 refine AA ?_
   refine MM ?_;refine CW ?_;iterate 3 refine AA ?_
   refine MP ?_;refine AA ?_;refine MN ?_;refine CW ?_;iterate 5 refine k_g ?_
   iterate 2 refine AA ?_
   refine HM ?_;iterate 3 refine AA ?_
   refine AG ?_;refine AD (B9 results53 (BN rfl rfl underlying28 rfl sizeOf28 rfl) (Ad rfl rfl underlying63 rfl sizeOf63 rfl rfl) (AE rfl)) ?_;intro ρ w' hr;first|exact⟨rfl,hr.1⟩|exact⟨⟨(ρ 55).val,rfl,BR hr rfl⟩,hr.1⟩
theorem TO{F:Nat→Prop}(hL:Laid w)(hv:AJ w v b.length 1 (b.map b8) F)(h8: ∀x∈b,x<256)(hbl:b.length≤1048576):Calls prog 53 #[v] w fun e w'=>RdC w w' e (rdC b)∧Bw w w':=by
 refine dY w hL hv h8 hbl (fun h=>by rw[rdC,h];rfl) fun n0 E hT hE h_E hok f=> ?_
 have e1:rdC b=Hg n0 b:=by rw[rdC,hT,hE,h_E];rfl
 refine dX w hok (fun g pa hC f=> ?_) f;refine dW w hok (fun h=>by rw[e1,Hg,h];rfl) (fun h1 h2 c hc f=> ?_) f;subst hc;have his:=Gp (A8 [3,0,1] (A8 [0] hok));have hsu:=Gp (A8 [5,0,1] (A8 [0] hok));exact dV w hL hv h8 hok his.1 his.2 hsu.1 hsu.2 (J2 (A8 [6,1] (A8 [0] hok))) (by rw[e1,Hg,h1,h2,hC];rfl) f
end Go.Proofs.YtefpajmkaaielaaGreatDoor
