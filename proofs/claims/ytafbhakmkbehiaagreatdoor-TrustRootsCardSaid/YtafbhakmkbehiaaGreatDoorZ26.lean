import Derived.Test.YtafbhakmkbehiaaGreatDoorZ25
open Go.Proofs.Tryz
set_option maxHeartbeats 4000000
set_option maxRecDepth 100000
namespace Go.Proofs.YtafbhakmkbehiaaGreatDoor
open Go.RowKit Go.Vx
variable(w:World){ops:Array Oper}{xs:Array Operand}{ats:Array TypeId}{x:Bool}{f:FuncId}{n tg:Int}{a b bd rd:List Nat}{ks:List Tr}{news vs:List Value}{h id k r size:Nat}{ρ:Nat→Nm}{S:Nat→Prop}{o:Oper}{Rr:Option (Crt×Nat×Nat)}{P:Program}{n0 t:Tr}{bt:TypeId}{s:VS}{v:Value}{w0:World}
open TollMont
open Go.Toll (Gw)
open TollEc (F pp cb Jp Pt Au add base nn neg)
open TollSha (sha CH)
theorem aX{dT sT e:TypeId}{x y:Operand}{off len cap:Nat}{l:List SV}{sv:SV}(ho:o.op= .call {callee:= .builtin .copy,args:= #[x,y],argTypes:= #[dT,sT]})(hgd:AQ ops o s)
 (hx:AE s x= .s id off len cap)(hm:s.mem id=some (.cells l bt))(hy:AE s y=sv)(hr:Rdg w0 s.mem rd sv k 1 news)(hu:P.underlying dT=some (.slice e))(hs:(P.info? e).map (·.size)=some 1)
 (hlen:news.length=k)(hk:k≤len)(hfit:off+k≤l.length)(h1:news.all (·.oneCell')=true)(hpos:0<k):
 Ev P ops w0 o s ⟨.v (.int .i64 (k:Nat)),[(id,.cells (l.take off++news.map .v++l.drop (off+k)) bt)],[id],[],id::rd⟩:=
 Ev.wrv id _ _ _ _ hgd hm (by simp) fun ρ S w hb hR=>by
  have e1:=AI s ρ x;rw[hx]at e1;have e2:=AI s ρ y;rw[hy]at e2;obtain⟨hg0,hg⟩:=relon_get hR hm (by simp)
  have hR2:RelOn w0.heap.size ρ S w (restr rd s.mem):=by
   have:=hR.restr rd
   have e:restr rd (restr (id::rd) s.mem)=restr rd s.mem:=by
    funext j;unfold restr
    by_cases h:j∈rd<;>simp[h]
   rwa [e]at this
  obtain⟨S1,ao,cp,h3,h4,h5,h6⟩:=hr ρ S w hb hR2;rcases h6 with h6|⟨a,rfl,_,h6⟩
  ·exfalso;rw[h6]at hlen;simp at hlen;omega
  ·rw[h3]at e2
   simp only[SV.c]at e1;have hrun:=run_copy_row (P:=P) w dT sT o.type e (ρ id).g off len cap a k cp (SV.cs ρ l).toArray bt news hu hs hg (by rw[hlen];exact(Nat.min_eq_left hk).symm) h6 (by rw[hlen];simp[A8];omega) (fun u hu=>List.all_eq_true.1 h1 u hu);refine⟨True.intro,w.setRow (ρ id).g ((SV.cs ρ l).toArray.toList.take off++news++(SV.cs ρ l).toArray.toList.drop (off+news.length)).toArray,?_,⟨rfl,rfl,rfl,by simp,fun k hk=>setRow_other w _ k _ hk⟩,hg0,(setRow_heap w (ρ id).g _ _ _ _ hg).trans ?_⟩
   ·unfold execOp
    simp only[ho,resolve,invoke,builtin,Sem.run_bind,Sem.run_pure,Result.andThen_ok,List.map_toArray,List.map_cons,List.map_nil,e1,e2,hrun,SV.c,goInt,hlen]
   ·simp[CP,A8,hlen,List.map_take,List.map_drop,SV.c,Function.comp_def]
def tbB(t:Tr):Nat:=TollBy.beV (tbN t).1 0
def H5:List Tr→Option (Nat×Nat)
 | [a,b]=>bif decide ((tbN a).2≠0)then none else bif decide ((tbN b).2≠0)then none else some (tbB a,tbB b)
 |_=>none
def KA:Tr→Option (Nat×Nat)
 | .mk t _ ks=>bif decide (t≠48)then none else H5 ks
def sgT(b:List Nat):Option (Nat×Nat):=bif decide ((rdT b).2≠0)then none else KA (rdT b).1
def ZV:Value:= .agg #[.int .u8 0,.int .u8 0,.int .u8 0,.int .u8 0,.int .u8 0,.int .u8 0,.int .u8 0,.int .u8 0,.int .u8 0,.int .u8 0,.int .u8 0,.int .u8 0,.int .u8 0,.int .u8 0,.int .u8 0,.int .u8 0,.int .u8 0,.int .u8 0,.int .u8 0,.int .u8 0,.int .u8 0,.int .u8 0,.int .u8 0,.int .u8 0,.int .u8 0,.int .u8 0,.int .u8 0,.int .u8 0,.int .u8 0,.int .u8 0,.int .u8 0,.int .u8 0,.int .u8 0,.int .u8 0,.int .u8 0,.int .u8 0,.int .u8 0,.int .u8 0,.int .u8 0,.int .u8 0,.int .u8 0,.int .u8 0,.int .u8 0,.int .u8 0,.int .u8 0,.int .u8 0,.int .u8 0,.int .u8 0,.int .u8 0,.int .u8 0,.int .u8 0,.int .u8 0,.int .u8 0,.int .u8 0,.int .u8 0,.int .u8 0,.int .u8 0,.int .u8 0,.int .u8 0,.int .u8 0,.int .u8 0,.int .u8 0,.int .u8 0,.int .u8 0]
def sgV:Option (Nat×Nat)→Value
 |some (r,t)=> .tuple #[PT r t,.int .i64 0]
 |none=> .tuple #[ZV,.int .i64 2]
theorem Xr: ∀{ks:List Tr},ks.length≠2→H5 ks=none
 | [],_=>rfl
 | [_],_=>rfl
 | [_,_],h=>absurd rfl h
 |_::_::_::_,_=>rfl
theorem Xq: ∀{ks:List Tr},ks.length=2→ ∃a b,ks=[a,b]
 | [a,b],_=>⟨a,b,rfl⟩
 | [],h=>by simp at h
 | [_],h=>by simp at h
 |_::_::_::_,h=>by simp at h
theorem VU(hok:t.ok):tbB t<R:=by
 have:=TollBy.beV_lt (tbN t).1 (VR hok);rw[VT]at this;exact Nat.lt_of_lt_of_eq this (by decide)
theorem eG(hok:t.ok):Value.agg ((tbN t).1.map b8).toArray=B32 (tbB t):=by rw[Qq,tbB,G6 (VT t) (VR hok)]
theorem bf:prog.built 22 []=some #[.int .u8 0,.int .u8 0,.int .u8 0,.int .u8 0,.int .u8 0,.int .u8 0,.int .u8 0,.int .u8 0,.int .u8 0,.int .u8 0,.int .u8 0,.int .u8 0,.int .u8 0,.int .u8 0,.int .u8 0,.int .u8 0,.int .u8 0,.int .u8 0,.int .u8 0,.int .u8 0,.int .u8 0,.int .u8 0,.int .u8 0,.int .u8 0,.int .u8 0,.int .u8 0,.int .u8 0,.int .u8 0,.int .u8 0,.int .u8 0,.int .u8 0,.int .u8 0,.int .u8 0,.int .u8 0,.int .u8 0,.int .u8 0,.int .u8 0,.int .u8 0,.int .u8 0,.int .u8 0,.int .u8 0,.int .u8 0,.int .u8 0,.int .u8 0,.int .u8 0,.int .u8 0,.int .u8 0,.int .u8 0,.int .u8 0,.int .u8 0,.int .u8 0,.int .u8 0,.int .u8 0,.int .u8 0,.int .u8 0,.int .u8 0,.int .u8 0,.int .u8 0,.int .u8 0,.int .u8 0,.int .u8 0,.int .u8 0,.int .u8 0,.int .u8 0]:=by kernel_rfl
theorem p8{c:List Value}{w:World}(h1:(ρ id).val= .agg c.toArray)(h2:DN w S t c):SV.c ρ (.fn (AN 0) (.d id))= .int .i64 (Lf t):=by
 cases t with
 |mk tg b ks=>
  rw[DN]at h2;obtain⟨_,_,_,rfl,_⟩:=h2;simp[SV.c,h1,AN,Value.cells,Lf]
theorem bO{w:World}{base:Nat}{S:Nat→Nat→Prop}{m:Mem}(i:Nat)(hok:t.ok)(hR:RelOn base ρ S w (restr rd m))(hi:i∈rd)(h1:m i=some (.dat (AR t))):Calls prog 26 (SV.cs ρ [.agg [.fn (AN 0) (.d i),.fn (AN 1) (.d i),.fn (AN 2) (.d i)]]).toArray w fun e w'=>e= .returned (.tuple #[B32 (tbB t),.int .i64 (tbN t).2])∧Bw w w':=by
 obtain⟨c,e1,d1⟩:=cW hR hi h1;rw[←eG hok];simp only[SV.cs,e1];exact d9 w hok d1
theorem LU{F:Nat→Prop}(hv:AO w v b.length 1 (b.map b8) F)(h8: ∀x∈b,x<256)(hbl:b.length≤1048576):Calls prog 8 #[v] w fun e w'=>e= .returned (sgV (sgT b))∧Bw w w':=by
 obtain⟨tg,bd,ks,hT⟩: ∃tg bd ks,(rdT b).1=Tr.mk tg bd ks:=by cases (rdT b).1 with|mk tg bd ks=>exact⟨tg,bd,ks,rfl⟩
 obtain⟨E,hE⟩: ∃E,(rdT b).2=E:=⟨_,rfl⟩
 have hok:=I3 h8 hbl;rw[hT]at hok;have hks:oks ks:=by simp only[Tr.ok]at hok;exact hok.2.2.2
 obtain⟨p,h_p⟩: ∃p,decide (E≠0)=p:=⟨_,rfl⟩
 obtain⟨q,h_q⟩: ∃p,decide (tg≠48)=p:=⟨_,rfl⟩
 obtain⟨r,h_r⟩: ∃p,decide (((ks.length:Nat):Int)≠2)=p:=⟨_,rfl⟩
 rw[sgT,hT,hE,h_p,KA,h_q]
 go_enter func8,ntmps8
 refine Ep ?_
 refine Ef ?_;iterate 4 refine AL ?_
 refine Ef ?_;iterate 4 refine AL ?_
 refine AA (by exact DL (D:=AR (.mk tg bd ks)) (ys:=[.int .i64 E]) [] rfl rfl gg rfl (eo func25) (fun ρ S w' hb hR=>(by have:=Uk w' (A5 hv hb) h8 hbl;rw[hT,hE]at this;exact this))) ?_;iterate 3 refine AL ?_
 refine EL ?_;refine SE ?_;iterate 4 refine AL ?_
 have h3:(p=false∧q=false∧r=false)∨(p=true∨(p=false∧q=true)∨(p=false∧q=false∧r=true)):=by cases p<;>cases q<;>cases r<;>simp
 rcases h3 with⟨rfl,rfl,rfl⟩|h3
 ·have hk2:ks.length=2:=by have:=of_decide_eq_false h_r;omega
  obtain⟨k0,k1,rfl⟩:=Xq hk2;obtain⟨a0,h_a0⟩: ∃a,decide ((tbN k0).2≠0)=a:=⟨_,rfl⟩
  obtain⟨a1,h_a1⟩: ∃a,decide ((tbN k1).2≠0)=a:=⟨_,rfl⟩
  rw[H5,h_a0,h_a1];iterate 2 refine AL ?_
  refine AA (by exact BB rfl gg rfl rfl h_p) ?_;refine AL ?_;refine XX ?_;refine Ws ?_;refine AA (by first|exact Ev.skip (fun _=>rfl)|exact Ev.skip (fun _=>rfl)|exact BB rfl (fun _=>rfl) rfl rfl h_q) ?_;refine C0 ?_;refine XZ ?_;refine AA (by first|exact Ev.skip (fun _=>rfl)|exact Ev.skip (fun _=>rfl)|exact BK rfl (fun _=>rfl) rfl rfl underlying59 rfl rfl) ?_;refine AA (by first|exact Ev.skip (fun _=>rfl)|exact Ev.skip (fun _=>rfl)|exact Jg rfl (fun _=>rfl) rfl underlying59 (Ka rfl)) ?_;refine AA (by first|exact Ev.skip (fun _=>rfl)|exact Ev.skip (fun _=>rfl)|exact BB rfl (fun _=>rfl) rfl rfl h_r) ?_;refine q_0 ?_;iterate 6 refine q_k ?_
  refine Ov ?_;refine AA (by exact BK rfl gg rfl rfl underlying59 rfl rfl) ?_;refine AA (by exact Jg rfl gg rfl underlying59 (Ka (ks:=[k0,k1]) rfl)) ?_;iterate 3 refine AL ?_
  refine Br 3 ?_;refine HR ?_
  refine AA (by exact BM (p:=true) rfl gg rfl rfl rfl) ?_;iterate 9 refine AL ?_
  refine AA (by exact QC (k:=0) rfl gg rfl rfl underlying59 sizeOf61 (Ka (ks:=[k0,k1]) rfl) (by simp) (by decide)) ?_;refine AA (by exact P9 (D:=AR (k0)) rfl rfl gg rfl underlying61 rfl sizeOf61 (ZD (i:=0) (_k:=0) (ks:=[k0,k1]) rfl rfl) au (by decide)) ?_;refine EL ?_;refine AL ?_;refine SE ?_;iterate 3 refine q_k ?_
  refine q_8 ?_;refine AA (by exact Aj (v:= .tuple #[B32 (tbB k0),.int .i64 (tbN k0).2]) [37] rfl gg rfl (eo func26) (fun ρ S w' hb hR=>bO 37 (Ei hks (i:=0) rfl) hR (by simp) rfl)) ?_;iterate 3 refine AL ?_
  refine I4 ?_;refine KM ?_;iterate 6 refine AL ?_
  refine AA (by exact BB rfl gg rfl rfl h_a0) ?_;refine q_k ?_;cases a0
  ·iterate 4 refine AL ?_
   refine AA (by exact AK (c:= .int .i64 0) rfl gg rfl rfl (fun w=>by go_simp;rfl)) ?_;refine AA (by exact LD (a:=0) (b:=64) rfl gg rfl underlying22 sizeOf5 rfl rfl (by decide) (by decide) (by decide)) ?_;refine O8 ?_;refine AA (by exact aX (news:=l32 (tbB k0)) (len:=64) (k:=32) rfl gg rfl rfl rfl (Hw rfl rfl rfl (by decide)) underlying23 Er rfl (by decide) (Nat.le_of_ble_eq_true rfl) rfl (by decide)) ?_;iterate 2 refine q_k ?_
   refine AA (by exact BE (c:=1) rfl gg rfl rfl (by decide)) ?_;iterate 2 refine AL ?_
   refine Ea (fun i=>decide (i<7)||i==31||i==32||i==33) [37,8,9] (fun f=>by simp[B0];exact rfl) (by simp[BQ];exact rfl) fun f=> ?_
   iterate 2 refine q_k ?_
   refine AA (by exact BM (p:=true) rfl gg rfl rfl rfl) ?_;iterate 9 refine AL ?_
   refine AA (by exact QC (k:=1) rfl gg rfl rfl underlying59 sizeOf61 (Ka (ks:=[k0,k1]) rfl) (by simp) (by decide)) ?_;refine AA (by exact P9 (D:=AR (k1)) rfl rfl gg rfl underlying61 rfl sizeOf61 (ZD (i:=1) (_k:=0) (ks:=[k0,k1]) rfl rfl) au (by decide)) ?_;refine EL ?_;refine AL ?_;refine SE ?_;iterate 3 refine q_k ?_
   refine q_8 ?_;refine AA (by exact Aj (v:= .tuple #[B32 (tbB k1),.int .i64 (tbN k1).2]) [37] rfl gg rfl (eo func26) (fun ρ S w' hb hR=>bO 37 (Ei hks (i:=1) rfl) hR (by simp) rfl)) ?_;iterate 3 refine AL ?_
   refine I4 ?_;refine KM ?_;iterate 6 refine AL ?_
   refine AA (by exact BB rfl gg rfl rfl h_a1) ?_;refine q_k ?_;cases a1
   ·iterate 4 refine AL ?_
    refine AA (by exact AK (c:= .int .i64 32) rfl gg rfl rfl (fun w=>by go_simp;rfl)) ?_;refine R9 ?_;refine O8 ?_;refine AA (by exact aX (news:=l32 (tbB k1)) (len:=32) (k:=32) rfl gg rfl rfl rfl (Hw rfl rfl rfl (by decide)) underlying23 Er rfl (by decide) (Nat.le_of_ble_eq_true rfl) rfl (by decide)) ?_;iterate 2 refine q_k ?_
    refine AA (by exact BE (c:=2) rfl gg rfl rfl (by decide)) ?_;iterate 2 refine AL ?_
    refine Ea (fun i=>decide (i<7)||i==31||i==32||i==33) [37,8,9] (fun f=>by simp[B0];exact rfl) (by simp[BQ];exact rfl) fun f=> ?_
    iterate 2 refine q_k ?_
    refine AA (by exact BM (p:=false) rfl gg rfl rfl rfl) ?_;iterate 3 refine q_k ?_
    refine As ?_;refine HR ?_
    refine C4 ?_;refine EJ ?_
    exact AG (AD (Av results8 (Ac rfl rfl underlying22 rfl sizeOf22 rfl rfl) (AF rfl)) fun _ _ hr=>⟨rfl,hr.1⟩)
   ·iterate 3 refine q_k ?_
    refine I7 ?_;refine EJ ?_
    exact AG (AD (Av results8 (Ac rfl rfl underlying22 rfl sizeOf22 rfl rfl) (AF rfl)) fun _ _ hr=>⟨rfl,hr.1⟩)
  ·iterate 3 refine q_k ?_
   refine I7 ?_;refine EJ ?_
   exact AG (AD (Av results8 (Ac rfl rfl underlying22 rfl sizeOf22 rfl rfl) (AF rfl)) fun _ _ hr=>⟨rfl,hr.1⟩)
 ·have hz:(bif p then none else bif q then none else H5 ks)=none:=by rcases h3 with rfl|⟨rfl,rfl⟩|⟨rfl,rfl,rfl⟩<;>first|rfl|exact Xr (by have:=of_decide_eq_true h_r;omega)
  rw[hz];rcases h3 with rfl|⟨rfl,rfl⟩|⟨rfl,rfl,rfl⟩<;>
  (
   iterate 2 refine AL ?_
   refine AA (by exact BB rfl gg rfl rfl h_p) ?_;refine AL ?_;refine XX ?_;refine Ws ?_;refine AA (by first|exact Ev.skip (fun _=>rfl)|exact Ev.skip (fun _=>rfl)|exact BB rfl (fun _=>rfl) rfl rfl h_q) ?_;refine C0 ?_;refine XZ ?_;refine AA (by first|exact Ev.skip (fun _=>rfl)|exact Ev.skip (fun _=>rfl)|exact BK rfl (fun _=>rfl) rfl rfl underlying59 rfl rfl) ?_;refine AA (by first|exact Ev.skip (fun _=>rfl)|exact Ev.skip (fun _=>rfl)|exact Jg rfl (fun _=>rfl) rfl underlying59 (Ka rfl)) ?_;refine AA (by first|exact Ev.skip (fun _=>rfl)|exact Ev.skip (fun _=>rfl)|exact BB rfl (fun _=>rfl) rfl rfl h_r) ?_;refine q_0 ?_;iterate 4 refine q_k ?_
   refine C4 ?_;refine EJ ?_
   exact AG (AD (Av results8 (Ac rfl rfl underlying22 rfl sizeOf22 rfl rfl) (AF rfl)) fun _ _ hr=>⟨rfl,hr.1⟩)
  )
def kX(l:List Nat):Nat:=TollBy.beV ((l.drop 1).take 32) 0
def kY(l:List Nat):Nat:=TollBy.beV (l.drop 33) 0
def kyB(l:List Nat):Bool:=decide (l.length=65) && (decide (l.headD 0=4) && onB (kX l) (kY l))
theorem Y3{w:World}{l:List Nat}(hv:AO w v l.length 1 (l.map b8) S)(h8: ∀x∈l,x<256)(hL:Laid w):(kyB l=false∧JE w v)∨(kyB l=true∧JO w v (kX l) (kY l)):=by
 by_cases hn:l.length=65
 ·match l,hn,h8,hv with
  |b::t,hlen,h8,hv=>
   rw[hlen]at hv;by_cases h4:b=4
   ·subst h4
    have ht:t.length=64:=by simpa using hlen
    have m1: ∀x∈t.take 32,x<256:=fun x hx=>h8 x (by simp[List.mem_of_mem_take hx])
    have m2: ∀x∈t.drop 32,x<256:=fun x hx=>h8 x (by simp[List.mem_of_mem_drop hx])
    have l1:(t.take 32).length=32:=by simp;omega
    have l2:(t.drop 32).length=32:=by simp;omega
    have el:(4::t).map b8=wb (TollBy.beV (t.take 32) 0) (TollBy.beV (t.drop 32) 0):=by
     unfold wb;rw[PU,PU,G6 l1 m1,G6 l2 m2,←List.map_append,List.take_append_drop];rfl
    rw[el]at hv;have hx:=IX l1 m1;have hy:=IX l2 m2
    have ek:kyB (4::t)=onB (TollBy.beV (t.take 32) 0) (TollBy.beV (t.drop 32) 0):=by
     unfold kyB;rw[hlen];rfl
    rw[ek];cases ho:onB (TollBy.beV (t.take 32) 0) (TollBy.beV (t.drop 32) 0)with
    |true=>exact .inr ⟨rfl,hx,hy,fun w' hb=>gm hx hy w' (hL.bw hb) (A5 hv hb) ho⟩
    |false=>exact .inl ⟨rfl,fun w' hb=>gp hx hy w' (hL.bw hb) (A5 hv hb) ho⟩
   ·exact .inl ⟨by simp[kyB,h4],fun w' hb=>gk w' (hL.bw hb) (A5 hv hb) h4⟩
 ·exact .inl ⟨by simp[kyB,hn],fun w' hb=>gv w' (hL.bw hb) (A5 hv hb) hn⟩
def uT(t x:Nat):Nat:=t^(nn-2) %nn*x %nn
noncomputable def chP(l:List Nat)(h r t:Nat):Pt:=add (Au (uT t h) base) (Au (uT t r) (toP (kX l) (kY l)))
open Classical in
noncomputable def EX(l:List Nat)(h r t:Nat):Int:=
 bif !kyB l then 15 else bif !sec r then 6 else bif !sec t then 6 else if chP l h r t= .inf then 6 else if xv (chP l h r t) %nn=r then 0 else 6
theorem pi{l:List Nat}{t:Nat}(k:kyB l=false):EX l h r t=15:=by unfold EX;rw[k];rfl
theorem pf{l:List Nat}{t:Nat}(k:kyB l=true)(sr:sec r=false):EX l h r t=6:=by unfold EX;rw[k,sr];rfl
theorem pe{l:List Nat}{t:Nat}(k:kyB l=true)(sr:sec r=true)(st:sec t=false):EX l h r t=6:=by unfold EX;rw[k,sr,st];rfl
theorem bB{l:List Nat}{t:Nat}(k:kyB l=true)(sr:sec r=true)(st:sec t=true):EX l h r t=open Classical in if chP l h r t= .inf then 6 else if xv (chP l h r t) %nn=r then 0 else 6:=by
 unfold EX;rw[k,sr,st,Bool.not_true,cond_false,cond_false,cond_false]
theorem bC(l:List Nat)(h r t:Nat):chP l h r t=add (Au (t^(nn-2) %nn*h %nn) base) (Au (t^(nn-2) %nn*r %nn) (toP (kX l) (kY l))):=by unfold chP uT;rfl
theorem sa{w:World}{l:List Nat}{t:Nat}(hv:AO w v l.length 1 (l.map b8) S)(h8: ∀x∈l,x<256)(hh:h<R)(hr:r<R)(ht:t<R)(hL:Laid w):
 Calls prog 46 #[v,B32 h,PT r t] w fun e w'=>e= .returned (.int .i64 (EX l h r t))∧Bw w w':=by
 rcases Y3 hv h8 hL with⟨k,j⟩|⟨k,hx,hy,hrd⟩
 ·rw[pi k];exact sZ hh hr ht w hL j
 ·cases sr:sec r with
  |false=>rw[pf k sr];exact sn hh hr ht w hL hrd sr
  |true=>
   cases st:sec t with
   |false=>rw[pe k sr st];exact sj hh hr ht w hL hrd sr st
   |true=>
    rw[bB k sr st];obtain⟨hv,hi⟩:=aN st;have hP:=bC l h r t;generalize chP l h r t=X at hP⊢;generalize t^(nn-2) %nn=i at hv hi hP;have oA:=TollEc.smul_on TollEc.base_on (i*h %nn);have oB:=TollEc.smul_on (N4 (kX l) (kY l)) (i*r %nn);have oX:X.on:=hP▸TollEc.on_add oA oB;by_cases hinf:X= .inf
    ·rw[if_pos hinf];exact sf hh hr ht w hL hx hy hrd sr st hi hv rfl rfl oA oB hP.symm oX hinf
    ·rw[if_neg hinf]
     by_cases hne:xv X %nn=r
     ·rw[if_pos hne];exact si hh hr ht w hL hx hy hrd sr st hi hv rfl rfl oA oB hP.symm oX hinf hne
     ·rw[if_neg hne];exact so hh hr ht w hL hx hy hrd sr st hi hv rfl rfl oA oB hP.symm oX hinf hne
theorem e9{a b:Nat}(h:a %nn=b %nn):Au a base=Au b base:=by rw[←TollEc.smul_mod a,h,TollEc.smul_mod]
theorem pg{l:List Nat}{d t i:Nat}(hk:kyB l=true)(hP:toP (kX l) (kY l)=Au d base)(sr:sec r=true)(st:sec t=true)(sk:sec k=true)(hr:xv (Au k base) %nn=r)(hi:i*k %nn=1)(ht:i*((h+r*d %nn) %nn) %nn=t):EX l h r t=0:=by
 have e:chP l h r t=Au k base:=by
  obtain⟨hv,_⟩:=aN st;rw[bC,hP,←TollEc.smul_mul TollEc.base_on,←TollEc.smul_add TollEc.base_on];apply e9;generalize t^(nn-2) %nn=j at hv⊢
  have e1:(j*h %nn+d*(j*r %nn)) %nn=j*(h+r*d) %nn:=by
   rw[Nat.add_mod,Nat.mod_mod,Nat.mul_mod d,Nat.mod_mod,←Nat.mul_mod,←Nat.add_mod];congr 1
   rw[Nat.mul_add,←Nat.mul_assoc j,Nat.mul_comm d]
  have e2:t %nn=i*(h+r*d) %nn:=by
   rw[←ht,Nat.mod_mod,Nat.mul_mod,Nat.mod_mod,Nat.add_mod,Nat.mod_mod,←Nat.add_mod,←Nat.mul_mod]
  rw[e1];generalize h+r*d=z at e2⊢;have e3:j*(i*z) %nn=1:=by rw[Nat.mul_mod,←e2,←Nat.mul_mod,hv]
  calc j*z %nn=(j*z %nn)*1 %nn:=by rw[Nat.mul_one,Nat.mod_mod]
   _=(j*z %nn)*(i*k %nn) %nn:=by rw[hi]
   _=j*z*(i*k) %nn:=by rw[←Nat.mul_mod]
   _=k*(j*(i*z)) %nn:=by congr 1;ac_rfl
   _=(k %nn)*(j*(i*z) %nn) %nn:=by rw[←Nat.mul_mod]
   _=k %nn:=by rw[e3,Nat.mul_one,Nat.mod_mod]
 rw[bB hk sr st,e,if_neg (fc sk),if_pos hr]
def usB(u:Int):Bool:=decide (2*(u/2 %2)≠0)
def C2(c:Crt):Bool:=kyB c.ky && (wiB c.se 1 4611686018427387903 && (wiB c.fr 0 4611686018427387903 && (wiB c.to 0 4611686018427387903 && (Db c.is && (Db c.su && (wiB c.pa 0 5 && ((c.ca|| !decide (c.pa≠0)) && (wiB c.us 0 15 && (usB c.us==c.ca)))))))))
theorem cP{u:Int}(h0:0≤u)(hm:u≤15)(p q:Operand)(w:World):(do eqGuard .and 3 p q (.int .i64 u) (.int .i64 2);binOp .and 3 (.int .i64 u) (.int .i64 2):Sem Value).run prog w= .ok (.int .i64 (2*(u/2 %2))) w:=by
 have:u=0∨u=1∨u=2∨u=3∨u=4∨u=5∨u=6∨u=7∨u=8∨u=9∨u=10∨u=11∨u=12∨u=13∨u=14∨u=15:=by omega
 rcases this with rfl|rfl|rfl|rfl|rfl|rfl|rfl|rfl|rfl|rfl|rfl|rfl|rfl|rfl|rfl|rfl<;>(go_simp;rfl)
theorem Cv{a c:Int}:wiB n a c=true↔a≤n∧n≤c:=by unfold wiB;simp
theorem Yb{s:List Nat}(h:Db s=true):s≠[]∧s.length≤64∧Ak (utT s) 1=true:=by
 unfold Db twN at h;cases hw:Ju (utT s)with
 |false=>rw[hw]at h;simp at h
 |true=>
  rw[hw]at h;simp only[cond_true,Bool.and_eq_true,decide_eq_true_eq]at h;simp only[utT,Ju,Bool.and_eq_true,decide_eq_true_eq]at hw;exact⟨h.2,hw.2.2,hw.2.1⟩
theorem KD{c:Crt}(i8: ∀x∈c.is,x<256)(s8: ∀x∈c.su,x<256)(k8: ∀x∈c.ky,x<256)(h:C2 c=true):c.Fit:=by
 unfold C2 at h;simp only[Bool.and_eq_true,Cv]at h;obtain⟨hk,hse,hfr,hto,his,hsu,hpa,_,hus,_⟩:=h
 have hk65:c.ky.length=65:=by
  unfold kyB at hk;simp only[Bool.and_eq_true,decide_eq_true_eq]at hk;exact hk.1
 exact⟨i8,s8,k8,(Yb his).2.1,(Yb hsu).2.1,by omega,by omega,by omega,by omega,hpa.2,hus.1,hus.2⟩
theorem CI{b:Bool}(hxb:x=b)(ho:o.op= .call {callee:= .value (.func f),args:=xs,argTypes:=ats})(hgd:AQ ops o s)
 (hx:unV (xs.toList.map (AE s))=some vs)(he: ∀args w,(callFunc f args).run P w= .ok (.enter f args) w)(hc: ∀w,Bw w0 w→Calls P f vs.toArray w fun e w'=>e= .returned (.bool x)∧Bw w w'):Ev P ops w0 o s ⟨.v (.bool b),[],[],[],[]⟩:=by
 subst hxb;exact Ad ho hgd hx he hc
theorem WE{c:Crt}{kv:Value}{F:Nat→Prop}(hL:Laid w)(hk:AO w kv c.ky.length 1 (c.ky.map b8) F)(k8: ∀x∈c.ky,x<256)(i8: ∀x∈c.is,x<256)(s8: ∀x∈c.su,x<256)(il:c.is.length≤1048576)(sl:c.su.length≤1048576):Calls prog 57 #[(.agg #[.int .i64 c.se,.string (AB c.is),.string (AB c.su),.int .i64 c.fr,.int .i64 c.to,kv,.bool c.ca,.int .i64 c.pa,.int .i64 c.us])] w fun e w'=>e= .returned (.bool (C2 c))∧Bw w w':=by
 obtain⟨a,h_a⟩: ∃p,wiB c.se 1 4611686018427387903=p:=⟨_,rfl⟩
 obtain⟨b,h_b⟩: ∃p,wiB c.fr 0 4611686018427387903=p:=⟨_,rfl⟩
 obtain⟨d,h_d⟩: ∃p,wiB c.to 0 4611686018427387903=p:=⟨_,rfl⟩
 obtain⟨e,h_e⟩: ∃p,Db c.is=p:=⟨_,rfl⟩
 obtain⟨f,h_f⟩: ∃p,Db c.su=p:=⟨_,rfl⟩
 obtain⟨p,h_p⟩: ∃p,wiB c.pa 0 5=p:=⟨_,rfl⟩
 obtain⟨g,h_g⟩: ∃p,c.ca=p:=⟨_,rfl⟩
 obtain⟨z,h_z⟩: ∃p,decide (c.pa≠0)=p:=⟨_,rfl⟩
 obtain⟨u,h_u⟩: ∃p,wiB c.us 0 15=p:=⟨_,rfl⟩
 obtain⟨v,h_v⟩: ∃p,usB c.us=p:=⟨_,rfl⟩
 rw[C2,h_a,h_b,h_d,h_e,h_f,h_p,h_g,h_z,h_u,h_v]
 go_enter func57,ntmps57
 refine FG ?_
 rcases Y3 hk k8 hL with⟨h_k,hj⟩|⟨h_k,_,_,hj⟩<;>rw[h_k]
 ·skip
  refine q_k ?_;refine Ow ?_;refine I5 ?_;refine Wt ?_;iterate 3 refine AL ?_
  refine AA (by exact BZ rfl rfl gg zeroValue141) ?_;refine AA (by exact BA rfl gg rfl rfl rfl sizeOf141 rfl (by simp) rfl) ?_;iterate 5 refine AL ?_
  refine KN ?_;iterate 6 refine AL ?_
  refine AG ?_;refine AD (AH results57 (AF rfl)) ?_;intro ρ w' hr;first|exact⟨rfl,hr.1⟩|(cases v<;>exact⟨rfl,hr.1⟩)
 ·skip
  refine q_k ?_;refine Ow ?_;refine I5 ?_;refine Wt ?_;iterate 3 refine AL ?_
  refine AA (by exact BZ rfl rfl gg zeroValue141) ?_;refine AA (by exact BA rfl gg rfl rfl rfl sizeOf141 rfl (by simp) rfl) ?_;iterate 5 refine AL ?_
  refine KN ?_;iterate 6 refine q_k ?_
  have h3:(a=true∧b=true∧d=true)∨(a=false∨(a=true∧b=false)∨(a=true∧b=true∧d=false)):=by cases a<;>cases b<;>cases d<;>simp
  rcases h3 with⟨rfl,rfl,rfl⟩|h3
  ·skip
   refine q_k ?_;refine C3 ?_;refine q_6 ?_;refine AA (by exact CI h_a rfl gg rfl (eo func66) (fun w' hw'=>EF w')) ?_;refine C0 ?_;refine Hz ?_;refine q_1 ?_;refine AA (by first|exact Ev.skip (fun _=>rfl)|exact CI h_b rfl (fun _=>rfl) rfl (eo func66) (fun w' hw'=>EF w')) ?_;refine q_3 ?_;refine C0 ?_;refine Hz ?_;refine q_1 ?_;refine AA (by first|exact Ev.skip (fun _=>rfl)|exact CI h_d rfl (fun _=>rfl) rfl (eo func66) (fun w' hw'=>EF w')) ?_;refine Dg ?_;iterate 4 refine AL ?_
   have h3:(e=true∧f=true)∨(e=false∨(e=true∧f=false)):=by cases e<;>cases f<;>simp
   rcases h3 with⟨rfl,rfl⟩|h3
   ·skip
    refine q_k ?_;refine KP ?_;refine Eg ?_;refine AA (by exact CI h_e rfl gg rfl (eo func104) (fun w' hw'=>Sp w' i8 il)) ?_;refine C0 ?_;refine XW ?_;refine q_4 ?_;refine Wy ?_;refine Dg ?_;iterate 4 refine AL ?_
    have h3:((p=true∧g=true)∨(p=true∧g=false∧z=false))∨(p=false∨(p=true∧g=false∧z=true)):=by cases p<;>cases g<;>cases z<;>simp
    rcases h3 with h3|h3
    ·rcases h3 with⟨rfl,rfl⟩|⟨rfl,rfl,rfl⟩<;>
     (
      refine q_k ?_;refine C3 ?_;refine q_6 ?_;refine AA (by exact CI h_p rfl gg rfl (eo func66) (fun w' hw'=>EF w')) ?_;refine C0 ?_;refine O0 ?_;refine q_7 ?_;refine q_3 ?_;refine DY ?_;refine Hz ?_;refine q_1 ?_;refine AA (by first|exact Ev.skip (fun _=>rfl)|exact BB rfl (fun _=>rfl) rfl rfl h_z) ?_;refine Dg ?_;iterate 5 refine AL ?_
      cases u
      ·skip
       refine q_k ?_;refine C3 ?_;refine q_6 ?_;refine AA (by exact CI h_u rfl gg rfl (eo func66) (fun w' hw'=>EF w')) ?_;refine AL ?_;refine Hz ?_;refine q_1 ?_;refine AA (by first|exact Ev.skip (fun _=>rfl)|exact AK rfl (fun _=>rfl) rfl rfl (fun w=>cP (Cv.1 h_u).1 (Cv.1 h_u).2 _ _ w)) ?_;refine AA (by first|exact Ev.skip (fun _=>rfl)|exact BB rfl (fun _=>rfl) rfl rfl h_v) ?_;refine O0 ?_;refine q_7 ?_;refine je ?_;refine HZ ?_
       refine AG ?_;refine AD (AH results57 (AF rfl)) ?_;intro ρ w' hr;first|exact⟨rfl,hr.1⟩|(cases v<;>exact⟨rfl,hr.1⟩)
      ·skip
       refine q_k ?_;refine C3 ?_;refine q_6 ?_;refine AA (by exact CI h_u rfl gg rfl (eo func66) (fun w' hw'=>EF w')) ?_;refine AL ?_;refine Hz ?_;refine q_1 ?_;refine AA (by first|exact Ev.skip (fun _=>rfl)|exact AK rfl (fun _=>rfl) rfl rfl (fun w=>cP (Cv.1 h_u).1 (Cv.1 h_u).2 _ _ w)) ?_;refine AA (by first|exact Ev.skip (fun _=>rfl)|exact BB rfl (fun _=>rfl) rfl rfl h_v) ?_;refine O0 ?_;refine q_7 ?_;refine je ?_;refine HZ ?_
       refine AG ?_;refine AD (AH results57 (AF rfl)) ?_;intro ρ w' hr;first|exact⟨rfl,hr.1⟩|(cases v<;>exact⟨rfl,hr.1⟩)
     )
    ·rcases h3 with rfl|⟨rfl,rfl,rfl⟩<;>
     (
      refine q_k ?_;refine C3 ?_;refine q_6 ?_;refine AA (by exact CI h_p rfl gg rfl (eo func66) (fun w' hw'=>EF w')) ?_;refine C0 ?_;refine O0 ?_;refine q_7 ?_;refine q_3 ?_;refine DY ?_;refine Hz ?_;refine q_1 ?_;refine AA (by first|exact Ev.skip (fun _=>rfl)|exact BB rfl (fun _=>rfl) rfl rfl h_z) ?_;refine Dg ?_;iterate 7 refine AL ?_
      refine AG ?_;refine AD (AH results57 (AF rfl)) ?_;intro ρ w' hr;first|exact⟨rfl,hr.1⟩|(cases v<;>exact⟨rfl,hr.1⟩)
     )
   ·rcases h3 with rfl|⟨rfl,rfl⟩<;>
    (
     refine q_k ?_;refine KP ?_;refine Eg ?_;refine AA (by exact CI h_e rfl gg rfl (eo func104) (fun w' hw'=>Sp w' i8 il)) ?_;refine C0 ?_;refine XW ?_;refine q_4 ?_;refine Wy ?_;refine Dg ?_;iterate 7 refine AL ?_
     refine AG ?_;refine AD (AH results57 (AF rfl)) ?_;intro ρ w' hr;first|exact⟨rfl,hr.1⟩|(cases v<;>exact⟨rfl,hr.1⟩)
    )
  ·rcases h3 with rfl|⟨rfl,rfl⟩|⟨rfl,rfl,rfl⟩<;>
   (
    refine q_k ?_;refine C3 ?_;refine q_6 ?_;refine AA (by exact CI h_a rfl gg rfl (eo func66) (fun w' hw'=>EF w')) ?_;refine C0 ?_;refine Hz ?_;refine q_1 ?_;refine AA (by first|exact Ev.skip (fun _=>rfl)|exact CI h_b rfl (fun _=>rfl) rfl (eo func66) (fun w' hw'=>EF w')) ?_;refine q_3 ?_;refine C0 ?_;refine Hz ?_;refine q_1 ?_;refine AA (by first|exact Ev.skip (fun _=>rfl)|exact CI h_d rfl (fun _=>rfl) rfl (eo func66) (fun w' hw'=>EF w')) ?_;refine Dg ?_;iterate 7 refine AL ?_
    refine AG ?_;refine AD (AH results57 (AF rfl)) ?_;intro ρ w' hr;first|exact⟨rfl,hr.1⟩|(cases v<;>exact⟨rfl,hr.1⟩)
   )
def mT:Tr→List Tr
 | .mk _ _ ks=>ks
def isC(k:Tr):Bool:=decide (((mT k).length:Int)>0)
def SY(k:Tr):Int:=bif isC k then Ax (AC [1] k)else 0
def JF(n:Tr):Tr:=AC [7,0] (AC [0] n)
def CX(n:Tr):Int:=Ax (Bt (AC [1,2] (JF n)))
def Cl(n:Tr):Int:=Ax (Bt (AC [2,1] (JF n)))
def QY(n:Tr):Tr:=Bt (AC [0,2] (JF n))
def GJ(n:Tr):Crt:=⟨Ax (AC [1] (AC [0] n)),Az (AC [3,0,1] (AC [0] n)),Az (AC [5,0,1] (AC [0] n)),Ax (AC [4,0] (AC [0] n)),Ax (AC [4,1] (AC [0] n)),BO (AC [6,1] (AC [0] n)),isC (QY n),SY (QY n),Cl n*4+CX n⟩
def GF(c:Crt)(b:List Nat):Option (Nat×Nat)→Option (Crt×Nat×Nat)
 |none=>none
 |some (r,t)=>bif !C2 c then none else bif !decide ((wrT (c.whole r t)).1=b)then none else some (c,r,t)
def Gz(n:Tr)(b:List Nat):Option (Crt×Nat×Nat):=bif !(wiB (CX n) 0 3 && wiB (Cl n) 0 3)then none else GF (GJ n) b (sgT (BO (AC [2] n)))
def rdC(b:List Nat):Option (Crt×Nat×Nat):=bif decide ((rdT b).2≠0)then none else Gz (rdT b).1 b
def CZ:Value:= .agg #[.int .i64 0,.string (AB []),.string (AB []),.int .i64 0,.int .i64 0,.slice none 0 0,.bool false,.int .i64 0,.int .i64 0]
def CVV(c:Crt)(kv:Value):Value:= .agg #[.int .i64 c.se,.string (AB c.is),.string (AB c.su),.int .i64 c.fr,.int .i64 c.to,kv,.bool c.ca,.int .i64 c.pa,.int .i64 c.us]
def RdC(w w':World)(e:Ending):Option (Crt×Nat×Nat)→Prop
 |none=>e= .returned (.tuple #[CZ,ZV,.int .i64 2])
 |some (c,r,t)=> ∃kv,e= .returned (.tuple #[CVV c kv,PT r t,.int .i64 0])∧BN w w' kv c.ky.length 1 5 (c.ky.map b8)
theorem qg(a c d:Int)(b e:ByteArray)(p:Option Addr)(m q:Nat):prog.built 34 [(0,.int .i64 a),(1,.string b),(3,.int .i64 c),(4,.int .i64 d),(2,.string e),(5,.slice p m q)]=some #[.int .i64 a,.string b,.string e,.int .i64 c,.int .i64 d,.slice p m q,.bool false,.int .i64 0,.int .i64 0]:=by kernel_rfl
theorem qe:prog.built 34 []=some #[.int .i64 0,.string (AB []),.string (AB []),.int .i64 0,.int .i64 0,.slice none 0 0,.bool false,.int .i64 0,.int .i64 0]:=by kernel_rfl
theorem om{t0 t1 t2 t3 t4 t5:Operand}{a c d:Int}{b e:ByteArray}{sy:SV}{n:Nat}{l:List Value}(ho:o.op= .build 34 #[(0,t0),(1,t1),(3,t3),(4,t4),(2,t2),(5,t5)])(hgd:AQ ops o s)
 (h0:AE s t0= .v (.int .i64 a))(h1:AE s t1= .v (.string b))(h3:AE s t3= .v (.int .i64 c))(h4:AE s t4= .v (.int .i64 d))(h2:AE s t2= .v (.string e))(h5:AE s t5=sy)(hr:Rdg w0 s.mem rd sy n size l):
 Ev prog ops w0 o s ⟨.agg [.v (.int .i64 a),.v (.string b),.v (.string e),.v (.int .i64 c),.v (.int .i64 d),sy,.v (.bool false),.v (.int .i64 0),.v (.int .i64 0)],[],[],[],rd⟩:=
 Ev.run _ _ hgd fun ρ S w hbw hR=>by
  have e0:=AI s ρ t0;rw[h0]at e0;have e1:=AI s ρ t1;rw[h1]at e1;have e2:=AI s ρ t2;rw[h2]at e2;have e3:=AI s ρ t3;rw[h3]at e3;have e4:=AI s ρ t4;rw[h4]at e4;have e5:=AI s ρ t5;rw[h5]at e5;obtain⟨_,ao,cap,hv,_⟩:=hr ρ S w hbw hR;rw[hv]at e5;simp only[execOp,ho,List.map_toArray,List.map_cons,List.map_nil,e0,e1,e2,e3,e4,e5,SV.c];rw[Sem.run_bind,run_build w 34 _ _ (qg a c d b e ao n cap)];simp[SV.c,SV.cs,hv]
theorem lZ(h0:0≤n)(hm:n≤3)(p q:Operand)(w:World):(do eqGuard .mul 3 p q (.int .i64 n) (.int .i64 4);binOp .mul 3 (.int .i64 n) (.int .i64 4):Sem Value).run prog w= .ok (.int .i64 (n*4)) w:=by
 have:n=0∨n=1∨n=2∨n=3:=by omega
 rcases this with rfl|rfl|rfl|rfl<;>(go_simp;rfl)
theorem r9{m:Int}(h0:0≤n)(hm:n≤3)(m0:0≤m)(mm:m≤3)(p q:Operand)(w:World):(do eqGuard .add 3 p q (.int .i64 (n*4)) (.int .i64 m);binOp .add 3 (.int .i64 (n*4)) (.int .i64 m):Sem Value).run prog w= .ok (.int .i64 (n*4+m)) w:=by
 have hn:n=0∨n=1∨n=2∨n=3:=by omega
 have hmm:m=0∨m=1∨m=2∨m=3:=by omega
 rcases hn with rfl|rfl|rfl|rfl<;>rcases hmm with rfl|rfl|rfl|rfl<;>(go_simp;rfl)
theorem o2(h1: ∀x∈a,x<256)(h2: ∀x∈b,x<256)(p q:Operand)(w:World):(do eqGuard .eql 9 p q (.string (AB a)) (.string (AB b));binOp .eql 9 (.string (AB a)) (.string (AB b)):Sem Value).run prog w= .ok (.bool (decide (a=b))) w:=E4 rfl h1 h2 _ _ w
theorem sX{u:Value}{F G:Nat→Prop}(hu:AO w u a.length 1 (a.map b8) F)(hv:AO w v b.length 1 (b.map b8) G)(h1: ∀x∈a,x<256)(h2: ∀x∈b,x<256):Calls prog 67 #[u,v] w fun e w'=>e= .returned (.bool (decide (a=b)))∧Bw w w':=by
 go_enter func67,ntmps67
 refine FG ?_
 refine AA (by exact Cc rfl gg rfl underlying23 underlying5 underlying9 (AW hu)) ?_;refine AL ?_;refine AA (by exact Cc rfl gg rfl underlying23 underlying5 underlying9 (AW hv)) ?_;refine AA (by exact AK rfl gg rfl rfl (fun w=>o2 h1 h2 _ _ w)) ?_;iterate 2 refine AL ?_
 exact AG (AD (AH results67 (AF rfl)) fun _ _ hr=>⟨rfl,hr.1⟩)
def Jj(n:Tr)(ca:Bool)(pa:Int):Crt:=⟨Ax (AC [1] (AC [0] n)),Az (AC [3,0,1] (AC [0] n)),Az (AC [5,0,1] (AC [0] n)),Ax (AC [4,0] (AC [0] n)),Ax (AC [4,1] (AC [0] n)),BO (AC [6,1] (AC [0] n)),ca,pa,Cl n*4+CX n⟩
theorem QG{n:Tr}(hK:Bt (AC [0,2] (AC [7,0] (AC [0] n)))= .mk tg bd ks)(hg:decide (((ks.length:Nat):Int)>0)=true):GJ n=Jj n true (Ax (AC [1] (.mk tg bd ks))):=by
 unfold GJ Jj SY QY JF;rw[hK,show isC (.mk tg bd ks)=true from hg];rfl
theorem QH{n:Tr}(hK:Bt (AC [0,2] (AC [7,0] (AC [0] n)))= .mk tg bd ks)(hg:decide (((ks.length:Nat):Int)>0)=false):GJ n=Jj n false 0:=by
 unfold GJ Jj SY QY JF;rw[hK,show isC (.mk tg bd ks)=false from hg];rfl
theorem KE(h:t.ok):(BO t).length≤1048576:=by have:=(EY h).2;unfold BO;rw[List.length_drop];omega
theorem Hv(h:t.ok): ∀x∈BO t,x<256:=fun x hx=>(EY h).1 x (List.mem_of_mem_drop hx)
theorem T5{w:World}{base:Nat}{S:Nat→Nat→Prop}{m:Mem}{n:Nat}{l:List Value}(hR:RelOn base ρ S w (restr rd m))(hid:id∈rd)(hm:m id=some (.dat (.sl n size l))):AO w (SV.c ρ (.d id)) n size l (S id):=by
 obtain⟨v,e,h⟩:=Gc hR hid hm;simp only[List.cons.injEq,and_true]at e;simp only[SV.c,e];exact h
theorem aZ{vs:List SV}{b:Bool}(hxb:x=b)(rd:List Nat)(ho:o.op= .call {callee:= .value (.func f),args:=xs,argTypes:=ats})(hgd:AQ ops o s)
 (hx:xs.toList.map (AE s)=vs)(he: ∀args w,(callFunc f args).run P w= .ok (.enter f args) w)(hc: ∀ρ S w,Bw w0 w→RelOn w0.heap.size ρ S w (restr rd s.mem)→Calls P f (SV.cs ρ vs).toArray w fun e w'=>e= .returned (.bool x)∧Bw w w'):Ev P ops w0 o s ⟨.v (.bool b),[],[],[],rd⟩:=by
 subst hxb;exact Aj rd ho hgd hx he hc
theorem hG{F:Nat→Prop}(_hL:Laid w)(hv:AO w v b.length 1 (b.map b8) F)(h8: ∀x∈b,x<256)(hbl:b.length≤1048576)(hno:decide ((rdT b).2≠0)=true→Rr=none)(htail: ∀n0 E,(rdT b).1=n0→(rdT b).2=E→decide (E≠0)=false→n0.ok→ ∀f:Nat→Value,VOk prog w ⟨(.v v:: .v (f 1):: .p 2 0:: .p 3 0:: .v (f 4):: .p 5 0:: .v (f 6):: .v (f 7):: .p 8 0:: .p 9 0:: fv f 113 10 []),AJ [(9,.cells [.v (.int .i64 (Ax (AC [1] (AC [0] n0)))),.v (.string (AB (Az (AC [3,0,1] (AC [0] n0))))),.v (.string (AB (Az (AC [5,0,1] (AC [0] n0))))),.v (.int .i64 (Ax (AC [4,0] (AC [0] n0)))),.v (.int .i64 (Ax (AC [4,1] (AC [0] n0)))),.d 55,.v (.bool false),.v (.int .i64 0),.v (.int .i64 0)] 34),(55,.row (BO (AC [6,1] (AC [0] n0))).length 1 5 (.exact ((BO (AC [6,1] (AC [0] n0))).map b8))),(8,.cells [.fn (AN 0) (.d 28),.fn (AN 1) (.d 28),.fn (AN 2) (.d 28)] 61),(28,.dat (AR (AC [7,0] (AC [0] n0)))),(5,.cells [.fn (AN 0) (.d 16),.fn (AN 1) (.d 16),.fn (AN 2) (.d 16)] 61),(16,.dat (AR n0)),(3,.cells (zs 64) 22),(2,.cells [.v (.int .i64 0),.v (.string (ByteArray.mk #[])),.v (.string (ByteArray.mk #[])),.v (.int .i64 0),.v (.int .i64 0),.v (.slice none 0 0),.v (.bool false),.v (.int .i64 0),.v (.int .i64 0)] 34)]⟩ (Cm 6 (Ct f34)) (QB prog f34 w (fun e w'=>RdC w w' e Rr∧Bw w w'))):Calls prog 34 #[v] w (fun e w'=>RdC w w' e Rr∧Bw w w'):=by
 obtain⟨n0,hT⟩: ∃n0,(rdT b).1=n0:=⟨_,rfl⟩
 obtain⟨E,hE⟩: ∃E,(rdT b).2=E:=⟨_,rfl⟩
 have hok:=I3 h8 hbl;rw[hT]at hok
 have hrd: ∀w',Bw w w'→Calls prog 25 #[v] w' fun e w2=> ∃u,e= .returned (.tuple #[u,.int .i64 E])∧Ae w' w2 u (AR n0)∧Bw w' w2:=fun w' hb=>by
  have:=Uk w' (A5 hv hb) h8 hbl;rw[hT,hE]at this;exact this
 obtain⟨p,h_E⟩: ∃p,decide (E≠0)=p:=⟨_,rfl⟩
 have hky:=Af [6,1] (Af [0] hok)
 go_enter func34,ntmps34
 refine Ep ?_
 refine Gh ?_;refine Ef ?_;iterate 5 refine AL ?_
 refine AA (by exact DL (D:=AR n0) (ys:=[.int .i64 E]) [] rfl rfl gg rfl (eo func25) (fun ρ S w' hb hR=>hrd w' hb)) ?_;iterate 3 refine AL ?_
 refine EL ?_;refine O4 ?_;iterate 6 refine AL ?_
 refine AA (by exact BB rfl gg rfl rfl h_E) ?_;refine q_k ?_;cases p
 ·iterate 4 refine q_k ?_
  refine q_8 ?_;refine AA (by exact BL rfl rfl gg rfl (e:=3) (l:=CE [0]) rfl (by decide) (fun _=>by kernel_rfl)) ?_;refine AA (by exact A0 (AR (AC [0] n0)) [16,24] rfl rfl gg rfl (eo func61) (fun ρ S w' hb hR=>Ex 16 24 [0] hR (by simp) (by simp) rfl rfl)) ?_;refine EL ?_;refine O4 ?_;iterate 3 refine q_k ?_
  refine q_8 ?_;refine AA (by exact BL rfl rfl gg rfl (e:=3) (l:=CE [7,0]) rfl (by decide) (fun _=>by kernel_rfl)) ?_;refine AA (by exact A0 (AR (AC [7,0] (AC [0] n0))) [25,27] rfl rfl gg rfl (eo func61) (fun ρ S w' hb hR=>Ex 25 27 [7,0] hR (by simp) (by simp) rfl rfl)) ?_;refine EL ?_;refine O4 ?_;iterate 3 refine q_k ?_
  refine q_8 ?_;refine On ?_;refine AA (by exact A0 (AR (AC [1] (AC [0] n0))) [25,30] rfl rfl gg rfl (eo func61) (fun ρ S w' hb hR=>Ex 25 30 [1] hR (by simp) (by simp) rfl rfl)) ?_;refine AA (by exact Aj (v:= .int .i64 (Ax (AC [1] (AC [0] n0)))) [31] rfl gg rfl (eo func62) (fun ρ S w' hb hR=>LN 31 (Af _ ((Af _ (hok)))) hR (by simp) rfl)) ?_;refine q_8 ?_;refine AA (by exact BL rfl rfl gg rfl (e:=3) (l:=CE [3,0,1]) rfl (by decide) (fun _=>by kernel_rfl)) ?_;refine AA (by exact A0 (AR (AC [3,0,1] (AC [0] n0))) [25,34] rfl rfl gg rfl (eo func61) (fun ρ S w' hb hR=>Ex 25 34 [3,0,1] hR (by simp) (by simp) rfl rfl)) ?_;refine AA (by exact aV rfl gg rfl rfl) ?_;refine AA (by exact Cc rfl gg rfl underlying23 underlying5 underlying9 (WW (id:=35) rfl)) ?_;refine q_8 ?_;refine AA (by exact BL rfl rfl gg rfl (e:=3) (l:=CE [4,0]) rfl (by decide) (fun _=>by kernel_rfl)) ?_;refine AA (by exact A0 (AR (AC [4,0] (AC [0] n0))) [25,39] rfl rfl gg rfl (eo func61) (fun ρ S w' hb hR=>Ex 25 39 [4,0] hR (by simp) (by simp) rfl rfl)) ?_;refine AA (by exact Aj (v:= .int .i64 (Ax (AC [4,0] (AC [0] n0)))) [40] rfl gg rfl (eo func62) (fun ρ S w' hb hR=>LN 40 (Af _ ((Af _ (hok)))) hR (by simp) rfl)) ?_;refine q_8 ?_;refine AA (by exact BL rfl rfl gg rfl (e:=3) (l:=CE [4,1]) rfl (by decide) (fun _=>by kernel_rfl)) ?_;refine AA (by exact A0 (AR (AC [4,1] (AC [0] n0))) [25,43] rfl rfl gg rfl (eo func61) (fun ρ S w' hb hR=>Ex 25 43 [4,1] hR (by simp) (by simp) rfl rfl)) ?_;refine AA (by exact Aj (v:= .int .i64 (Ax (AC [4,1] (AC [0] n0)))) [44] rfl gg rfl (eo func62) (fun ρ S w' hb hR=>LN 44 (Af _ ((Af _ (hok)))) hR (by simp) rfl)) ?_;refine q_8 ?_;refine AA (by exact BL rfl rfl gg rfl (e:=3) (l:=CE [5,0,1]) rfl (by decide) (fun _=>by kernel_rfl)) ?_;refine AA (by exact A0 (AR (AC [5,0,1] (AC [0] n0))) [25,47] rfl rfl gg rfl (eo func61) (fun ρ S w' hb hR=>Ex 25 47 [5,0,1] hR (by simp) (by simp) rfl rfl)) ?_;refine AA (by exact aV rfl gg rfl rfl) ?_;refine AA (by exact Cc rfl gg rfl underlying23 underlying5 underlying9 (WW (id:=48) rfl)) ?_;refine q_8 ?_;refine AA (by exact BL rfl rfl gg rfl (e:=3) (l:=CE [6,1]) rfl (by decide) (fun _=>by kernel_rfl)) ?_;refine AA (by exact A0 (AR (AC [6,1] (AC [0] n0))) [25,52] rfl rfl gg rfl (eo func61) (fun ρ S w' hb hR=>Ex 25 52 [6,1] hR (by simp) (by simp) rfl rfl)) ?_;refine AA (by exact A0 (Dat.sl (BO (AC [6,1] (AC [0] n0))).length 1 ((BO (AC [6,1] (AC [0] n0))).map b8)) [53] rfl rfl gg rfl (eo func64) (fun ρ S w' hb hR=>bN 53 (Af _ ((Af _ (hok)))) hR (by simp) rfl)) ?_;refine AA (by exact Cs [54] rfl rfl gg rfl (eo func63) (n:=(BO (AC [6,1] (AC [0] n0))).length) (size:=1) (l:=(BO (AC [6,1] (AC [0] n0))).map b8) (by simp) (fun ρ S w' hb hR=>Nl w' (T5 (id:=54) hR (by simp) rfl) (by have:=KE hky;omega))) ?_;refine AA (by exact om rfl gg rfl rfl rfl rfl rfl rfl (BI rfl)) ?_;refine Gh ?_;refine I8 ?_;refine q_k ?_;refine Ea (fun i=>i==0||i==2||i==3||i==5||i==8||i==9) [7,15,18,24,27,30,34,39,43,47,52,25,31,35,40,44,48,53,54] (fun f=>by simp[B0];exact rfl) (by simp[BQ];exact rfl) fun f=> ?_
  exact htail n0 E hT hE h_E hok f
 ·refine q_k ?_
  have hz:=hno (by rw[hE];exact h_E);subst hz;iterate 2 refine q_k ?_
  refine MG ?_;refine I7 ?_;refine I8 ?_;refine EJ ?_
  exact AG (AD (BX results34 (Am rfl rfl underlying34 rfl sizeOf34 rfl) (Ac rfl rfl underlying22 rfl sizeOf22 rfl rfl) (AF rfl)) fun _ _ hr=>⟨rfl,hr.1⟩)
theorem g9(hok:n0.ok)(htail: ∀g pa,GJ n0=Jj n0 g pa→ ∀f:Nat→Value,VOk prog w ⟨(.v v:: .v (f 1):: .p 2 0:: .p 3 0:: .v (f 4):: .p 5 0:: .v (f 6):: .v (f 7):: .p 8 0:: .p 9 0:: fv f 113 10 []),AJ [(9,.cells [.v (.int .i64 (Ax (AC [1] (AC [0] n0)))),.v (.string (AB (Az (AC [3,0,1] (AC [0] n0))))),.v (.string (AB (Az (AC [5,0,1] (AC [0] n0))))),.v (.int .i64 (Ax (AC [4,0] (AC [0] n0)))),.v (.int .i64 (Ax (AC [4,1] (AC [0] n0)))),.d 55,.v (.bool g),.v (.int .i64 pa),.v (.int .i64 0)] 34),(55,.row (BO (AC [6,1] (AC [0] n0))).length 1 5 (.exact ((BO (AC [6,1] (AC [0] n0))).map b8))),(8,.cells [.fn (AN 0) (.d 28),.fn (AN 1) (.d 28),.fn (AN 2) (.d 28)] 61),(28,.dat (AR (AC [7,0] (AC [0] n0)))),(5,.cells [.fn (AN 0) (.d 16),.fn (AN 1) (.d 16),.fn (AN 2) (.d 16)] 61),(16,.dat (AR n0)),(3,.cells (zs 64) 22),(2,.cells [.v (.int .i64 0),.v (.string (ByteArray.mk #[])),.v (.string (ByteArray.mk #[])),.v (.int .i64 0),.v (.int .i64 0),.v (.slice none 0 0),.v (.bool false),.v (.int .i64 0),.v (.int .i64 0)] 34)]⟩ (Cm 7 (Ct f34)) (QB prog f34 w (fun e w'=>RdC w w' e Rr∧Bw w w')))(f:Nat→Value):VOk prog w ⟨(.v v:: .v (f 1):: .p 2 0:: .p 3 0:: .v (f 4):: .p 5 0:: .v (f 6):: .v (f 7):: .p 8 0:: .p 9 0:: fv f 113 10 []),AJ [(9,.cells [.v (.int .i64 (Ax (AC [1] (AC [0] n0)))),.v (.string (AB (Az (AC [3,0,1] (AC [0] n0))))),.v (.string (AB (Az (AC [5,0,1] (AC [0] n0))))),.v (.int .i64 (Ax (AC [4,0] (AC [0] n0)))),.v (.int .i64 (Ax (AC [4,1] (AC [0] n0)))),.d 55,.v (.bool false),.v (.int .i64 0),.v (.int .i64 0)] 34),(55,.row (BO (AC [6,1] (AC [0] n0))).length 1 5 (.exact ((BO (AC [6,1] (AC [0] n0))).map b8))),(8,.cells [.fn (AN 0) (.d 28),.fn (AN 1) (.d 28),.fn (AN 2) (.d 28)] 61),(28,.dat (AR (AC [7,0] (AC [0] n0)))),(5,.cells [.fn (AN 0) (.d 16),.fn (AN 1) (.d 16),.fn (AN 2) (.d 16)] 61),(16,.dat (AR n0)),(3,.cells (zs 64) 22),(2,.cells [.v (.int .i64 0),.v (.string (ByteArray.mk #[])),.v (.string (ByteArray.mk #[])),.v (.int .i64 0),.v (.int .i64 0),.v (.slice none 0 0),.v (.bool false),.v (.int .i64 0),.v (.int .i64 0)] 34)]⟩ (Cm 6 (Ct f34)) (QB prog f34 w (fun e w'=>RdC w w' e Rr∧Bw w w')):=by
 simp only[fv,zs,Nat.reduceAdd]
 obtain⟨ktg,kbd,kks,hK⟩: ∃tg bd ks,Bt (AC [0,2] (AC [7,0] (AC [0] n0)))=Tr.mk tg bd ks:=by cases Bt (AC [0,2] (AC [7,0] (AC [0] n0)))with|mk tg bd ks=>exact⟨tg,bd,ks,rfl⟩
 have hkok:(Tr.mk ktg kbd kks).ok:=hK▸K9 (Af _ (Af _ (Af _ hok)));obtain⟨g,h_g⟩: ∃p,decide (((kks.length:Nat):Int)>0)=p:=⟨_,rfl⟩
 iterate 3 refine q_k ?_
 refine q_8 ?_;refine AA (by exact BL rfl rfl gg rfl (e:=3) (l:=CE [0,2]) rfl (by decide) (fun _=>by kernel_rfl)) ?_;refine AA (by exact A0 (AR (AC [0,2] (AC [7,0] (AC [0] n0)))) [28,58] rfl rfl gg rfl (eo func61) (fun ρ S w' hb hR=>Ex 28 58 [0,2] hR (by simp) (by simp) rfl rfl)) ?_;refine AA (by exact Al (D:=AR (.mk ktg kbd kks)) [59] rfl rfl gg rfl (eo func65) (fun ρ S w' hb hR=>hK▸UJ 59 (Af _ ((Af _ ((Af _ (hok)))))) hR (by simp) rfl)) ?_;refine EL ?_;refine O4 ?_;iterate 3 refine q_k ?_
 refine Ov ?_;refine AA (by exact BK rfl gg rfl rfl underlying59 rfl rfl) ?_;refine AA (by exact Jg rfl gg rfl underlying59 (Ka (ks:=kks) rfl)) ?_;refine AA (by exact BV rfl gg rfl rfl h_g) ?_;refine q_k ?_;cases g
 ·iterate 2 refine q_k ?_
  refine Ea (fun i=>i==0||i==2||i==3||i==5||i==8||i==9) [10,58,59,60,66,67] (fun f=>by simp[B0];exact rfl) (by simp[BQ];exact rfl) fun f=> ?_
  first|exact htail _ _ (QG hK h_g) f|exact htail _ _ (QH hK h_g) f
 ·iterate 2 refine q_k ?_
  refine q_8 ?_;refine On ?_;refine AA (by exact A0 (AR (AC [1] (.mk ktg kbd kks))) [60,66] rfl rfl gg rfl (eo func61) (fun ρ S w' hb hR=>Ex 60 66 [1] hR (by simp) (by simp) rfl rfl)) ?_;refine AA (by exact Aj (v:= .int .i64 (Ax (AC [1] (.mk ktg kbd kks)))) [67] rfl gg rfl (eo func62) (fun ρ S w' hb hR=>LN 67 (Af _ (hkok)) hR (by simp) rfl)) ?_;refine Ou ?_;refine AA (by exact BA rfl gg rfl rfl rfl sizeOf4 rfl (by simp) rfl) ?_;refine C3 ?_;refine O9 ?_;refine q_k ?_;refine Ea (fun i=>i==0||i==2||i==3||i==5||i==8||i==9) [10,58,59,60,66,67] (fun f=>by simp[B0];exact rfl) (by simp[BQ];exact rfl) fun f=> ?_
  first|exact htail _ _ (QG hK h_g) f|exact htail _ _ (QH hK h_g) f
theorem g8{g:Bool}{pa:Int}(hok:n0.ok)(hbad:(wiB (CX n0) 0 3 && wiB (Cl n0) 0 3)=false→Rr=none)(htail:wiB (CX n0) 0 3=true→wiB (Cl n0) 0 3=true→ ∀c,c=Jj n0 g pa→ ∀f:Nat→Value,VOk prog w ⟨(.v v:: .v (f 1):: .p 2 0:: .p 3 0:: .v (f 4):: .p 5 0:: .v (f 6):: .v (f 7):: .v (f 8):: .p 9 0:: fv f 113 10 []),AJ [(9,.cells [.v (.int .i64 c.se),.v (.string (AB c.is)),.v (.string (AB c.su)),.v (.int .i64 c.fr),.v (.int .i64 c.to),.d 55,.v (.bool c.ca),.v (.int .i64 c.pa),.v (.int .i64 c.us)] 34),(55,.row c.ky.length 1 5 (.exact (c.ky.map b8))),(5,.cells [.fn (AN 0) (.d 16),.fn (AN 1) (.d 16),.fn (AN 2) (.d 16)] 61),(16,.dat (AR n0)),(3,.cells (zs 64) 22),(2,.cells [.v (.int .i64 0),.v (.string (ByteArray.mk #[])),.v (.string (ByteArray.mk #[])),.v (.int .i64 0),.v (.int .i64 0),.v (.slice none 0 0),.v (.bool false),.v (.int .i64 0),.v (.int .i64 0)] 34)]⟩ (Cm 10 (Ct f34)) (QB prog f34 w (fun e w'=>RdC w w' e Rr∧Bw w w')))(f:Nat→Value):VOk prog w ⟨(.v v:: .v (f 1):: .p 2 0:: .p 3 0:: .v (f 4):: .p 5 0:: .v (f 6):: .v (f 7):: .p 8 0:: .p 9 0:: fv f 113 10 []),AJ [(9,.cells [.v (.int .i64 (Ax (AC [1] (AC [0] n0)))),.v (.string (AB (Az (AC [3,0,1] (AC [0] n0))))),.v (.string (AB (Az (AC [5,0,1] (AC [0] n0))))),.v (.int .i64 (Ax (AC [4,0] (AC [0] n0)))),.v (.int .i64 (Ax (AC [4,1] (AC [0] n0)))),.d 55,.v (.bool g),.v (.int .i64 pa),.v (.int .i64 0)] 34),(55,.row (BO (AC [6,1] (AC [0] n0))).length 1 5 (.exact ((BO (AC [6,1] (AC [0] n0))).map b8))),(8,.cells [.fn (AN 0) (.d 28),.fn (AN 1) (.d 28),.fn (AN 2) (.d 28)] 61),(28,.dat (AR (AC [7,0] (AC [0] n0)))),(5,.cells [.fn (AN 0) (.d 16),.fn (AN 1) (.d 16),.fn (AN 2) (.d 16)] 61),(16,.dat (AR n0)),(3,.cells (zs 64) 22),(2,.cells [.v (.int .i64 0),.v (.string (ByteArray.mk #[])),.v (.string (ByteArray.mk #[])),.v (.int .i64 0),.v (.int .i64 0),.v (.slice none 0 0),.v (.bool false),.v (.int .i64 0),.v (.int .i64 0)] 34)]⟩ (Cm 7 (Ct f34)) (QB prog f34 w (fun e w'=>RdC w w' e Rr∧Bw w w')):=by
 simp only[fv,zs,Nat.reduceAdd]
 obtain⟨lo,h_lo⟩: ∃p,wiB (Ax (Bt (AC [1,2] (AC [7,0] (AC [0] n0))))) 0 3=p:=⟨_,rfl⟩
 obtain⟨hi,h_hi⟩: ∃p,wiB (Ax (Bt (AC [2,1] (AC [7,0] (AC [0] n0))))) 0 3=p:=⟨_,rfl⟩
 have hbad':(lo && hi)=false→Rr=none:=fun h=>hbad (by rw[←h,←h_lo,←h_hi];rfl)
 iterate 2 refine q_k ?_
 refine q_8 ?_;refine AA (by exact BL rfl rfl gg rfl (e:=3) (l:=CE [1,2]) rfl (by decide) (fun _=>by kernel_rfl)) ?_;refine AA (by exact A0 (AR (AC [1,2] (AC [7,0] (AC [0] n0)))) [28,72] rfl rfl gg rfl (eo func61) (fun ρ S w' hb hR=>Ex 28 72 [1,2] hR (by simp) (by simp) rfl rfl)) ?_;refine AA (by exact Al (D:=AR (Bt (AC [1,2] (AC [7,0] (AC [0] n0))))) [73] rfl rfl gg rfl (eo func65) (fun ρ S w' hb hR=>UJ 73 (Af _ ((Af _ ((Af _ (hok)))))) hR (by simp) rfl)) ?_;refine AA (by exact Aj (v:= .int .i64 (Ax (Bt (AC [1,2] (AC [7,0] (AC [0] n0)))))) [74] rfl gg rfl (eo func62) (fun ρ S w' hb hR=>LN 74 (K9 (Af _ ((Af _ ((Af _ (hok))))))) hR (by simp) rfl)) ?_;refine q_8 ?_;refine AA (by exact BL rfl rfl gg rfl (e:=3) (l:=CE [2,1]) rfl (by decide) (fun _=>by kernel_rfl)) ?_;refine AA (by exact A0 (AR (AC [2,1] (AC [7,0] (AC [0] n0)))) [28,77] rfl rfl gg rfl (eo func61) (fun ρ S w' hb hR=>Ex 28 77 [2,1] hR (by simp) (by simp) rfl rfl)) ?_;refine AA (by exact Al (D:=AR (Bt (AC [2,1] (AC [7,0] (AC [0] n0))))) [78] rfl rfl gg rfl (eo func65) (fun ρ S w' hb hR=>UJ 78 (Af _ ((Af _ ((Af _ (hok)))))) hR (by simp) rfl)) ?_;refine AA (by exact Aj (v:= .int .i64 (Ax (Bt (AC [2,1] (AC [7,0] (AC [0] n0)))))) [79] rfl gg rfl (eo func62) (fun ρ S w' hb hR=>LN 79 (K9 (Af _ ((Af _ ((Af _ (hok))))))) hR (by simp) rfl)) ?_;iterate 5 refine AL ?_
 have h3:(lo=true∧hi=true)∨(lo=false∨(lo=true∧hi=false)):=by cases lo<;>cases hi<;>simp
 rcases h3 with⟨rfl,rfl⟩|h3
 ·skip
  iterate 2 refine AL ?_
  refine AA (by exact CI h_lo rfl gg rfl (eo func66) (fun w' hw'=>EF w')) ?_;refine C0 ?_;refine DY ?_;refine AA (by first|exact Ev.skip (fun _=>rfl)|exact CI h_hi rfl (fun _=>rfl) rfl (eo func66) (fun w' hw'=>EF w')) ?_;refine Dg ?_;iterate 6 refine AL ?_
  refine AA (by exact AK rfl gg rfl rfl (fun w=>lZ (Cv.1 h_hi).1 (Cv.1 h_hi).2 _ _ w)) ?_;refine AL ?_;refine AA (by exact AK rfl gg rfl rfl (fun w=>r9 (Cv.1 h_hi).1 (Cv.1 h_hi).2 (Cv.1 h_lo).1 (Cv.1 h_lo).2 _ _ w)) ?_;refine C3 ?_;refine O9 ?_;refine q_k ?_;refine Ea (fun i=>i==0||i==2||i==3||i==5||i==9) [8,28,72,73,74,77,78,79] (fun f=>by simp[B0];exact rfl) (by simp[BQ];exact rfl) fun f=> ?_
  exact htail h_lo h_hi _ rfl f
 ·have hz:Rr=none:=hbad' (by rcases h3 with rfl|⟨rfl,rfl⟩<;>simp)
  subst hz;rcases h3 with rfl|⟨rfl,rfl⟩<;>
  (
   iterate 2 refine AL ?_
   refine AA (by exact CI h_lo rfl gg rfl (eo func66) (fun w' hw'=>EF w')) ?_;refine C0 ?_;refine DY ?_;refine AA (by first|exact Ev.skip (fun _=>rfl)|exact CI h_hi rfl (fun _=>rfl) rfl (eo func66) (fun w' hw'=>EF w')) ?_;refine Dg ?_;iterate 4 refine q_k ?_
   refine MG ?_;refine I7 ?_;refine I8 ?_;refine EJ ?_
   exact AG (AD (BX results34 (Am rfl rfl underlying34 rfl sizeOf34 rfl) (Ac rfl rfl underlying22 rfl sizeOf22 rfl rfl) (AF rfl)) fun _ _ hr=>⟨rfl,hr.1⟩)
  )
theorem g7{F:Nat→Prop}{c:Crt}(hL:Laid w)(hv:AO w v b.length 1 (b.map b8) F)(h8: ∀x∈b,x<256)(hok:n0.ok)(i8: ∀x∈c.is,x<256)(il:c.is.length≤1048576)(s8: ∀x∈c.su,x<256)(sl:c.su.length≤1048576)(k8: ∀x∈c.ky,x<256)(hRr:Rr=GF c b (sgT (BO (AC [2] n0))))(f:Nat→Value):VOk prog w ⟨(.v v:: .v (f 1):: .p 2 0:: .p 3 0:: .v (f 4):: .p 5 0:: .v (f 6):: .v (f 7):: .v (f 8):: .p 9 0:: fv f 113 10 []),AJ [(9,.cells [.v (.int .i64 c.se),.v (.string (AB c.is)),.v (.string (AB c.su)),.v (.int .i64 c.fr),.v (.int .i64 c.to),.d 55,.v (.bool c.ca),.v (.int .i64 c.pa),.v (.int .i64 c.us)] 34),(55,.row c.ky.length 1 5 (.exact (c.ky.map b8))),(5,.cells [.fn (AN 0) (.d 16),.fn (AN 1) (.d 16),.fn (AN 2) (.d 16)] 61),(16,.dat (AR n0)),(3,.cells (zs 64) 22),(2,.cells [.v (.int .i64 0),.v (.string (ByteArray.mk #[])),.v (.string (ByteArray.mk #[])),.v (.int .i64 0),.v (.int .i64 0),.v (.slice none 0 0),.v (.bool false),.v (.int .i64 0),.v (.int .i64 0)] 34)]⟩ (Cm 10 (Ct f34)) (QB prog f34 w (fun e w'=>RdC w w' e Rr∧Bw w w')):=by
 simp only[fv,zs,Nat.reduceAdd]
 have hsg:=Af [2] hok;refine q_k ?_;rcases h_s:sgT (BO (AC [2] n0))with _|⟨r,t⟩<;>rw[h_s]at hRr
 ·subst hRr
  refine q_k ?_;refine q_8 ?_;refine SR ?_;refine XI ?_;refine Wn ?_;refine Ww ?_;iterate 3 refine AL ?_
  refine Ef ?_;refine SN ?_;iterate 6 refine AL ?_
  refine KN ?_;refine AL ?_;refine Gk ?_;refine O2 ?_;refine q_3 ?_;refine C0 ?_;refine Gk ?_;refine H3 ?_;refine O5 ?_;refine DY ?_;refine O3 ?_;refine Dg ?_;iterate 4 refine q_k ?_
  refine MG ?_;refine I7 ?_;refine I8 ?_;refine EJ ?_
  refine AG ?_;refine AD (BX results34 (Am rfl rfl underlying34 rfl sizeOf34 rfl) (Ac rfl rfl underlying22 rfl sizeOf22 rfl rfl) (AF rfl)) ?_;intro ρ w' hr;first|exact⟨rfl,hr.1⟩|exact⟨⟨(ρ 55).val,rfl,B8 hr rfl⟩,hr.1⟩
 ·skip
  refine q_k ?_;refine q_8 ?_;refine SR ?_;refine XI ?_;refine Wn ?_;refine Ww ?_;iterate 3 refine AL ?_
  refine Ef ?_;refine SN ?_;iterate 4 refine AL ?_
  obtain⟨z,h_r⟩: ∃z,C2 c=z:=⟨_,rfl⟩
  obtain⟨y,h_e⟩: ∃y,decide ((wrT (c.whole r t)).1=b)=y:=⟨_,rfl⟩
  rw[GF,h_r,h_e]at hRr;have h3:z=false∨(z=true∧y=false)∨(z=true∧y=true):=by cases z<;>cases y<;>simp
  rcases h3 with rfl|⟨rfl,rfl⟩|⟨rfl,rfl⟩
  ·simp only[Bool.not_false,cond_true]at hRr
   subst hRr;iterate 2 refine AL ?_
   refine KN ?_;refine AL ?_;refine Gk ?_;refine O2 ?_;refine q_3 ?_;refine C0 ?_;refine Gk ?_;refine H3 ?_;refine O5 ?_;refine DY ?_;refine O3 ?_;refine Dg ?_;iterate 4 refine q_k ?_
   refine MG ?_;refine I7 ?_;refine I8 ?_;refine EJ ?_
   refine AG ?_;refine AD (BX results34 (Am rfl rfl underlying34 rfl sizeOf34 rfl) (Ac rfl rfl underlying22 rfl sizeOf22 rfl rfl) (AF rfl)) ?_;intro ρ w' hr;first|exact⟨rfl,hr.1⟩|exact⟨⟨(ρ 55).val,rfl,B8 hr rfl⟩,hr.1⟩
  ·simp only[Bool.not_true,Bool.not_false,cond_false,cond_true]at hRr
   subst hRr;have hF:=KD i8 s8 k8 h_r;iterate 2 refine AL ?_
   refine KN ?_;refine AL ?_;refine Gk ?_;refine O2 ?_;refine q_3 ?_;refine C0 ?_;refine Gk ?_;refine H3 ?_;refine O5 ?_;refine DY ?_;refine O3 ?_;refine Dg ?_;iterate 4 refine q_k ?_
   refine MG ?_;refine I7 ?_;refine I8 ?_;refine EJ ?_
   refine AG ?_;refine AD (BX results34 (Am rfl rfl underlying34 rfl sizeOf34 rfl) (Ac rfl rfl underlying22 rfl sizeOf22 rfl rfl) (AF rfl)) ?_;intro ρ w' hr;first|exact⟨rfl,hr.1⟩|exact⟨⟨(ρ 55).val,rfl,B8 hr rfl⟩,hr.1⟩
  ·simp only[Bool.not_true,cond_false]at hRr
   subst hRr;have hF:=KD i8 s8 k8 h_r;iterate 2 refine AL ?_
   refine KN ?_;refine AL ?_;refine Gk ?_;refine O2 ?_;refine q_3 ?_;refine C0 ?_;refine Gk ?_;refine H3 ?_;refine O5 ?_;refine DY ?_;refine O3 ?_;refine Dg ?_;iterate 5 refine q_k ?_
   refine Gi ?_;refine C4 ?_;refine I8 ?_;refine EJ ?_
   refine AG ?_;refine AD (BX results34 (Am rfl rfl underlying34 rfl sizeOf34 rfl) (Ac rfl rfl underlying22 rfl sizeOf22 rfl rfl) (AF rfl)) ?_;intro ρ w' hr;first|exact⟨rfl,hr.1⟩|exact⟨⟨(ρ 55).val,rfl,B8 hr rfl⟩,hr.1⟩
theorem WO{F:Nat→Prop}(hL:Laid w)(hv:AO w v b.length 1 (b.map b8) F)(h8: ∀x∈b,x<256)(hbl:b.length≤1048576):Calls prog 34 #[v] w fun e w'=>RdC w w' e (rdC b)∧Bw w w':=by
 refine hG w hL hv h8 hbl (fun h=>by rw[rdC,h];rfl) fun n0 E hT hE h_E hok f=> ?_
 have e1:rdC b=Gz n0 b:=by rw[rdC,hT,hE,h_E];rfl
 refine g9 w hok (fun g pa hC f=> ?_) f;refine g8 w hok (fun h=>by rw[e1,Gz,h];rfl) (fun h1 h2 c hc f=> ?_) f;subst hc;have his:=EY (Af [3,0,1] (Af [0] hok));have hsu:=EY (Af [5,0,1] (Af [0] hok));exact g7 w hL hv h8 hok his.1 his.2 hsu.1 hsu.2 (Hv (Af [6,1] (Af [0] hok))) (by rw[e1,Gz,h1,h2,hC];rfl) f
end Go.Proofs.YtafbhakmkbehiaaGreatDoor
