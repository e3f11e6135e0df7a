import Derived.Test.YtafbhakmkbehiaaGreatDoorZ34
import Derived.Test.YtafbhakmkbehiaaGreatDoorZ37
open Go.Proofs.Tryz
set_option maxHeartbeats 4000000
set_option maxRecDepth 100000
namespace Go.Proofs.YtafbhakmkbehiaaGreatDoor
open Go.RowKit Go.Vx
variable(w:World){ops:Array Oper}{xs:Array Operand}{ats:Array TypeId}{D:Dat}{f:FuncId}{ki:IntKind}{Bs Rs:List (List Nat)}{b bs ls os rd:List Nat}{vs:List SV}{news:List Value}{g i id id2 k n size:Nat}{S:Nat→Nat→Prop}{ρ:Nat→Nm}{F0 S1:Nat→Prop}{o:Oper}{x:Operand}{P:Program}{d:TypeDesc}{e et ty:TypeId}{s:VS}{v v0:Value}{w0:World}
open TollMont
open Go.Toll (Gw)
open TollEc (F pp cb Jp Pt Au add base nn neg)
open TollSha (sha CH)
def KG(w w':World)(v:Value)(n size:Nat)(ty:TypeId)(D:Dat):Prop:= ∃g xs S,xs.length=n*size∧D.holds xs w' S∧EC w' w.heap.size ⟨g,v⟩ n size ty xs∧(∀k,S k→w.heap.size≤k∧k<w'.heap.size)∧(v≠ .slice none 0 0→ ¬S g)
theorem R8{base:Nat}{t:Mem}{w w':World}{val:SV}{xs:List Value}
 (hb:base≤w.heap.size)(h:Bw w w')(hl:xs.length=n*size)(hD:D.holds xs w' S1)(hr:EC w' w.heap.size ⟨g,v⟩ n size ty xs)(hS: ∀k,S1 k→w.heap.size≤k∧k<w'.heap.size)(hn:v≠ .slice none 0 0→ ¬S1 g):
 Out base t ρ S w ⟨val,[(id,.row n size ty D)],[],[id],rd⟩ (val.c fun k=>if k=id then⟨g,v⟩else ρ k) (fun k=>if k=id then⟨g,v⟩else ρ k) (fun _=>S1) w':=
 Cj h.os h.tape h.output h.size (fun k hk _=>h.block k hk) (fun ρ' h1 _=>⟨xs,hl,hD,by
  rw[h1];rcases hr with hr|⟨off,cap,cur,fz,a1,a2,a3⟩
  ·exact .inl hr
  ·exact .inr ⟨off,cap,cur,fz,a1,Nat.le_trans hb a2,a3⟩⟩) (fun k hk=> .inr (hS k hk)) (fun ho=> .inr ⟨by
   rcases hr with⟨hr,_⟩|⟨off,cap,cur,fz,a1,a2,a3⟩
   ·exact absurd hr ho
   ·exact a2,hn ho⟩)
theorem Us(D:Dat)(rd:List Nat)(_hd:o.dst=some id)(ho:o.op= .call {callee:= .value (.func f),args:=xs,argTypes:=ats})(hgd:AQ ops o s)
 (hx:xs.toList.map (AE s)=vs)(he: ∀args w,(callFunc f args).run P w= .ok (.enter f args) w)
 (hc: ∀ρ S w,Bw w0 w→RelOn w0.heap.size ρ S w (restr rd s.mem)→Calls P f (SV.cs ρ vs).toArray w fun e w'=> ∃v,e= .returned v∧KG w w' v n size ty D∧Bw w w'):Ev P ops w0 o s ⟨.d id,[(id,.row n size ty D)],[],[id],rd⟩:=
 ⟨by simp[Eff.ok],.inr ⟨hgd,fun ρ S w hb hR=> .inr (.inr ⟨f,(SV.cs ρ vs).toArray,by
  obtain⟨dst,op,type,pos,after,guard⟩:=o;simp only at ho;subst ho;rw[execOp_call_go,G7,hx,←A8]
  simpa using he (SV.cs ρ vs).toArray w,(hc ρ S w hb hR).mono fun e w' ⟨v,h1,⟨g,xs2,S1,h2,h3,h4,h5,h6⟩,h7⟩=>⟨v,h1,_,_,by
   have:=R8 (base:=w0.heap.size) (t:=s.mem) (ρ:=ρ) (S:=S) (val:= .d id) (rd:=rd) (id:=id) hb.size h7 h2 h3 h4 h5 h6;simpa[SV.c] using this⟩⟩)⟩⟩
theorem R4{w:World}(hr:Rel w0 ρ s w)(hm:s.mem id=some (.row n size ty D)):KG w0 w (ρ id).val n size ty D:=by
 obtain⟨hb,S,hR⟩:=hr;obtain⟨xs,x1,x2,x3⟩:=hR.good id _ hm;exact⟨(ρ id).g,xs,S id,x1,x2,x3,fun k hk=>⟨hR.fr id k (by rw[hm];rfl) hk,hR.lt id k (by rw[hm];rfl) hk⟩,fun hv=>hR.dis id _ id hm hv (by rw[hm];rfl)⟩
theorem RB{lv:Value}{ls:List Value}{F:Nat→Prop}{m:Nat}(hm:Bs.length≤m)(hn:Bs.length≤20)(hv:AO w lv Bs.length 8 ls F)(hB: ∀i b,Bs[i]? =some b→((ls.drop (i*8)).take 8).length=8∧ ∀w',Bw w w'→Calls prog 16 #[.agg ((ls.drop (i*8)).take 8).toArray] w' fun e w''=> ∃v,e= .returned v∧BN w' w'' v b.length 1 5 (b.map b8)∧Bw w' w''):Calls prog 15 #[lv,.int .i64 (m:Nat)] w fun e w'=> ∃v,e= .returned v∧KG w w' v Bs.length 1 23 (Cu Bs)∧Bw w w':=by
 go_enter func15,ntmps15
 refine Cg ?_;apply vrp
 ·apply VE.cons
  ·exact CJ rfl gg
  simp only[nmx,seval];exact VE.nil _
 ·kernel_rfl
 refine AU ?_;apply vrp
 ·apply VE.cons
  ·exact CJ rfl gg
  simp only[nmx,seval];exact VE.nil _
 ·kernel_rfl
 refine BP ?_;apply vrp
 ·apply VE.cons
  ·exact CJ rfl gg
  simp only[nmx,seval];exact VE.nil _
 ·kernel_rfl
 refine FH ?_;refine Bo (α:={i:Nat // i≤Bs.length}) (fun(x:{i:Nat // i≤Bs.length}) f=>⟨(.v lv:: .v (.int .i64 (m:Nat)):: .v (f 2):: .v (f 3):: .v (f 4):: .d 900:: .v (.int .i64 (x.1:Nat)):: .v (f 7):: .v (f 8):: .v (f 9):: .v (f 10):: .v (f 11):: .v (f 12):: .v (f 13):: .v (f 14):: .v (f 15):: .v (f 16):: .v (f 17):: .v (f 18):: .v (f 19):: .v (f 20):: .v (f 21):: .v (f 22):: .v (f 23):: .v (f 24):: .v (f 25):: .v (f 26)::[]),AJ [(900,.row x.1 1 23 (Cu (Bs.take x.1)))]⟩) (fun x=>Bs.length-x.1) ?_ (⟨0,Nat.zero_le _⟩) ?_
 ·rintro⟨i,hi⟩ f
  obtain⟨q,h_q⟩: ∃q,decide (((i:Nat):Int)<((Bs.length:Nat):Int))=q:=⟨_,rfl⟩
  refine BP ?_;cases q
  ·have he:i=Bs.length:=by have:=of_decide_eq_false h_q;omega
   subst he;apply vrp
   ·apply VE.cons
    ·exact Ap rfl gg
    simp only[nmx,seval];apply VE.cons
    ·exact Ap rfl gg
    simp only[nmx,seval];apply VE.cons
    ·exact BU rfl gg rfl underlying47 (AW hv)
    simp only[nmx,seval];apply VE.cons
    ·exact BM rfl gg rfl rfl h_q
    simp only[nmx,seval];apply VE.cons
    ·exact Ap rfl gg
    simp only[nmx,seval];apply VE.cons
    ·first|exact Ev.skip (fun _=>rfl)|exact Ap rfl (fun _=>rfl)
    simp only[nmx,seval];apply VE.cons
    ·first|exact Ev.skip (fun _=>rfl)|exact Ap rfl (fun _=>rfl)
    simp only[nmx,seval];apply VE.cons
    ·first|exact Ev.skip (fun _=>rfl)|exact BM (p:=true) rfl (fun _=>rfl) rfl rfl (decide_eq_true (by omega))
    simp only[nmx,seval];apply VE.cons
    ·first|exact CY rfl gg rfl rfl|exact Ca rfl gg rfl rfl
    simp only[nmx,seval];exact VE.nil _
   ·kernel_rfl
   refine Fp ?_;refine As ?_;refine AU ?_;apply vrp
   ·apply VE.cons
    ·exact Ap rfl gg
    simp only[nmx,seval];apply VE.cons
    ·exact CJ rfl gg
    simp only[nmx,seval];exact VE.nil _
   ·kernel_rfl
   refine Ci ?_;refine AD (AH results15 (AF rfl)) ?_;intro ρ w' hr;refine⟨_,rfl,?_,hr.1⟩;have hh:=R4 (id:=900) hr rfl;rw[List.take_length]at hh;exact hh
  ·have hlt:i<Bs.length:=by have:=of_decide_eq_true h_q;omega
   obtain⟨b,hb⟩: ∃b,Bs[i]? =some b:=⟨_,List.getElem?_eq_getElem hlt⟩
   apply vrp
   ·apply VE.cons
    ·exact Ap rfl gg
    simp only[nmx,seval];apply VE.cons
    ·exact Ap rfl gg
    simp only[nmx,seval];apply VE.cons
    ·exact BU rfl gg rfl underlying47 (AW hv)
    simp only[nmx,seval];apply VE.cons
    ·exact BM rfl gg rfl rfl h_q
    simp only[nmx,seval];apply VE.cons
    ·exact Ap rfl gg
    simp only[nmx,seval];apply VE.cons
    ·first|exact Ev.skip (fun _=>rfl)|exact Ap rfl (fun _=>rfl)
    simp only[nmx,seval];apply VE.cons
    ·first|exact Ev.skip (fun _=>rfl)|exact Ap rfl (fun _=>rfl)
    simp only[nmx,seval];apply VE.cons
    ·first|exact Ev.skip (fun _=>rfl)|exact BM (p:=true) rfl (fun _=>rfl) rfl rfl (decide_eq_true (by omega))
    simp only[nmx,seval];apply VE.cons
    ·first|exact CY rfl gg rfl rfl|exact Ca rfl gg rfl rfl
    simp only[nmx,seval];exact VE.nil _
   ·kernel_rfl
   refine EO ?_;refine E9 ?_;refine Hf ?_;apply vrp
   ·apply VE.cons
    ·exact Ap rfl gg
    simp only[nmx,seval];apply VE.cons
    ·exact Ap rfl gg
    simp only[nmx,seval];apply VE.cons
    ·exact Ap rfl gg
    simp only[nmx,seval];apply VE.cons
    ·exact Bc (k:=i) rfl gg rfl rfl underlying47 sizeOf46 (AW hv) (hlt) (by decide)
    simp only[nmx,seval];apply VE.cons
    ·exact LF rfl gg rfl underlying46 rfl sizeOf46 (AW hv) rfl (hB i b hb).1 (by decide)
    simp only[nmx,seval];apply VE.cons
    ·exact Al (D:= .sl b.length 1 (b.map b8)) [] rfl rfl gg rfl (eo func16) (fun ρ S w' hb' hR=>((hB i b hb).2 w' hb').mono fun e w2 ⟨v,h1,h2,h3⟩=>⟨v,h1,HO (by simp) h2,h3⟩)
    simp only[nmx,seval];apply VE.cons
    ·exact Ty (n:=1) (l:=[.d 23]) [23] rfl rfl gg rfl (fun ρ S w' hR=>by have hd:=T5 (id:=23) hR (by simp) rfl;exact congrArg Array.toList (Dd hd).1) rfl rfl FC
    simp only[nmx,seval];apply VE.cons
    ·exact af (id:=900) (ys:=24) (n:=i) (k:=1) (k':=1) (size:=1) (Cu (Bs.take i++[b])) [900,24,23] rfl rfl gg rfl rfl rfl rfl rfl (Nat.le_refl _) underlying43 IH (by decide) (by simp only[maxLen];omega) (by omega) (by simp) (by simp) (fun ρ S w' hR=>by have hd:=T5 (id:=23) hR (by simp) rfl;show((SV.c ρ (.d 23)).oneCell' && true)=true;rw[(Dd hd).2];rfl) (fun ρ S w' xs hb' hR hxs=>by have hd:=T5 (id:=23) hR (by simp) rfl;exact A7.snoc (D1 (fun k hk=>⟨23,by simp,rfl,hk⟩) hd) (A7.sub (fun k hk=>⟨900,by simp,rfl,hk⟩) hxs))
    simp only[nmx,seval];apply VE.cons
    ·exact CJ rfl gg
    simp only[nmx,seval];exact VE.nil _
   ·kernel_rfl
   change VOk _ _ _ _ _;apply vrp
   ·apply VE.cons
    ·exact Ap rfl gg
    simp only[nmx,seval];apply VE.cons
    ·exact BE (c:=((i+1:Nat):Int)) rfl gg rfl rfl (by rw[Ah (by omega) (by omega)];omega)
    simp only[nmx,seval];apply VE.cons
    ·exact CJ rfl gg
    simp only[nmx,seval];exact VE.nil _
   ·kernel_rfl
   rw[←Im hb];refine⟨⟨i+1,by omega⟩,by show Bs.length-(i+1)<Bs.length-i;omega,?_⟩;exact(Ar (fun i=>i==0||i==1||i==5||i==6) [24,23]).trans2 (fun f=>Dk 25 900 (by decide) rfl)
 ·refine(Ar (fun i=>i==0||i==1||i==5||i==6) []).trans2 (fun f=> ?_)
  refine(N1 900 1 23 (Cu []) (fun w=>by trivial) (m':=[]) rfl rfl (fun ρ hv=> ?_) (fun ρ hv=> ?_))
  ·simp[B0,SV.cs,SV.c,hv,Bg]
  ·simp[JG,BQ]
theorem RA{w:World}(t r e:TypeId)(i:TypeInfo)(z:Value)(size bytes:Nat)(ht:P.underlying t=some (.slice e))(hi:P.info? e=some i)(hz:i.zero=some z)
 (hsize:i.size=size)(hby:i.bytes=bytes)(hzs:z.cells.size=size)(hsz:0<size){x:Value}{S:Nat→Prop}(hx:AO w x k size news S)
 (h63:k≤maxLen)(hbytes:k*bytes≤140737488355328):
 ∃v' w' S1,(Builtin.append_ #[t,t] r #[.slice (some ⟨g,0,none⟩) 0 0,x]).run P w= .ok v' w'∧AO w' v' k size news S1∧w'.os=w.os∧w'.tape=w.tape∧w'.output=w.output∧w.heap.size≤w'.heap.size∧
  (∀j,j<w.heap.size→w'.heap[j]? =w.heap[j]?)∧(∀j,S1 j→w.heap.size≤j∧j<w'.heap.size):=by
 subst hsize hby;obtain⟨ao,cp,rfl,hkc,hnl,hx⟩:=hx;have hsmall:k≤9223372036854775807:=by simp only[maxLen]at h63;omega
 by_cases hk0:k=0
 ·subst hk0
  have hn:news=[]:=List.eq_nil_of_length_eq_zero (by simpa using hnl);subst hn;refine⟨.slice (some ⟨g,0,none⟩) 0 0,w,fun _=>False,?_,⟨_,_,rfl,Nat.le_refl _,by simp,.inl rfl⟩,rfl,rfl,rfl,Nat.le_refl _,fun _ _=>rfl,fun _ h=>h.elim⟩;cases ao<;>simp[Builtin.append_,run_underlying ht,sizeOf,typeInfo,hi,Builtin.lenOf,Builtin.firstCells,loadCells,loadCellsFrom,storeCells]
 ·have hne:news≠[]:=fun h=>by
   rw[h]at hnl;have:0<k*i.size:=Nat.mul_pos (by omega) hsz;simp at hnl;omega
  rcases hx with hx|⟨ga,rfl,_,hnews⟩
  ·exact absurd hx hne
  have hr:=run_append_grow (P:=P) w t r e i z ht hi hz ⟨g,0,none⟩ 0 0 [] (by simp) (fun j u hj=>by cases hj) ga k cp news hnl hnews (by omega) (by omega) (growslice_fits (by omega) (by simpa using hbytes));have hge:=grownCap_ge w k 0 e;have hcm:grownCap w k 0 e≤maxLen:=grownCap_le_maxLen w k 0 e (by omega);simp only[Nat.zero_add]at hr
  have hrow:EC (w.drew.alloc (.cells (([]:List Value).toArray++news.toArray++Builtin.zeroCells z.cells (grownCap w k 0 e-k)) e)) w.heap.size
   ⟨w.heap.size,.slice (some ⟨w.heap.size,0,none⟩) k (grownCap w k 0 e)⟩ k i.size e news:=by
   refine .inr ⟨0,_,_,(0,0),rfl,Nat.le_refl _,heap_alloc_new w.drew _,.inl rfl,hge,hcm,?_,?_⟩
   ·simp only[Array.size_append,List.size_toArray,size_zeroCells,hzs,hnl,←Nat.add_mul,Nat.zero_add,List.length_nil]
    apply Nat.le_of_eq;congr 1
    omega
   ·simp only[Array.toList_append,List.drop_zero,List.nil_append]
    rw[←hnl];exact List.take_left
  have hsl:=DX hrow hnl;refine⟨_,_,_,hr,hsl,rfl,rfl,rfl,by simp,fun j hj=>heap_alloc_old w.drew _ hj,fun j hj=> ?_⟩;have hj':j=w.heap.size:=hj;subst hj';exact⟨Nat.le_refl _,by simp⟩
def IK:Dat:=⟨fun xs _ _=> ∃g,xs=[.slice (some ⟨g,0,none⟩) 0 0],fun h _=>h⟩
theorem Um(_hd:o.dst=some id)(ho:o.op= .buildSlice ty 0 #[])(hgd:AQ ops o s)
 (hb: ∀w,(Instr.buildSlice ty 0 #[]).run P w= .ok (.slice (some ⟨w.heap.size,0,none⟩) 0 0) (w.alloc (.cells #[] e))):Ev P ops w0 o s ⟨.d id,[(id,.dat IK)],[],[id],[]⟩:=
 ⟨by simp[Eff.ok],.inr ⟨hgd,fun ρ S w hbw hR=>by
  refine .inl ⟨.slice (some ⟨w.heap.size,0,none⟩) 0 0,w.alloc (.cells #[] e),?_,fun j=>if j=id then⟨0,.slice (some ⟨w.heap.size,0,none⟩) 0 0⟩else ρ j,fun _ _=>False,?_⟩
  ·simp only[execOp,ho,List.map_toArray,List.map_nil]
   rw[Sem.run_bind,hb];rfl
  ·have:=Cj (base:=w0.heap.size) (t:=s.mem) (ρ:=ρ) (S:=S) (w:=w) (w':=w.alloc (.cells #[] e)) (val:= .d id) (rd:=[]) (up:=[]) (id:=id) (b:= .dat IK) (m:=⟨0,.slice (some ⟨w.heap.size,0,none⟩) 0 0⟩) (S1:=fun _=>False)
    rfl rfl rfl (by simp) (fun k hk _=>heap_alloc_old w _ hk) (fun ρ' g1 g2=>by show IK.holds [(ρ' id).val] _ _;rw[g1];exact⟨w.heap.size,rfl⟩) (fun _ h=>h.elim) (fun ho=>ho.elim)
   simpa[SV.c] using this⟩⟩
theorem Ut{t:TypeId}{y:Operand}{bytes:Nat}{sv:SV}(_hd:o.dst=some id2)(ho:o.op= .call {callee:= .builtin .append,args:= #[x,y],argTypes:= #[t,t]})(hgd:AQ ops o s)
 (hx:AE s x= .d id)(hm:s.mem id=some (.dat IK))(hid:id∈rd)(hy:AE s y=sv)(hr:Rdg w0 s.mem rd sv k size news)
 (ht:P.underlying t=some (.slice e))(hI:DT P e size bytes)(hsz:0<size)(h63:k≤maxLen)(hbytes:k*bytes≤140737488355328):
 Ev P ops w0 o s ⟨.d id2,[(id2,.dat (.sl k size news))],[],[id2],rd⟩:=
 ⟨by simp[Eff.ok],.inr ⟨hgd,fun ρ S w hb hR=>by
  obtain⟨i,z,hi,hz,hsize,hby,hzs⟩:=hI.get;obtain⟨S1,hsl⟩:=hr ρ S w hb hR;obtain⟨g,hg⟩:=Gc hR hid hm;simp only[List.cons.injEq,and_true]at hg;obtain⟨v',w',S2,r1,r2,r3,r4,r5,r6,r7,r8⟩:=RA (P:=P) t o.type e i z size bytes ht hi hz hsize hby hzs hsz (g:=g) hsl h63 hbytes;refine .inl ⟨v',w',?_,fun j=>if j=id2 then⟨0,v'⟩else ρ j,fun _=>S2,?_⟩
  ·have e1:=AI s ρ x
   rw[hx]at e1;have e2:=AI s ρ y;rw[hy]at e2;simp only[SV.c,hg]at e1;unfold execOp;simp only[ho,resolve,invoke,builtin,Sem.run_bind,Sem.run_pure,Result.andThen_ok,List.map_toArray,List.map_cons,List.map_nil,e1,e2,r1]
  ·have:=Cj (base:=w0.heap.size) (t:=s.mem) (ρ:=ρ) (S:=S) (w:=w) (w':=w') (val:= .d id2) (rd:=rd) (up:=[]) (id:=id2) (b:= .dat (.sl k size news)) (m:=⟨0,v'⟩) (S1:=S2)
    r3 r4 r5 r6 (fun j hj _=>r7 j hj) (fun ρ' h1 _=>by show(Dat.sl k size news).holds [(ρ' id2).val] _ _;rw[h1];exact⟨v',rfl,r2⟩) (fun j hj=> .inr (r8 j hj)) (fun ho=>ho.elim)
   simpa[SV.c] using this⟩⟩
theorem Ul{ix:Operand}(ho:o.op= .indexAddr ty x ix)(hgd:AQ ops o s)(hx:AE s x= .d id)(hm:s.mem id=some (.row n size et D))(hi:AE s ix= .v (.int ki (k:Nat)))
 (hu:P.underlying ty=some (.slice e))(hs: ∀w,(Go.sizeOf e).run P w= .ok size w)(hk:k<n):Ev P ops w0 o s ⟨.fn (FK (k*size)) (.d id),[],[],[],[id]⟩:=
 Ev.run _ _ hgd fun ρ S w hb hR=>by
  have e1:=AI s ρ x;rw[hx]at e1;have e2:=AI s ρ ix;rw[hi]at e2;obtain⟨xs,h1,h2,h3⟩:=relon_get hR hm (by simp);rcases h3 with⟨_,h4⟩|⟨off,cap,cur,fz,h4,_⟩
  ·omega
  ·simp only[SV.c,h4]at e1
   simp[execOp,ho,e1,e2,SV.c,h4,Instr.indexAt,asIntOf,run_underlying hu,hs,FK,hk]
theorem Ud{off:Nat}(_hd:o.dst=some id2)(ho:o.op= .load ty x)(hgd:AQ ops o s)(hx:AE s x= .fn (FK off) (.d id))(hm:s.mem id=some (.row n 1 et (Cu Bs)))
 (hu:P.underlying ty=some d)(hda:Ba d=false)(hb:Bs[off]? =some b):Ev P ops w0 o s ⟨.d id2,[(id2,.dat (.sl b.length 1 (b.map b8)))],[],[id2],[id]⟩:=
 Ev.datD [id] hgd fun ρ S w hbw hR=>by
  have e1:=AI s ρ x;rw[hx]at e1;obtain⟨xs,h1,h2,h3⟩:=relon_get hR hm (by simp);have h2':A7 w (S id) Bs xs:=h2;obtain⟨v,hv1,hv2⟩:=h2'.get hb;have hsl:=DX h3 h1;obtain⟨ao,cap,g1,g2,g3,g4⟩:=hsl;rcases g4 with g4|⟨g,rfl,_,g4⟩
  ·rw[g4]at hv1;cases hv1
  ·have hc:=g4 _ _ hv1
   refine⟨v,S id,?_,⟨v,rfl,hv2⟩,fun k hk=>⟨id,by simp,by rw[hm];rfl,hk⟩⟩;simp only[SV.c,g1]at e1;simp[execOp,ho,e1,FK,Instr.loadAt,Instr.sureAddr,loadVar,Bp hu,hda,hc]
theorem IJ{w:World}{base:Nat}{m:Mem}{j:Nat}(hR:RelOn base ρ S w (restr rd m))(hid:id∈rd)(hm:m id=some (.cells [.d j] ty)):AO w (SV.c ρ (.s id 0 1 1)) 1 1 [(ρ j).val] (fun k=>k=(ρ id).g):=by
 have hcy:=(relon_get hR hm hid).2;refine⟨_,_,rfl,Nat.le_refl _,rfl,.inr ⟨_,rfl,rfl,fun i x hx=> ?_⟩⟩;rcases i with _|i
 ·simp at hx;subst hx
  rw[Bd];simpa[SV.c] using GK (l:=[.d j]) hcy (show([.d j]:List SV)[0]? =some (.d j) from rfl)
 ·simp at hx
theorem IT(p q:Operand)(w:World):(do eqGuard .and 3 p q (.int .i64 5) (.int .i64 1);binOp .and 3 (.int .i64 5) (.int .i64 1):Sem Value).run prog w= .ok (.int .i64 1) w:=by kernel_rfl
theorem IQ(p q:Operand)(w:World):(do eqGuard .and 3 p q (.int .i64 5) (.int .i64 4);binOp .and 3 (.int .i64 5) (.int .i64 4):Sem Value).run prog w= .ok (.int .i64 4) w:=by kernel_rfl
theorem QO:Ob (wrT (tG.whole 1114083266420058096696744489585543328269632961737434276984120145359717981390 86081644980612971697070882193903715326289650179523083670499400885591605164653)).1 Bf=0:=by
 unfold Ob;rw[G9];exact OP
theorem V9(now:Int)(h1:decide (now<0)=false)(h2:decide (now>9)=false):[(wrT (tF.whole 91641478266143319200409962979497838403251612625275892787359574695720535655184 34359785920783616614347124149629303463568371124378962494315311719422531698393)).1].any (rok now 0 tG.is (wrT (tG.whole 1114083266420058096696744489585543328269632961737434276984120145359717981390 86081644980612971697070882193903715326289650179523083670499400885591605164653)).1)=true:=by
 simp only[List.any_cons,List.any_nil,Bool.or_false];unfold rok;rw[Kb];show(true && !decide ((0:Int)<((0:Nat):Int)) && !decide (now<0) && !decide (now>9) && !decide (tF.su≠tG.is) && decide (Ob (wrT (tG.whole 1114083266420058096696744489585543328269632961737434276984120145359717981390 86081644980612971697070882193903715326289650179523083670499400885591605164653)).1 Bf=0))=true;rw[h1,h2,QO];decide
theorem KH(hL:Laid w)(hK:B6 w)(hH:CQ w)(hE:DU w)(hb1:7<w.heap.size):Calls prog 17 #[] w fun e w'=>e= .returned (.bool true)∧Bw w w':=by
 go_enter func17,ntmps17
 refine Cg ?_;apply vrp
 ·apply VE.cons
  ·exact CJ rfl gg
  simp only[nmx,seval];exact VE.nil _
 ·kernel_rfl
 refine AU ?_;apply vrp
 ·apply VE.cons
  ·exact A6 (cells:=(.agg #[.int .u8 1,.int .u8 1,.int .u8 1,.int .i64 0,.int .i64 9,.bool true,.int .i64 0,.int .i64 1]:Value).cells) rfl gg rfl (by kernel_rfl)
  simp only[nmx,seval];apply VE.cons
  ·exact Al (D:= .sl (wrT (tF.whole 91641478266143319200409962979497838403251612625275892787359574695720535655184 34359785920783616614347124149629303463568371124378962494315311719422531698393)).1.length 1 ((wrT (tF.whole 91641478266143319200409962979497838403251612625275892787359574695720535655184 34359785920783616614347124149629303463568371124378962494315311719422531698393)).1.map b8)) [] rfl rfl gg rfl (eo func16) (fun ρ S w' hb hR=>(SJ w' (hL.bw hb) (hK.bw hb) (hH.bw hb) (Nat.lt_of_lt_of_le hb1 (Below.size hb))).mono fun e w2 ⟨v,h1,h2,h3⟩=>⟨v,h1,HO (by simp) h2,h3⟩)
  simp only[nmx,seval];apply VE.cons
  ·exact CJ rfl gg
  simp only[nmx,seval];exact VE.nil _
 ·kernel_rfl
 refine AU ?_;apply vrp
 ·apply VE.cons
  ·exact A6 (cells:=(.agg #[.int .u8 2,.int .u8 1,.int .u8 1,.int .i64 0,.int .i64 9,.bool false,.int .i64 0,.int .i64 5]:Value).cells) rfl gg rfl (by kernel_rfl)
  simp only[nmx,seval];apply VE.cons
  ·exact Al (D:= .sl (wrT (tG.whole 1114083266420058096696744489585543328269632961737434276984120145359717981390 86081644980612971697070882193903715326289650179523083670499400885591605164653)).1.length 1 ((wrT (tG.whole 1114083266420058096696744489585543328269632961737434276984120145359717981390 86081644980612971697070882193903715326289650179523083670499400885591605164653)).1.map b8)) [] rfl rfl gg rfl (eo func16) (fun ρ S w' hb hR=>(SI w' (hL.bw hb) (hK.bw hb) (hH.bw hb) (Nat.lt_of_lt_of_le hb1 (Below.size hb))).mono fun e w2 ⟨v,h1,h2,h3⟩=>⟨v,h1,HO (by simp) h2,h3⟩)
  simp only[nmx,seval];apply VE.cons
  ·exact CJ rfl gg
  simp only[nmx,seval];exact VE.nil _
 ·kernel_rfl
 refine AU ?_;apply vrp
 ·apply VE.cons
  ·exact Ap rfl gg
  simp only[nmx,seval];apply VE.cons
  ·exact Ty (n:=1) (l:=[.d 12]) [12] rfl rfl gg rfl (fun ρ S w' hR=>by have hd:=T5 (id:=12) hR (by simp) rfl;exact congrArg Array.toList (Dd hd).1) rfl rfl FC
  simp only[nmx,seval];apply VE.cons
  ·exact Ap rfl gg
  simp only[nmx,seval];apply VE.cons
  ·exact Ty (n:=1) (l:=[.d 10]) [10] rfl rfl gg rfl (fun ρ S w' hR=>by have hd:=T5 (id:=10) hR (by simp) rfl;exact congrArg Array.toList (Dd hd).1) rfl rfl FC
  simp only[nmx,seval];apply VE.cons
  ·exact DL (D:=G5 tG) (ys:=[.int .i64 0,.int .i64 0]) [15,12,17,10] rfl rfl gg rfl (eo func18) (fun ρ S w' hb hR=>N9 (c:=tG) (Rs:=[(wrT (tF.whole 91641478266143319200409962979497838403251612625275892787359574695720535655184 34359785920783616614347124149629303463568371124378962494315311719422531698393)).1]) w' (hL.bw hb) (hK.bw hb) (hH.bw hb) (Nat.lt_of_lt_of_le hb1 (Below.size hb)) (IJ (id:=15) hR (by simp) rfl) (T5 (id:=12) hR (by simp) rfl) (EE (Lb HD.fit _ _)) (by have:=GN (tG.whole 1114083266420058096696744489585543328269632961737434276984120145359717981390 86081644980612971697070882193903715326289650179523083670499400885591605164653);omega) (hE.bw hb1 hb) (D1 (T:=fun k=>k=(ρ 17).g∨S 10 k) (fun k hk=>Or.inl hk) (IJ (id:=17) hR (by simp) rfl)) (⟨D1 (fun k hk=>Or.inr hk) (T5 (id:=10) hR (by simp) rfl),trivial⟩) (by decide) (fun b hb2=>by rcases List.mem_singleton.1 hb2 with rfl;exact⟨EE (Lb HG.fit _ _),by have:=GN (tF.whole 91641478266143319200409962979497838403251612625275892787359574695720535655184 34359785920783616614347124149629303463568371124378962494315311719422531698393);omega⟩) G9 IT IQ (by decide) (by decide) (by decide) (by decide) (V9 9 (by decide) (by decide)))
  simp only[nmx,seval];apply VE.cons
  ·exact Ap rfl gg
  simp only[nmx,seval];apply VE.cons
  ·first|exact Cy rfl gg rfl rfl|exact C8 rfl gg rfl rfl
  simp only[nmx,seval];apply VE.cons
  ·first|exact Cy rfl gg rfl rfl|exact C8 rfl gg rfl rfl
  simp only[nmx,seval];apply VE.cons
  ·first|exact Cy rfl gg rfl rfl|exact C8 rfl gg rfl rfl
  simp only[nmx,seval];apply VE.cons
  ·exact BZ rfl rfl gg zeroValue34
  simp only[nmx,seval];apply VE.cons
  ·first|exact Bh (vl:=[.v (.int .i64 tG.se),.v (.string (AB tG.is)),.v (.string (AB tG.su)),.v (.int .i64 tG.fr),.v (.int .i64 tG.to),.fn (AN 5) (.d 18),.v (.bool tG.ca),.v (.int .i64 tG.pa),.v (.int .i64 tG.us)]) [18,3] rfl gg rfl rfl rfl sizeOf34 rfl (fun ρ S w' _ hR=>by obtain⟨kv,e,h⟩:=Nb (id:=18) hR (by simp) rfl;exact QL e h) rfl (by simp)|exact BA rfl gg rfl rfl rfl sizeOf34 rfl (by simp) rfl
  simp only[nmx,seval];apply VE.cons
  ·exact CJ rfl gg
  simp only[nmx,seval];apply VE.cons
  ·exact CJ rfl gg
  simp only[nmx,seval];exact VE.nil _
 ·kernel_rfl
 refine AU ?_;apply vrp
 ·apply VE.cons
  ·exact Ap rfl gg
  simp only[nmx,seval];apply VE.cons
  ·exact Ty (n:=1) (l:=[.d 12]) [12] rfl rfl gg rfl (fun ρ S w' hR=>by have hd:=T5 (id:=12) hR (by simp) rfl;exact congrArg Array.toList (Dd hd).1) rfl rfl FC
  simp only[nmx,seval];apply VE.cons
  ·exact Ap rfl gg
  simp only[nmx,seval];apply VE.cons
  ·exact Ty (n:=1) (l:=[.d 10]) [10] rfl rfl gg rfl (fun ρ S w' hR=>by have hd:=T5 (id:=10) hR (by simp) rfl;exact congrArg Array.toList (Dd hd).1) rfl rfl FC
  simp only[nmx,seval];apply VE.cons
  ·exact Aj (v:= .tuple #[CZ,.int .i64 0,.int .i64 7]) [24,12,26,10] rfl gg rfl (eo func18) (fun ρ S w' hb hR=>XN (c:=tG) (Rs:=[(wrT (tF.whole 91641478266143319200409962979497838403251612625275892787359574695720535655184 34359785920783616614347124149629303463568371124378962494315311719422531698393)).1]) w' (hL.bw hb) (hK.bw hb) (hH.bw hb) (Nat.lt_of_lt_of_le hb1 (Below.size hb)) (IJ (id:=24) hR (by simp) rfl) (T5 (id:=12) hR (by simp) rfl) (EE (Lb HD.fit _ _)) (by have:=GN (tG.whole 1114083266420058096696744489585543328269632961737434276984120145359717981390 86081644980612971697070882193903715326289650179523083670499400885591605164653);omega) (hE.bw hb1 hb) (D1 (T:=fun k=>k=(ρ 26).g∨S 10 k) (fun k hk=>Or.inl hk) (IJ (id:=26) hR (by simp) rfl)) (⟨D1 (fun k hk=>Or.inr hk) (T5 (id:=10) hR (by simp) rfl),trivial⟩) (by decide) (fun b hb2=>by rcases List.mem_singleton.1 hb2 with rfl;exact⟨EE (Lb HG.fit _ _),by have:=GN (tF.whole 91641478266143319200409962979497838403251612625275892787359574695720535655184 34359785920783616614347124149629303463568371124378962494315311719422531698393);omega⟩) G9 IT IQ (by decide) (by decide) (by decide) (by decide))
  simp only[nmx,seval];apply VE.cons
  ·exact Ap rfl gg
  simp only[nmx,seval];apply VE.cons
  ·first|exact Cy rfl gg rfl rfl|exact C8 rfl gg rfl rfl
  simp only[nmx,seval];apply VE.cons
  ·first|exact Cy rfl gg rfl rfl|exact C8 rfl gg rfl rfl
  simp only[nmx,seval];apply VE.cons
  ·first|exact Cy rfl gg rfl rfl|exact C8 rfl gg rfl rfl
  simp only[nmx,seval];apply VE.cons
  ·exact BZ rfl rfl gg zeroValue34
  simp only[nmx,seval];apply VE.cons
  ·first|exact Bh (vl:=[.v (.int .i64 tG.se),.v (.string (AB tG.is)),.v (.string (AB tG.su)),.v (.int .i64 tG.fr),.v (.int .i64 tG.to),.fn (AN 5) (.d 18),.v (.bool tG.ca),.v (.int .i64 tG.pa),.v (.int .i64 tG.us)]) [18,3] rfl gg rfl rfl rfl sizeOf34 rfl (fun ρ S w' _ hR=>by obtain⟨kv,e,h⟩:=Nb (id:=18) hR (by simp) rfl;exact QL e h) rfl (by simp)|exact BA rfl gg rfl rfl rfl sizeOf34 rfl (by simp) rfl
  simp only[nmx,seval];apply VE.cons
  ·exact CJ rfl gg
  simp only[nmx,seval];apply VE.cons
  ·exact CJ rfl gg
  simp only[nmx,seval];exact VE.nil _
 ·kernel_rfl
 refine AU ?_;apply vrd (by kernel_rfl)
 ·apply VE.cons
  ·exact Ap rfl gg
  simp only[nmx,seval];apply VE.cons
  ·exact Ag (p:=true) rfl gg rfl rfl (by decide)
  simp only[nmx,seval];apply VE.cons
  ·exact Ap rfl gg
  simp only[nmx,seval];apply VE.cons
  ·first|exact Ev.skip (fun _=>rfl)|exact BG rfl (fun _=>rfl) rfl underlying34 rfl sizeOf9|exact BF rfl (fun _=>rfl) rfl underlying34 rfl sizeOf9
  simp only[nmx,seval];apply VE.cons
  ·first|exact Ev.skip (fun _=>rfl)|exact BK rfl (fun _=>rfl) rfl rfl underlying9 rfl rfl|exact BR rfl (fun _=>rfl) rfl underlying9 rfl (by assumption)
  simp only[nmx,seval];apply VE.cons
  ·first|exact Ev.skip (fun _=>rfl)|exact Ad (v:= .string (AB [110,99])) rfl (fun _=>rfl) rfl (eo func41) (fun w' hw'=>Hj w')
  simp only[nmx,seval];apply VE.cons
  ·first|exact Ev.skip (fun _=>rfl)|exact AK (c:= .bool true) rfl (fun _=>rfl) rfl rfl (fun w=>E4 (a:=[110,99]) (b:=[110,99]) (by decide) (by decide) (by decide) _ _ w)
  simp only[nmx,seval];apply VE.cons
  ·first|exact CY rfl gg rfl rfl|exact Ca rfl gg rfl rfl
  simp only[nmx,seval];apply VE.cons
  ·exact Ap rfl gg
  simp only[nmx,seval];apply VE.cons
  ·first|exact Ev.skip (fun _=>rfl)|exact Ap rfl (fun _=>rfl)
  simp only[nmx,seval];apply VE.cons
  ·first|exact Ev.skip (fun _=>rfl)|exact Ag (p:=true) rfl (fun _=>rfl) rfl rfl (by decide)
  simp only[nmx,seval];apply VE.cons
  ·first|exact CY rfl gg rfl rfl|exact Ca rfl gg rfl rfl
  simp only[nmx,seval];apply VE.cons
  ·exact Ap rfl gg
  simp only[nmx,seval];apply VE.cons
  ·first|exact Ev.skip (fun _=>rfl)|exact Ap rfl (fun _=>rfl)
  simp only[nmx,seval];apply VE.cons
  ·first|exact Ev.skip (fun _=>rfl)|exact Ag (p:=true) rfl (fun _=>rfl) rfl rfl (by decide)
  simp only[nmx,seval];apply VE.cons
  ·first|exact CY rfl gg rfl rfl|exact Ca rfl gg rfl rfl
  simp only[nmx,seval];apply VE.cons
  ·exact CJ rfl gg
  simp only[nmx,seval];exact VE.nil _
 ·kernel_rfl
 change VOk _ _ _ _ _;exact AG (AD (AH results17 (AF rfl)) fun _ _ hr=>⟨rfl,hr.1⟩)
theorem Lp{w:World}{base:Nat}{m:Mem}{l:List SV}(hR:RelOn base ρ S w (restr rd m))(hid:id∈rd)(hm:m id=some (.cells l ty))(hl:l.length=n*size):AO w (SV.c ρ (.s id 0 n n)) n size (SV.cs ρ l) (fun k=>k=(ρ id).g):=by
 have hcy:=(relon_get hR hm hid).2;refine⟨_,_,rfl,Nat.le_refl _,by rw[A8,List.length_map];exact hl,.inr ⟨_,rfl,rfl,fun i x hx=> ?_⟩⟩;rw[A8,List.getElem?_map]at hx;cases h:l[i]? with
 |none=>rw[h]at hx;cases hx
 |some y=>
  rw[h]at hx;simp only[Option.map_some,Option.some.injEq]at hx;rw[←hx,Bd,Nat.zero_add];exact GK hcy h
noncomputable abbrev wtA:List Nat:=(wrT (tA.whole 41715360500048865528212135316396881002352046238176151486779771412335456336589 14839166437902177103810367222258322517155128531671763739276796972415279353084)).1
noncomputable abbrev wtB:List Nat:=(wrT (tB.whole 30679956977848723838440884760051000257939829302397608969779145279870536395341 39185289201640412552348515590654658371388438251048215679988567375092396546374)).1
noncomputable abbrev wtC:List Nat:=(wrT (tC.whole 5772946469002268839201089702960858817498068566099924351286408167159961794623 73400036896012591577527421159254660793469944321502378633467049890175108587207)).1
noncomputable abbrev wtD:List Nat:=(wrT (tD.whole 29656910196704293304467896668974446919777439603270438697424484323895296126424 20489625032818899542978692778137431390965977524520967209241850401761964079055)).1
noncomputable abbrev wtE:List Nat:=(wrT (tE.whole 212630159700969180254328110574554626609795834104908156330181484691328363726 89621253626434868007929885493167276122920611870865619631395310279036515555574)).1
theorem SF(hL:Laid w)(hK:B6 w)(hH:CQ w)(hb1:7<w.heap.size): ∀i b,[wtA][i]? =some b→((([.int .u8 0,.int .u8 1,.int .u8 1,.int .i64 0,.int .i64 9,.bool false,.int .i64 0,.int .i64 5]:List Value).drop (i*8)).take 8).length=8∧ ∀w',Bw w w'→Calls prog 16 #[.agg ((([.int .u8 0,.int .u8 1,.int .u8 1,.int .i64 0,.int .i64 9,.bool false,.int .i64 0,.int .i64 5]:List Value).drop (i*8)).take 8).toArray] w' fun e w''=> ∃v,e= .returned v∧BN w' w'' v b.length 1 5 (b.map b8)∧Bw w' w'':=by
 intro i b h;rcases i with _|i
 ·rw[List.getElem?_cons_zero]at h
  have e:wtA=b:=Option.some.inj h;rw[←e];refine⟨rfl,fun w' hb=> ?_⟩;exact Sd w' (hL.bw hb) (hK.bw hb) (hH.bw hb) (Nat.lt_of_lt_of_le hb1 (Below.size hb))
 ·rw[List.getElem?_cons_succ,List.getElem?_nil]at h
  cases h
theorem SD(hL:Laid w)(hK:B6 w)(hH:CQ w)(hb1:7<w.heap.size): ∀i b,[wtB,wtC,wtD,wtE][i]? =some b→((([.int .u8 1,.int .u8 1,.int .u8 1,.int .i64 0,.int .i64 9,.bool true,.int .i64 0,.int .i64 0,.int .u8 2,.int .u8 2,.int .u8 2,.int .i64 0,.int .i64 9,.bool true,.int .i64 0,.int .i64 0,.int .u8 1,.int .u8 1,.int .u8 1,.int .i64 0,.int .i64 3,.bool true,.int .i64 0,.int .i64 0,.int .u8 1,.int .u8 1,.int .u8 1,.int .i64 0,.int .i64 9,.bool false,.int .i64 0,.int .i64 0]:List Value).drop (i*8)).take 8).length=8∧ ∀w',Bw w w'→Calls prog 16 #[.agg ((([.int .u8 1,.int .u8 1,.int .u8 1,.int .i64 0,.int .i64 9,.bool true,.int .i64 0,.int .i64 0,.int .u8 2,.int .u8 2,.int .u8 2,.int .i64 0,.int .i64 9,.bool true,.int .i64 0,.int .i64 0,.int .u8 1,.int .u8 1,.int .u8 1,.int .i64 0,.int .i64 3,.bool true,.int .i64 0,.int .i64 0,.int .u8 1,.int .u8 1,.int .u8 1,.int .i64 0,.int .i64 9,.bool false,.int .i64 0,.int .i64 0]:List Value).drop (i*8)).take 8).toArray] w' fun e w''=> ∃v,e= .returned v∧BN w' w'' v b.length 1 5 (b.map b8)∧Bw w' w'':=by
 intro i b h;rcases i with _|_|_|_|i
 ·rw[List.getElem?_cons_zero]at h
  have e:wtB=b:=Option.some.inj h;rw[←e];refine⟨rfl,fun w' hb=> ?_⟩;exact Sc w' (hL.bw hb) (hK.bw hb) (hH.bw hb) (Nat.lt_of_lt_of_le hb1 (Below.size hb))
 ·rw[List.getElem?_cons_succ,List.getElem?_cons_zero]at h
  have e:wtC=b:=Option.some.inj h;rw[←e];refine⟨rfl,fun w' hb=> ?_⟩;exact SP w' (hL.bw hb) (hK.bw hb) (hH.bw hb) (Nat.lt_of_lt_of_le hb1 (Below.size hb))
 ·rw[List.getElem?_cons_succ,List.getElem?_cons_succ,List.getElem?_cons_zero]at h
  have e:wtD=b:=Option.some.inj h;rw[←e];refine⟨rfl,fun w' hb=> ?_⟩;exact SL w' (hL.bw hb) (hK.bw hb) (hH.bw hb) (Nat.lt_of_lt_of_le hb1 (Below.size hb))
 ·rw[List.getElem?_cons_succ,List.getElem?_cons_succ,List.getElem?_cons_succ,List.getElem?_cons_zero]at h
  have e:wtE=b:=Option.some.inj h;rw[←e];refine⟨rfl,fun w' hb=> ?_⟩;exact SK w' (hL.bw hb) (hK.bw hb) (hH.bw hb) (Nat.lt_of_lt_of_le hb1 (Below.size hb))
 ·rw[List.getElem?_cons_succ,List.getElem?_cons_succ,List.getElem?_cons_succ,List.getElem?_cons_succ,List.getElem?_nil]at h
  cases h
noncomputable def B5w(ls:List Nat):List (List Nat):=[wtB,wtC,wtD,wtE,ls]
noncomputable def chs(ls os:List Nat):List (List Nat):=os.map fun o=>(B5w ls).getD (o %5) []
def thr(os:List Nat):Bool:=os.any fun o=>decide (o %5=0)
theorem V4(ls:List Nat)(o:Nat):(B5w ls)[o %5]? =some ((B5w ls).getD (o %5) []):=by
 have h:o %5<(B5w ls).length:=by show o %5<5;omega
 rw[List.getElem?_eq_getElem h,List.getD_eq_getElem?_getD,List.getElem?_eq_getElem h];rfl
theorem Ms{o:Nat}(h:os[i]? =some o):chs ls (os.take i)++[(B5w ls).getD (o %5) []]=chs ls (os.take (i+1)):=by
 rw[Im h];simp[chs]
theorem KI{o:Nat}(h:os[i]? =some o):thr (os.take (i+1))=(thr (os.take i)||decide (o %5=0)):=by
 rw[Im h];simp[thr]
theorem JZ(x:Nat)(p q:Operand)(w:World):(do eqGuard .rem 5 p q (.int .u8 (x:Nat)) (.int .u8 5);binOp .rem 5 (.int .u8 (x:Nat)) (.int .u8 5):Sem Value).run prog w= .ok (.int .u8 ((x %5:Nat):Int)) w:=by
 go_simp
 exact Int.tmod_eq_emod_of_nonneg (by omega)
theorem NG{k:Tr}: ∀{ks:List Tr},k∈ks→(Aq k).length≤(bb [] ks).length
 |k'::ks,h=>by
  rw[QW,List.length_append];rcases List.mem_cons.1 h with rfl|h
  ·omega
  ·have:=NG h;omega
theorem M4(t:Int)(b:List Nat)(ks:List Tr):(Aq (.mk t b ks)).length≥b.length+(bb [] ks).length:=by
 simp only[Aq,List.length_append];rw[UW ks b,List.length_append];omega
theorem L5: ∀(p:List Nat) (t:Tr),(Aq (AC p t)).length≤(Aq t).length
 | [],t=>Nat.le_refl _
 |i::is,.mk tg b ks=>by
  have h2:=M4 tg b ks;have h3:=bX (.mk tg b ks);simp only[AC];cases h:ks[i]? with
  |some k=>
   have h1:=L5 is k;have h4:=NG (List.mem_of_getElem? h);simp only;omega
  |none=>exact h3
theorem L0:rdC []=none:=by
 have h:(rdT []).2≠0:=by decide
 unfold rdC;rw[decide_eq_true h];rfl
theorem R6(h8: ∀x∈b,x<256)(hl:b.length≤50):rdC b=none:=by
 rcases hrd:rdC b with _|⟨c,r,t⟩
 ·rfl
 ·exfalso
  have hs:=iG h8 (by omega) hrd
  have hk:c.ky.length=65:=by
   have:=hs.1;unfold C2 at this;simp only[Bool.and_eq_true]at this;have hk:=this.1;unfold kyB at hk;simp only[Bool.and_eq_true,decide_eq_true_eq]at hk;omega
  rcases U4 (c.whole r t)with⟨_,h⟩|⟨_,_,h⟩|⟨_,_,h⟩
  ·have e:=hs.2.2.2.2;rw[h]at e;subst e;rw[L0]at hrd;cases hrd
  ·have e:=hs.2.2.2.2;rw[h]at e;subst e;rw[L0]at hrd;cases hrd
  ·have e:=hs.2.2.2.2;rw[h]at e
   have hp:=L5 [0,6,1] (c.whole r t);have hq:AC [0,6,1] (c.whole r t)= .mk 3 (0::c.ky) []:=rfl;rw[hq]at hp;have hm:=M4 3 (0::c.ky) [];simp only[List.length_cons]at hm;have e':Aq (c.whole r t)=b:=e;rw[e']at hp;omega
theorem Qm:Ob (wrT (tA.whole 41715360500048865528212135316396881002352046238176151486779771412335456336589 14839166437902177103810367222258322517155128531671763739276796972415279353084)).1 Bf=0:=by
 unfold Ob;rw[HJ];exact QM
theorem Qj:Ob wtA Bf=0:=Qm
theorem Rv:rok 5 0 tA.is wtA wtB=true:=by
 have h:rdC wtB=some (tB,30679956977848723838440884760051000257939829302397608969779145279870536395341,39185289201640412552348515590654658371388438251048215679988567375092396546374):=La;unfold rok;rw[h];show(true && !decide ((0:Int)<((0:Nat):Int)) && !decide ((5:Int)<0) && !decide ((5:Int)>9) && !decide (tB.su≠tA.is) && decide (Ob wtA Bf=0))=true;rw[Qj];decide
theorem Ru:rok 5 0 tA.is wtA wtC=false:=by
 have h:rdC wtC=some (tC,5772946469002268839201089702960858817498068566099924351286408167159961794623,73400036896012591577527421159254660793469944321502378633467049890175108587207):=LM;unfold rok;rw[h];show(true && !decide ((0:Int)<((0:Nat):Int)) && !decide ((5:Int)<0) && !decide ((5:Int)>9) && !decide (tC.su≠tA.is) && decide (Ob wtA Ee=0))=false;rw[show decide (tC.su≠tA.is)=true by decide];simp
theorem Rt:rok 5 0 tA.is wtA wtD=false:=by
 have h:rdC wtD=some (tD,29656910196704293304467896668974446919777439603270438697424484323895296126424,20489625032818899542978692778137431390965977524520967209241850401761964079055):=Ky;unfold rok;rw[h];show(true && !decide ((0:Int)<((0:Nat):Int)) && !decide ((5:Int)<0) && !decide ((5:Int)>3) && !decide (tD.su≠tA.is) && decide (Ob wtA Bf=0))=false;rw[show decide ((5:Int)>3)=true by decide];simp
theorem RZ:rok 5 0 tA.is wtA wtE=false:=by
 have h:rdC wtE=some (tE,212630159700969180254328110574554626609795834104908156330181484691328363726,89621253626434868007929885493167276122920611870865619631395310279036515555574):=Kk;unfold rok;rw[h];show(false && !decide ((0:Int)<((0:Nat):Int)) && !decide ((5:Int)<0) && !decide ((5:Int)>9) && !decide (tE.su≠tA.is) && decide (Ob wtA Bf=0))=false;simp
theorem R2(h8: ∀x∈b,x<256)(hl:b.length≤50):rok 5 0 tA.is wtA b=false:=by
 unfold rok;rw[R6 h8 hl]
theorem R3(h8: ∀x∈ls,x<256)(hl:ls.length≤50)(o:Nat):rok 5 0 tA.is wtA ((B5w ls).getD (o %5) [])=decide (o %5=0):=by
 have h:o %5=0∨o %5=1∨o %5=2∨o %5=3∨o %5=4:=by omega
 rcases h with h|h|h|h|h<;>rw[h]
 ·exact Rv
 ·exact Ru
 ·exact Rt
 ·exact RZ
 ·exact R2 h8 hl
theorem Mu{ls:List Nat}(h8: ∀x∈ls,x<256)(hl:ls.length≤50): ∀os:List Nat,(chs ls os).any (rok 5 0 tA.is wtA)=thr os
 | []=>rfl
 |o::os=>by
  have ih:=Mu h8 hl os;unfold chs thr at ih⊢;rw[List.map_cons,List.any_cons,List.any_cons,ih,R3 h8 hl o]
theorem V0(h8: ∀x∈ls,x<256)(hl:ls.length≤50)(o:Nat):(∀x∈(B5w ls).getD (o %5) [],x<256)∧((B5w ls).getD (o %5) []).length≤1048576:=by
 have h:o %5=0∨o %5=1∨o %5=2∨o %5=3∨o %5=4:=by omega
 rcases h with h|h|h|h|h<;>rw[h]
 ·exact⟨EE (Lb JQ.fit _ _),by have:=GN (tB.whole 30679956977848723838440884760051000257939829302397608969779145279870536395341 39185289201640412552348515590654658371388438251048215679988567375092396546374);show(wrT (tB.whole 30679956977848723838440884760051000257939829302397608969779145279870536395341 39185289201640412552348515590654658371388438251048215679988567375092396546374)).1.length≤1048576;omega⟩
 ·exact⟨EE (Lb JN.fit _ _),by have:=GN (tC.whole 5772946469002268839201089702960858817498068566099924351286408167159961794623 73400036896012591577527421159254660793469944321502378633467049890175108587207);show(wrT (tC.whole 5772946469002268839201089702960858817498068566099924351286408167159961794623 73400036896012591577527421159254660793469944321502378633467049890175108587207)).1.length≤1048576;omega⟩
 ·exact⟨EE (Lb I6.fit _ _),by have:=GN (tD.whole 29656910196704293304467896668974446919777439603270438697424484323895296126424 20489625032818899542978692778137431390965977524520967209241850401761964079055);show(wrT (tD.whole 29656910196704293304467896668974446919777439603270438697424484323895296126424 20489625032818899542978692778137431390965977524520967209241850401761964079055)).1.length≤1048576;omega⟩
 ·exact⟨EE (Lb Iy.fit _ _),by have:=GN (tE.whole 212630159700969180254328110574554626609795834104908156330181484691328363726 89621253626434868007929885493167276122920611870865619631395310279036515555574);show(wrT (tE.whole 212630159700969180254328110574554626609795834104908156330181484691328363726 89621253626434868007929885493167276122920611870865619631395310279036515555574)).1.length≤1048576;omega⟩
 ·exact⟨h8,by show ls.length≤1048576;omega⟩
theorem Mt(h8: ∀x∈ls,x<256)(hl:ls.length≤50)(os:List Nat): ∀b∈chs ls os,(∀x∈b,x<256)∧b.length≤1048576:=by
 intro b hb;unfold chs at hb;obtain⟨o,_,rfl⟩:=List.mem_map.1 hb;exact V0 h8 hl o
theorem Lz{w:World}{base:Nat}{m:Mem}(hR:RelOn base ρ S w (restr rd m))(i15:15∈rd)(i900:900∈rd)(h15:m 15=some (.dat (FA [wtA])))(h900:m 900=some (.row n 1 23 (Cu Rs))):
 ∃vi F us' G,AO w (ρ 15).val 1 1 [vi] F∧AO w vi wtA.length 1 (wtA.map b8) F∧AO w (ρ 900).val Rs.length 1 us' G∧A7 w G Rs us':=by
 obtain⟨v,e,vs,h1,h2⟩:=Gc hR i15 h15;simp only[List.cons.injEq,and_true]at e;subst e;obtain⟨xs,x1,x2,x3⟩:=relon_get hR h900 i900;have x2':A7 w (S 900) Rs xs:=x2;have hlen:=A7.len x2';have hn:n=Rs.length:=by omega
 subst hn;have hs:=DX x3 x1;rcases vs with _|⟨vi,_|⟨vj,vr⟩⟩
 ·exact h2.elim
 ·exact⟨vi,S 15,xs,fun k=>k=(ρ 900).g∨S 900 k,h1,h2.1,D1 (fun k hk=>Or.inl hk) hs,A7.sub (fun k hk=>Or.inr hk) x2'⟩
 ·exact h2.2.elim
theorem VP{base:Nat}{m:Mem}(hL:Laid w)(hK:B6 w)(hH:CQ w)(hE:DU w)(hb1:7<w.heap.size)(hR:RelOn base ρ S w (restr rd m))(i15:15∈rd)(i900:900∈rd)(h15:m 15=some (.dat (FA [wtA])))(h900:m 900=some (.row n 1 23 (Cu Rs)))(hrl:Rs.length≤1048576)(hr8: ∀b∈Rs,(∀x∈b,x<256)∧b.length≤1048576)(hany:Rs.any (rok 5 0 tA.is wtA)=true):Calls prog 18 (SV.cs ρ [.d 15,.d 900,.v (.int .i64 5),.v (.int .i64 4)]).toArray w fun e w'=> ∃u,e= .returned (.tuple #[u,.int .i64 0,.int .i64 0])∧Ae w w' u (G5 tA)∧Bw w w':=by
 obtain⟨vi,F,us',G,h1,h2,h3,h4⟩:=Lz hR i15 i900 h15 h900;exact N9 (c:=tA) (Rs:=Rs) (bi:=wtA) (vi:=vi) w hL hK hH hb1 h1 h2 (EE (Lb HN.fit _ _)) (by have:=GN (tA.whole 41715360500048865528212135316396881002352046238176151486779771412335456336589 14839166437902177103810367222258322517155128531671763739276796972415279353084);show(wrT (tA.whole 41715360500048865528212135316396881002352046238176151486779771412335456336589 14839166437902177103810367222258322517155128531671763739276796972415279353084)).1.length≤1048576;omega) hE h3 h4 hrl hr8 HJ IT IQ (by decide) (by decide) (by decide) (by decide) hany
theorem VQ{base:Nat}{m:Mem}(hL:Laid w)(hK:B6 w)(hH:CQ w)(hE:DU w)(hb1:7<w.heap.size)(hR:RelOn base ρ S w (restr rd m))(i15:15∈rd)(i900:900∈rd)(h15:m 15=some (.dat (FA [wtA])))(h900:m 900=some (.row n 1 23 (Cu Rs)))(hrl:Rs.length≤1048576)(hr8: ∀b∈Rs,(∀x∈b,x<256)∧b.length≤1048576)(hany:Rs.any (rok 5 0 tA.is wtA)=false):Calls prog 18 (SV.cs ρ [.d 15,.d 900,.v (.int .i64 5),.v (.int .i64 4)]).toArray w fun e w'=>e= .returned (.tuple #[CZ,.int .i64 0,.int .i64 8])∧Bw w w':=by
 obtain⟨vi,F,us',G,h1,h2,h3,h4⟩:=Lz hR i15 i900 h15 h900;exact XO (c:=tA) (Rs:=Rs) (bi:=wtA) (vi:=vi) w hL hK hH hb1 h1 h2 (EE (Lb HN.fit _ _)) (by have:=GN (tA.whole 41715360500048865528212135316396881002352046238176151486779771412335456336589 14839166437902177103810367222258322517155128531671763739276796972415279353084);show(wrT (tA.whole 41715360500048865528212135316396881002352046238176151486779771412335456336589 14839166437902177103810367222258322517155128531671763739276796972415279353084)).1.length≤1048576;omega) hE h3 h4 hrl hr8 HJ IT IQ (by decide) (by decide) (by decide) (by decide) hany
theorem RU{F:Nat→Prop}(hv0:AO w v0 os.length 1 (os.map b8) F0)(_ho8: ∀x∈os,x<256)(hv:AO w v bs.length 1 (bs.map b8) F)(_hb8: ∀x∈bs,x<256)(hL:Laid w)(hK:B6 w)(hH:CQ w)(hE:DU w)(hb1:7<w.heap.size){K:Nat}(hK0:min bs.length 50=K)(hKl:K≤bs.length)(hcut:AO w (Ay 0 K 1 v) ls.length 1 (ls.map b8) F)(hll:ls.length≤50)(l8: ∀x∈ls,x<256):Calls prog 6 #[v0,v] w fun e w'=>e= .returned (.bool true)∧Bw w w':=by
 go_enter func6,ntmps6
 refine Cg ?_;apply vrp
 ·apply VE.cons
  ·exact CJ rfl gg
  simp only[nmx,seval];exact VE.nil _
 ·kernel_rfl
 refine AU ?_;apply vrp
 ·apply VE.cons
  ·exact A6 (cells:=(.agg #[.int .u8 0,.int .u8 1,.int .u8 1,.int .i64 0,.int .i64 9,.bool false,.int .i64 0,.int .i64 5]:Value).cells) rfl gg rfl (by kernel_rfl)
  simp only[nmx,seval];apply VE.cons
  ·exact NU (ys:=[.v (.agg #[.int .u8 0,.int .u8 1,.int .u8 1,.int .i64 0,.int .i64 9,.bool false,.int .i64 0,.int .i64 5])]) (size:=8) (l:=[(.v (.int .u8 0)),(.v (.int .u8 1)),(.v (.int .u8 1)),(.v (.int .i64 0)),(.v (.int .i64 9)),(.v (.bool false)),(.v (.int .i64 0)),(.v (.int .i64 5))]) (ls:=[[(.v (.int .u8 0)),(.v (.int .u8 1)),(.v (.int .u8 1)),(.v (.int .i64 0)),(.v (.int .i64 9)),(.v (.bool false)),(.v (.int .i64 0)),(.v (.int .i64 5))]]) [] rfl rfl gg rfl rfl rfl (fun ρ S w' hb hR j y lj hy hl=>by rcases j with _|j<;>simp only[List.getElem?_cons_zero,List.getElem?_cons_succ,List.getElem?_nil,Option.some.injEq,reduceCtorEq]at hy hl<;>(subst hy hl;rfl)) (by simp) rfl rfl underlying47 (by kernel_rfl) (by kernel_rfl) (by decide) (by decide)
  simp only[nmx,seval];apply VE.cons
  ·exact Al (D:=FA [wtA]) [14] rfl rfl gg rfl (eo func15) (fun ρ S w' hb hR=>RN (ls:=[.int .u8 0,.int .u8 1,.int .u8 1,.int .i64 0,.int .i64 9,.bool false,.int .i64 0,.int .i64 5]) (m:=1) w' (by decide) (by decide) (Lp (id:=14) hR (by simp) rfl rfl) (SF w' (hL.bw hb) (hK.bw hb) (hH.bw hb) (Nat.lt_of_lt_of_le hb1 (Below.size hb))))
  simp only[nmx,seval];apply VE.cons
  ·exact CJ rfl gg
  simp only[nmx,seval];exact VE.nil _
 ·kernel_rfl
 refine AU ?_;apply vrp
 ·apply VE.cons
  ·exact A6 (cells:=(.agg #[.int .u8 1,.int .u8 1,.int .u8 1,.int .i64 0,.int .i64 9,.bool true,.int .i64 0,.int .i64 0]:Value).cells) rfl gg rfl (by kernel_rfl)
  simp only[nmx,seval];apply VE.cons
  ·exact A6 (cells:=(.agg #[.int .u8 2,.int .u8 2,.int .u8 2,.int .i64 0,.int .i64 9,.bool true,.int .i64 0,.int .i64 0]:Value).cells) rfl gg rfl (by kernel_rfl)
  simp only[nmx,seval];apply VE.cons
  ·exact A6 (cells:=(.agg #[.int .u8 1,.int .u8 1,.int .u8 1,.int .i64 0,.int .i64 3,.bool true,.int .i64 0,.int .i64 0]:Value).cells) rfl gg rfl (by kernel_rfl)
  simp only[nmx,seval];apply VE.cons
  ·exact A6 (cells:=(.agg #[.int .u8 1,.int .u8 1,.int .u8 1,.int .i64 0,.int .i64 9,.bool false,.int .i64 0,.int .i64 0]:Value).cells) rfl gg rfl (by kernel_rfl)
  simp only[nmx,seval];apply VE.cons
  ·exact NU (ys:=[.v (.agg #[.int .u8 1,.int .u8 1,.int .u8 1,.int .i64 0,.int .i64 9,.bool true,.int .i64 0,.int .i64 0]),.v (.agg #[.int .u8 2,.int .u8 2,.int .u8 2,.int .i64 0,.int .i64 9,.bool true,.int .i64 0,.int .i64 0]),.v (.agg #[.int .u8 1,.int .u8 1,.int .u8 1,.int .i64 0,.int .i64 3,.bool true,.int .i64 0,.int .i64 0]),.v (.agg #[.int .u8 1,.int .u8 1,.int .u8 1,.int .i64 0,.int .i64 9,.bool false,.int .i64 0,.int .i64 0])]) (size:=8) (l:=[(.v (.int .u8 1)),(.v (.int .u8 1)),(.v (.int .u8 1)),(.v (.int .i64 0)),(.v (.int .i64 9)),(.v (.bool true)),(.v (.int .i64 0)),(.v (.int .i64 0)),(.v (.int .u8 2)),(.v (.int .u8 2)),(.v (.int .u8 2)),(.v (.int .i64 0)),(.v (.int .i64 9)),(.v (.bool true)),(.v (.int .i64 0)),(.v (.int .i64 0)),(.v (.int .u8 1)),(.v (.int .u8 1)),(.v (.int .u8 1)),(.v (.int .i64 0)),(.v (.int .i64 3)),(.v (.bool true)),(.v (.int .i64 0)),(.v (.int .i64 0)),(.v (.int .u8 1)),(.v (.int .u8 1)),(.v (.int .u8 1)),(.v (.int .i64 0)),(.v (.int .i64 9)),(.v (.bool false)),(.v (.int .i64 0)),(.v (.int .i64 0))]) (ls:=[[(.v (.int .u8 1)),(.v (.int .u8 1)),(.v (.int .u8 1)),(.v (.int .i64 0)),(.v (.int .i64 9)),(.v (.bool true)),(.v (.int .i64 0)),(.v (.int .i64 0))],[(.v (.int .u8 2)),(.v (.int .u8 2)),(.v (.int .u8 2)),(.v (.int .i64 0)),(.v (.int .i64 9)),(.v (.bool true)),(.v (.int .i64 0)),(.v (.int .i64 0))],[(.v (.int .u8 1)),(.v (.int .u8 1)),(.v (.int .u8 1)),(.v (.int .i64 0)),(.v (.int .i64 3)),(.v (.bool true)),(.v (.int .i64 0)),(.v (.int .i64 0))],[(.v (.int .u8 1)),(.v (.int .u8 1)),(.v (.int .u8 1)),(.v (.int .i64 0)),(.v (.int .i64 9)),(.v (.bool false)),(.v (.int .i64 0)),(.v (.int .i64 0))]]) [] rfl rfl gg rfl rfl rfl (fun ρ S w' hb hR j y lj hy hl=>by rcases j with _|_|_|_|j<;>simp only[List.getElem?_cons_zero,List.getElem?_cons_succ,List.getElem?_nil,Option.some.injEq,reduceCtorEq]at hy hl<;>(subst hy hl;rfl)) (by simp) rfl rfl underlying47 (by kernel_rfl) (by kernel_rfl) (by decide) (by decide)
  simp only[nmx,seval];apply VE.cons
  ·exact Us (n:=4) (size:=1) (ty:=23) (Cu [wtB,wtC,wtD,wtE]) [20] rfl rfl gg rfl (eo func15) (fun ρ S w' hb hR=>RB (ls:=[.int .u8 1,.int .u8 1,.int .u8 1,.int .i64 0,.int .i64 9,.bool true,.int .i64 0,.int .i64 0,.int .u8 2,.int .u8 2,.int .u8 2,.int .i64 0,.int .i64 9,.bool true,.int .i64 0,.int .i64 0,.int .u8 1,.int .u8 1,.int .u8 1,.int .i64 0,.int .i64 3,.bool true,.int .i64 0,.int .i64 0,.int .u8 1,.int .u8 1,.int .u8 1,.int .i64 0,.int .i64 9,.bool false,.int .i64 0,.int .i64 0]) (m:=4) w' (by decide) (by decide) (Lp (id:=20) hR (by simp) rfl rfl) (SD w' (hL.bw hb) (hK.bw hb) (hH.bw hb) (Nat.lt_of_lt_of_le hb1 (Below.size hb))))
  simp only[nmx,seval];apply VE.cons
  ·exact CJ rfl gg
  simp only[nmx,seval];exact VE.nil _
 ·kernel_rfl
 refine AU ?_;apply vrp
 ·apply VE.cons
  ·exact Ap rfl gg
  simp only[nmx,seval];apply VE.cons
  ·exact Um (e:=5) rfl rfl gg (fun _=>by kernel_rfl)
  simp only[nmx,seval];apply VE.cons
  ·exact Ap rfl gg
  simp only[nmx,seval];apply VE.cons
  ·exact Ap rfl gg
  simp only[nmx,seval];apply VE.cons
  ·exact BU rfl gg rfl underlying23 (AW hv)
  simp only[nmx,seval];apply VE.cons
  ·exact HW (a:=bs.length) (b:=50) (c:=K) rfl gg rfl rfl hK0
  simp only[nmx,seval];apply VE.cons
  ·exact Fa (a:=0) (b:=K) (v':=Ay 0 K 1 v) rfl gg rfl underlying23 sizeOf5 (AW hv) rfl rfl (Nat.zero_le _) hKl rfl
  simp only[nmx,seval];apply VE.cons
  ·exact Ut (id:=23) (rd:=[23]) rfl rfl gg rfl rfl (by simp) rfl (R1 (AW hcut) (by decide)) underlying23 el5 (by decide) (by simp only[maxLen];omega) (by omega)
  simp only[nmx,seval];apply VE.cons
  ·exact Ty (n:=1) (l:=[.d 29]) [29] rfl rfl gg rfl (fun ρ S w' hR=>by have hd:=T5 (id:=29) hR (by simp) rfl;exact congrArg Array.toList (Dd hd).1) rfl rfl FC
  simp only[nmx,seval];apply VE.cons
  ·exact af (id:=21) (ys:=30) (n:=4) (k:=1) (k':=1) (size:=1) (Cu (B5w ls)) [21,30,29] rfl rfl gg rfl rfl rfl rfl rfl (Nat.le_refl _) underlying43 IH (by decide) (by simp only[maxLen];omega) (by omega) (by simp) (by simp) (fun ρ S w' hR=>by have hd:=T5 (id:=29) hR (by simp) rfl;show((SV.c ρ (.d 29)).oneCell' && true)=true;rw[(Dd hd).2];rfl) (fun ρ S w' xs hb' hR hxs=>by have hd:=T5 (id:=29) hR (by simp) rfl;exact A7.snoc (D1 (fun k hk=>⟨29,by simp,rfl,hk⟩) hd) (A7.sub (fun k hk=>⟨21,by simp,rfl,hk⟩) hxs))
  simp only[nmx,seval];apply VE.cons
  ·exact CJ rfl gg
  simp only[nmx,seval];exact VE.nil _
 ·kernel_rfl
 refine AU ?_;apply vrp
 ·apply VE.cons
  ·exact CJ rfl gg
  simp only[nmx,seval];exact VE.nil _
 ·kernel_rfl
 refine AU ?_;apply vrp
 ·apply VE.cons
  ·exact CJ rfl gg
  simp only[nmx,seval];exact VE.nil _
 ·kernel_rfl
 refine BP ?_;apply vrp
 ·apply VE.cons
  ·exact CJ rfl gg
  simp only[nmx,seval];exact VE.nil _
 ·kernel_rfl
 refine FH ?_;refine Bo (α:={i:Nat // i≤os.length∧i≤8}) (fun(x:{i:Nat // i≤os.length∧i≤8}) f=>⟨(.v v0:: .v v:: .v (f 2):: .v (f 3):: .v (f 4):: .d 15:: .d 31:: .v (.bool (thr (os.take x.1))):: .d 900:: .v (.int .i64 (x.1:Nat)):: .v (f 10):: .v (f 11):: .v (f 12):: .v (f 13):: .v (f 14):: .v (f 15):: .v (f 16):: .v (f 17):: .v (f 18):: .v (f 19):: .v (f 20):: .v (f 21):: .v (f 22):: .v (f 23):: .v (f 24):: .v (f 25):: .v (f 26):: .v (f 27):: .v (f 28):: .v (f 29):: .v (f 30):: .v (f 31):: .v (f 32):: .v (f 33):: .v (f 34):: .v (f 35):: .v (f 36):: .v (f 37):: .v (f 38):: .v (f 39):: .v (f 40):: .v (f 41):: .v (f 42):: .v (f 43):: .v (f 44):: .v (f 45):: .v (f 46):: .v (f 47):: .v (f 48):: .v (f 49):: .v (f 50):: .v (f 51):: .v (f 52):: .v (f 53):: .v (f 54):: .v (f 55):: .v (f 56):: .v (f 57):: .v (f 58):: .v (f 59):: .v (f 60):: .v (f 61):: .v (f 62):: .v (f 63):: .v (f 64):: .v (f 65):: .v (f 66):: .v (f 67):: .v (f 68):: .v (f 69):: .v (f 70):: .v (f 71):: .v (f 72):: .v (f 73):: .v (f 74):: .v (f 75):: .v (f 76):: .v (f 77):: .v (f 78):: .v (f 79):: .v (f 80):: .v (f 81):: .v (f 82):: .v (f 83):: .v (f 84):: .v (f 85):: .v (f 86):: .v (f 87)::[]),AJ [(900,.row x.1 1 23 (Cu (chs ls (os.take x.1)))),(31,.row 5 1 23 (Cu (B5w ls))),(15,.dat (FA [wtA]))]⟩) (fun x=>8-x.1) ?_ (⟨0,Nat.zero_le _,Nat.zero_le _⟩) ?_
 ·rintro⟨i,hi,hi8⟩ f
  obtain⟨q1,h_q1⟩: ∃q,decide (((i:Nat):Int)<((os.length:Nat):Int))=q:=⟨_,rfl⟩
  obtain⟨q2,h_q2⟩: ∃q,decide (((i:Nat):Int)<8)=q:=⟨_,rfl⟩
  obtain⟨th,h_th⟩: ∃q,thr (os.take i)=q:=⟨_,rfl⟩
  rw[h_th];refine BP ?_;have h3:(q1=false∨(q1=true∧q2=false))∨(q1=true∧q2=true):=by cases q1<;>cases q2<;>simp
  rcases h3 with h3|⟨rfl,rfl⟩
  ·have hth:(chs ls (os.take i)).any (rok 5 0 tA.is wtA)=th:=by rw[Mu l8 hll,h_th]
   have hchs:(chs ls (os.take i)).length≤1048576:=by unfold chs;rw[List.length_map,List.length_take];omega
   rcases h3 with rfl|⟨rfl,rfl⟩<;>
   (
    apply vrp
    ·apply VE.cons
     ·exact Ap rfl gg
     simp only[nmx,seval];apply VE.cons
     ·exact Ap rfl gg
     simp only[nmx,seval];apply VE.cons
     ·exact BU rfl gg rfl underlying23 (AW hv0)
     simp only[nmx,seval];apply VE.cons
     ·exact BM rfl gg rfl rfl h_q1
     simp only[nmx,seval];apply VE.cons
     ·exact Ap rfl gg
     simp only[nmx,seval];apply VE.cons
     ·first|exact Ev.skip (fun _=>rfl)|exact Ap rfl (fun _=>rfl)
     simp only[nmx,seval];apply VE.cons
     ·first|exact Ev.skip (fun _=>rfl)|exact BM rfl (fun _=>rfl) rfl rfl h_q2
     simp only[nmx,seval];apply VE.cons
     ·first|exact CY rfl gg rfl rfl|exact Ca rfl gg rfl rfl
     simp only[nmx,seval];exact VE.nil _
    ·kernel_rfl
    refine Fp ?_;refine As ?_;refine AU ?_;cases th
    ·skip
     apply vrp
     ·apply VE.cons
      ·exact Ap rfl gg
      simp only[nmx,seval];apply VE.cons
      ·exact Ap rfl gg
      simp only[nmx,seval];apply VE.cons
      ·exact Aj (v:= .tuple #[CZ,.int .i64 0,.int .i64 8]) [15,900] rfl gg rfl (eo func18) (fun ρ S w' hb hR=>VQ w' (hL.bw hb) (hK.bw hb) (hH.bw hb) (hE.bw hb1 hb) (Nat.lt_of_lt_of_le hb1 (Below.size hb)) hR (by simp) (by simp) rfl rfl hchs (Mt l8 hll _) hth)
      simp only[nmx,seval];apply VE.cons
      ·exact Ap rfl gg
      simp only[nmx,seval];apply VE.cons
      ·first|exact Cy rfl gg rfl rfl|exact C8 rfl gg rfl rfl
      simp only[nmx,seval];apply VE.cons
      ·first|exact Cy rfl gg rfl rfl|exact C8 rfl gg rfl rfl
      simp only[nmx,seval];apply VE.cons
      ·first|exact Cy rfl gg rfl rfl|exact C8 rfl gg rfl rfl
      simp only[nmx,seval];apply VE.cons
      ·exact BZ rfl rfl gg zeroValue34
      simp only[nmx,seval];apply VE.cons
      ·exact BA rfl gg rfl rfl rfl sizeOf34 rfl (by simp) rfl
      simp only[nmx,seval];apply VE.cons
      ·exact CJ rfl gg
      simp only[nmx,seval];apply VE.cons
      ·exact CJ rfl gg
      simp only[nmx,seval];exact VE.nil _
     ·kernel_rfl
     refine AU ?_;apply vrp
     ·apply VE.cons
      ·exact Ad (v:= .bool true) rfl gg rfl (eo func17) (fun w' hw'=>KH w' (hL.bw hw') (hK.bw hw') (hH.bw hw') (hE.bw hb1 hw') (Nat.lt_of_lt_of_le hb1 hw'.size))
      simp only[nmx,seval];apply VE.cons
      ·exact Ap rfl gg
      simp only[nmx,seval];apply VE.cons
      ·first|exact Ev.skip (fun _=>rfl)|exact Ap rfl (fun _=>rfl)
      simp only[nmx,seval];apply VE.cons
      ·first|exact Ev.skip (fun _=>rfl)|exact Ag (p:=true) rfl (fun _=>rfl) rfl rfl (by decide)
      simp only[nmx,seval];apply VE.cons
      ·first|exact CY rfl gg rfl rfl|exact Ca rfl gg rfl rfl
      simp only[nmx,seval];apply VE.cons
      ·exact Ap rfl gg
      simp only[nmx,seval];apply VE.cons
      ·first|exact Ev.skip (fun _=>rfl)|exact Ap rfl (fun _=>rfl)
      simp only[nmx,seval];apply VE.cons
      ·first|exact Ev.skip (fun _=>rfl)|exact Ag (p:=false) rfl (fun _=>rfl) rfl rfl (by decide)
      simp only[nmx,seval];apply VE.cons
      ·first|exact Ev.skip (fun _=>rfl)|exact Ap rfl (fun _=>rfl)
      simp only[nmx,seval];apply VE.cons
      ·first|exact Ev.skip (fun _=>rfl)|exact AK (c:= .bool true) rfl (fun _=>rfl) rfl rfl (fun w=>T1 false false _ _ w)
      simp only[nmx,seval];apply VE.cons
      ·first|exact CY rfl gg rfl rfl|exact Ca rfl gg rfl rfl
      simp only[nmx,seval];apply VE.cons
      ·exact Ap rfl gg
      simp only[nmx,seval];apply VE.cons
      ·first|exact Ev.skip (fun _=>rfl)|exact Ap rfl (fun _=>rfl)
      simp only[nmx,seval];apply VE.cons
      ·first|exact Ev.skip (fun _=>rfl)|exact Ag (p:=false) rfl (fun _=>rfl) rfl rfl (by decide)
      simp only[nmx,seval];apply VE.cons
      ·first|exact Ev.skip (fun _=>rfl)|exact Ap rfl (fun _=>rfl)
      simp only[nmx,seval];apply VE.cons
      ·first|exact Ev.skip (fun _=>rfl)|exact Ap rfl (fun _=>rfl)
      simp only[nmx,seval];apply VE.cons
      ·first|exact Ev.skip (fun _=>rfl)|exact Ag (p:=true) rfl (fun _=>rfl) rfl rfl (by decide)
      simp only[nmx,seval];apply VE.cons
      ·first|exact Ev.skip (fun _=>rfl)|exact CY rfl (fun _=>rfl) rfl rfl|exact Ca rfl (fun _=>rfl) rfl rfl
      simp only[nmx,seval];apply VE.cons
      ·first|exact CY rfl gg rfl rfl|exact Ca rfl gg rfl rfl
      simp only[nmx,seval];apply VE.cons
      ·exact CJ rfl gg
      simp only[nmx,seval];exact VE.nil _
     ·kernel_rfl
     change VOk _ _ _ _ _;exact AG (AD (AH results6 (AF rfl)) fun _ _ hr=>⟨rfl,hr.1⟩)
    ·skip
     apply vrp
     ·apply VE.cons
      ·exact Ap rfl gg
      simp only[nmx,seval];apply VE.cons
      ·exact Ap rfl gg
      simp only[nmx,seval];apply VE.cons
      ·exact DL (D:=G5 tA) (ys:=[.int .i64 0,.int .i64 0]) [15,900] rfl rfl gg rfl (eo func18) (fun ρ S w' hb hR=>VP w' (hL.bw hb) (hK.bw hb) (hH.bw hb) (hE.bw hb1 hb) (Nat.lt_of_lt_of_le hb1 (Below.size hb)) hR (by simp) (by simp) rfl rfl hchs (Mt l8 hll _) hth)
      simp only[nmx,seval];apply VE.cons
      ·exact Ap rfl gg
      simp only[nmx,seval];apply VE.cons
      ·first|exact Cy rfl gg rfl rfl|exact C8 rfl gg rfl rfl
      simp only[nmx,seval];apply VE.cons
      ·first|exact Cy rfl gg rfl rfl|exact C8 rfl gg rfl rfl
      simp only[nmx,seval];apply VE.cons
      ·first|exact Cy rfl gg rfl rfl|exact C8 rfl gg rfl rfl
      simp only[nmx,seval];apply VE.cons
      ·exact BZ rfl rfl gg zeroValue34
      simp only[nmx,seval];apply VE.cons
      ·exact Bh (vl:=[.v (.int .i64 tA.se),.v (.string (AB tA.is)),.v (.string (AB tA.su)),.v (.int .i64 tA.fr),.v (.int .i64 tA.to),.fn (AN 5) (.d 65),.v (.bool tA.ca),.v (.int .i64 tA.pa),.v (.int .i64 tA.us)]) [65,10] rfl gg rfl rfl rfl sizeOf34 rfl (fun ρ S w' _ hR=>by obtain⟨kv,e,h⟩:=Nb (id:=65) hR (by simp) rfl;exact QL e h) rfl (by simp)
      simp only[nmx,seval];apply VE.cons
      ·exact CJ rfl gg
      simp only[nmx,seval];apply VE.cons
      ·exact CJ rfl gg
      simp only[nmx,seval];exact VE.nil _
     ·kernel_rfl
     refine AU ?_;apply vrp
     ·apply VE.cons
      ·exact Ad (v:= .bool true) rfl gg rfl (eo func17) (fun w' hw'=>KH w' (hL.bw hw') (hK.bw hw') (hH.bw hw') (hE.bw hb1 hw') (Nat.lt_of_lt_of_le hb1 hw'.size))
      simp only[nmx,seval];apply VE.cons
      ·exact Ap rfl gg
      simp only[nmx,seval];apply VE.cons
      ·first|exact Ev.skip (fun _=>rfl)|exact Ap rfl (fun _=>rfl)
      simp only[nmx,seval];apply VE.cons
      ·first|exact Ev.skip (fun _=>rfl)|exact Ag (p:=true) rfl (fun _=>rfl) rfl rfl (by decide)
      simp only[nmx,seval];apply VE.cons
      ·first|exact CY rfl gg rfl rfl|exact Ca rfl gg rfl rfl
      simp only[nmx,seval];apply VE.cons
      ·exact Ap rfl gg
      simp only[nmx,seval];apply VE.cons
      ·first|exact Ev.skip (fun _=>rfl)|exact Ap rfl (fun _=>rfl)
      simp only[nmx,seval];apply VE.cons
      ·first|exact Ev.skip (fun _=>rfl)|exact Ag (p:=true) rfl (fun _=>rfl) rfl rfl (by decide)
      simp only[nmx,seval];apply VE.cons
      ·first|exact Ev.skip (fun _=>rfl)|exact Ap rfl (fun _=>rfl)
      simp only[nmx,seval];apply VE.cons
      ·first|exact Ev.skip (fun _=>rfl)|exact AK (c:= .bool true) rfl (fun _=>rfl) rfl rfl (fun w=>T1 true true _ _ w)
      simp only[nmx,seval];apply VE.cons
      ·first|exact CY rfl gg rfl rfl|exact Ca rfl gg rfl rfl
      simp only[nmx,seval];apply VE.cons
      ·exact Ap rfl gg
      simp only[nmx,seval];apply VE.cons
      ·first|exact Ev.skip (fun _=>rfl)|exact Ap rfl (fun _=>rfl)
      simp only[nmx,seval];apply VE.cons
      ·first|exact Ev.skip (fun _=>rfl)|exact Ag (p:=true) rfl (fun _=>rfl) rfl rfl (by decide)
      simp only[nmx,seval];apply VE.cons
      ·first|exact Ev.skip (fun _=>rfl)|exact Ap rfl (fun _=>rfl)
      simp only[nmx,seval];apply VE.cons
      ·first|exact Ev.skip (fun _=>rfl)|exact Ap rfl (fun _=>rfl)
      simp only[nmx,seval];apply VE.cons
      ·first|exact Ev.skip (fun _=>rfl)|refine D6 (fun _=>rfl) (fun ρ w=>by simp only[VS.act,SV.c,List.map_cons,List.map_nil];go_simp;exact rfl) (fun _ _=>rfl)
      simp only[nmx,seval];apply VE.cons
      ·first|exact Ev.skip (fun _=>rfl)|exact CY rfl (fun _=>rfl) rfl rfl|exact Ca rfl (fun _=>rfl) rfl rfl
      simp only[nmx,seval];apply VE.cons
      ·first|exact CY rfl gg rfl rfl|exact Ca rfl gg rfl rfl
      simp only[nmx,seval];apply VE.cons
      ·exact CJ rfl gg
      simp only[nmx,seval];exact VE.nil _
     ·kernel_rfl
     change VOk _ _ _ _ _;exact AG (AD (AH results6 (AF rfl)) fun _ _ hr=>⟨rfl,hr.1⟩)
   )
  ·have hlt:i<os.length:=by have:=of_decide_eq_true h_q1;omega
   have hi9:i<8:=by have:=of_decide_eq_true h_q2;omega
   obtain⟨o,hob⟩: ∃o,os[i]? =some o:=⟨_,List.getElem?_eq_getElem hlt⟩
   apply vrp
   ·apply VE.cons
    ·exact Ap rfl gg
    simp only[nmx,seval];apply VE.cons
    ·exact Ap rfl gg
    simp only[nmx,seval];apply VE.cons
    ·exact BU rfl gg rfl underlying23 (AW hv0)
    simp only[nmx,seval];apply VE.cons
    ·exact BM rfl gg rfl rfl h_q1
    simp only[nmx,seval];apply VE.cons
    ·exact Ap rfl gg
    simp only[nmx,seval];apply VE.cons
    ·first|exact Ev.skip (fun _=>rfl)|exact Ap rfl (fun _=>rfl)
    simp only[nmx,seval];apply VE.cons
    ·first|exact Ev.skip (fun _=>rfl)|exact BM rfl (fun _=>rfl) rfl rfl h_q2
    simp only[nmx,seval];apply VE.cons
    ·first|exact CY rfl gg rfl rfl|exact Ca rfl gg rfl rfl
    simp only[nmx,seval];exact VE.nil _
   ·kernel_rfl
   refine EO ?_;refine E9 ?_;refine mX ?_;apply vrp
   ·apply VE.cons
    ·exact Ap rfl gg
    simp only[nmx,seval];apply VE.cons
    ·exact Ap rfl gg
    simp only[nmx,seval];apply VE.cons
    ·exact Ap rfl gg
    simp only[nmx,seval];apply VE.cons
    ·exact Ap rfl gg
    simp only[nmx,seval];apply VE.cons
    ·exact Bc (k:=i) rfl gg rfl rfl underlying23 sizeOf5 (AW hv0) (hlt) (by decide)
    simp only[nmx,seval];apply VE.cons
    ·exact Cb rfl gg rfl underlying5 rfl (AW hv0) (JH hob)
    simp only[nmx,seval];apply VE.cons
    ·exact AK (c:= .int .u8 ((o %5:Nat):Int)) rfl gg rfl rfl (fun w=>JZ o _ _ w)
    simp only[nmx,seval];apply VE.cons
    ·exact Ul (k:=o %5) rfl gg rfl rfl rfl underlying43 sizeOf23 (by omega)
    simp only[nmx,seval];apply VE.cons
    ·exact Ud rfl rfl gg rfl rfl underlying23 rfl (V4 ls o)
    simp only[nmx,seval];apply VE.cons
    ·exact Ty (n:=1) (l:=[.d 50]) [50] rfl rfl gg rfl (fun ρ S w' hR=>by have hd:=T5 (id:=50) hR (by simp) rfl;exact congrArg Array.toList (Dd hd).1) rfl rfl FC
    simp only[nmx,seval];apply VE.cons
    ·exact af (id:=900) (ys:=51) (n:=i) (k:=1) (k':=1) (size:=1) (Cu (chs ls (os.take i)++[(B5w ls).getD (o %5) []])) [900,51,50] rfl rfl gg rfl rfl rfl rfl rfl (Nat.le_refl _) underlying43 IH (by decide) (by simp only[maxLen];omega) (by omega) (by simp) (by simp) (fun ρ S w' hR=>by have hd:=T5 (id:=50) hR (by simp) rfl;show((SV.c ρ (.d 50)).oneCell' && true)=true;rw[(Dd hd).2];rfl) (fun ρ S w' xs hb' hR hxs=>by have hd:=T5 (id:=50) hR (by simp) rfl;exact A7.snoc (D1 (fun k hk=>⟨50,by simp,rfl,hk⟩) hd) (A7.sub (fun k hk=>⟨900,by simp,rfl,hk⟩) hxs))
    simp only[nmx,seval];apply VE.cons
    ·exact CJ rfl gg
    simp only[nmx,seval];exact VE.nil _
   ·kernel_rfl
   change VOk _ _ _ _ _;cases th
   ·skip
    apply vrp
    ·apply VE.cons
     ·exact Ap rfl gg
     simp only[nmx,seval];apply VE.cons
     ·exact Ap rfl gg
     simp only[nmx,seval];apply VE.cons
     ·first|exact Ev.skip (fun _=>rfl)|exact Ap rfl (fun _=>rfl)
     simp only[nmx,seval];apply VE.cons
     ·first|exact Ev.skip (fun _=>rfl)|exact Ap rfl (fun _=>rfl)
     simp only[nmx,seval];apply VE.cons
     ·first|exact Ev.skip (fun _=>rfl)|exact Bc (k:=i) rfl (fun _=>rfl) rfl rfl underlying23 sizeOf5 (AW hv0) (hlt) (by decide)
     simp only[nmx,seval];apply VE.cons
     ·first|exact Ev.skip (fun _=>rfl)|exact Cb rfl (fun _=>rfl) rfl underlying5 rfl (AW hv0) (JH hob)
     simp only[nmx,seval];apply VE.cons
     ·first|exact Ev.skip (fun _=>rfl)|exact AK (c:= .int .u8 ((o %5:Nat):Int)) rfl (fun _=>rfl) rfl rfl (fun w=>JZ o _ _ w)
     simp only[nmx,seval];apply VE.cons
     ·first|exact Ev.skip (fun _=>rfl)|exact Ag (p:=decide (o %5=0)) rfl (fun _=>rfl) rfl rfl (by by_cases h:o %5=0<;>simp[h]<;>omega)
     simp only[nmx,seval];apply VE.cons
     ·first|exact CY rfl gg rfl rfl|exact Ca rfl gg rfl rfl
     simp only[nmx,seval];apply VE.cons
     ·exact CJ rfl gg
     simp only[nmx,seval];exact VE.nil _
    ·kernel_rfl
    change VOk _ _ _ _ _;apply vrp
    ·apply VE.cons
     ·exact Ap rfl gg
     simp only[nmx,seval];apply VE.cons
     ·exact BE (c:=((i+1:Nat):Int)) rfl gg rfl rfl (by rw[Ah (by omega) (by omega)];omega)
     simp only[nmx,seval];apply VE.cons
     ·exact CJ rfl gg
     simp only[nmx,seval];exact VE.nil _
    ·kernel_rfl
    have hth:=KI hob;rw[h_th]at hth;simp only[Bool.false_or]at hth;rw[Ms hob];refine⟨⟨i+1,by omega,by omega⟩,by show 8-(i+1)<8-i;omega,?_⟩;simp only[hth];exact(Ar (fun i=>i==0||i==1||i==5||i==6||i==7||i==8||i==9) [51,50]).trans2 (fun f=>Dk 52 900 (by decide) rfl)
   ·skip
    apply vrp
    ·apply VE.cons
     ·exact Ap rfl gg
     simp only[nmx,seval];apply VE.cons
     ·exact Ap rfl gg
     simp only[nmx,seval];apply VE.cons
     ·first|exact Ev.skip (fun _=>rfl)|exact Ap rfl (fun _=>rfl)
     simp only[nmx,seval];apply VE.cons
     ·first|exact Ev.skip (fun _=>rfl)|exact Ap rfl (fun _=>rfl)
     simp only[nmx,seval];apply VE.cons
     ·first|exact Ev.skip (fun _=>rfl)|exact Bc (k:=i) rfl (fun _=>rfl) rfl rfl underlying23 sizeOf5 (AW hv0) (hlt) (by decide)
     simp only[nmx,seval];apply VE.cons
     ·first|exact Ev.skip (fun _=>rfl)|exact Cb rfl (fun _=>rfl) rfl underlying5 rfl (AW hv0) (JH hob)
     simp only[nmx,seval];apply VE.cons
     ·first|exact Ev.skip (fun _=>rfl)|exact AK (c:= .int .u8 ((o %5:Nat):Int)) rfl (fun _=>rfl) rfl rfl (fun w=>JZ o _ _ w)
     simp only[nmx,seval];apply VE.cons
     ·first|exact Ev.skip (fun _=>rfl)|exact Ag (p:=decide (o %5=0)) rfl (fun _=>rfl) rfl rfl (by by_cases h:o %5=0<;>simp[h]<;>omega)
     simp only[nmx,seval];apply VE.cons
     ·first|exact CY rfl gg rfl rfl|exact Ca rfl gg rfl rfl
     simp only[nmx,seval];apply VE.cons
     ·exact CJ rfl gg
     simp only[nmx,seval];exact VE.nil _
    ·kernel_rfl
    change VOk _ _ _ _ _;apply vrp
    ·apply VE.cons
     ·exact Ap rfl gg
     simp only[nmx,seval];apply VE.cons
     ·exact BE (c:=((i+1:Nat):Int)) rfl gg rfl rfl (by rw[Ah (by omega) (by omega)];omega)
     simp only[nmx,seval];apply VE.cons
     ·exact CJ rfl gg
     simp only[nmx,seval];exact VE.nil _
    ·kernel_rfl
    have hth:=KI hob;rw[h_th]at hth;simp only[Bool.true_or]at hth;rw[Ms hob];refine⟨⟨i+1,by omega,by omega⟩,by show 8-(i+1)<8-i;omega,?_⟩;simp only[hth];exact(Ar (fun i=>i==0||i==1||i==5||i==6||i==7||i==8||i==9) [51,50]).trans2 (fun f=>Dk 52 900 (by decide) rfl)
 ·refine(Ar (fun i=>i==0||i==1||i==5||i==6||i==7||i==8||i==9) [30,29,23,20,14]).trans2 (fun f=> ?_)
  refine(N1 900 1 23 (Cu []) (fun w=>by trivial) (m':=[(31,.row 5 1 23 (Cu (B5w ls))),(15,.dat (FA [wtA]))]) rfl rfl (fun ρ hv=> ?_) (fun ρ hv=> ?_))
  ·simp[B0,SV.cs,SV.c,hv,Bg,thr]
  ·simp[JG,BQ,Blk.sim]
theorem RX{F:Nat→Prop}(hv0:AO w v0 os.length 1 (os.map b8) F0)(ho8: ∀x∈os,x<256)(hv:AO w v bs.length 1 (bs.map b8) F)(hb8: ∀x∈bs,x<256)(hL:Laid w)(hK:B6 w)(hH:CQ w)(hE:DU w)(hb1:7<w.heap.size):Calls prog 6 #[v0,v] w fun e w'=>e= .returned (.bool true)∧Bw w w':=by
 obtain⟨K,hK0⟩: ∃K,min bs.length 50=K:=⟨_,rfl⟩
 obtain⟨ls,hls⟩: ∃ls,bs.take K=ls:=⟨_,rfl⟩
 have hKl:K≤bs.length:=by omega
 have hcut:AO w (Ay 0 K 1 v) ls.length 1 (ls.map b8) F:=by
  have:=PE (k:=0) (n:=K) hv (by omega);rw[Nat.zero_add,List.drop_zero,hls]at this;exact this
 have hll:ls.length≤50:=by rw[←hls,List.length_take];omega
 have l8: ∀x∈ls,x<256:=fun x hx=>hb8 x (by rw[←hls]at hx;exact List.mem_of_mem_take hx)
 exact RU w hv0 ho8 hv hb8 hL hK hH hE hb1 hK0 hKl hcut hll l8
end Go.Proofs.YtafbhakmkbehiaaGreatDoor
