import Derived.Test.YtafbhakmkbehiaaGreatDoorZ20
open Go.Proofs.Tryz
set_option maxHeartbeats 4000000
set_option maxRecDepth 100000
namespace Go.Proofs.YtafbhakmkbehiaaGreatDoor
open Go.RowKit Go.Vx
variable(w:World){parts:Array (Nat×Operand)}{ops:Array Oper}{xs:Array Operand}{ats:Array TypeId}{f:FuncId}{acc b bs r rd:List Nat}{vs:List SV}{ks:List Tr}{id n size:Nat}{ρ:Nat→Nm}{S:Nat→Prop}{o:Oper}{x y:Operand}{ka:Option Addr}{P:Program}{k t:Tr}{ty:TypeId}{s:VS}{v x0 x1 x2:Value}{w0:World}
open Go.Toll (Gw)
theorem fD{S:Nat→Nat→Prop}{w:World}{base:Nat}{m:Mem}{l:List SV}(hR:RelOn base ρ S w (restr rd m))(hid:id∈rd)(hm:m id=some (.cells l ty)):AO w (.slice (some ⟨(ρ id).g,0,none⟩) l.length l.length) l.length 1 (SV.cs ρ l) (fun k=>k=(ρ id).g):=by
 have hg:=(Go.Vx.relon_get hR hm hid).2;refine⟨_,_,rfl,Nat.le_refl _,by rw[A8];simp,.inr ⟨_,rfl,rfl,fun i x hx=> ?_⟩⟩;rw[A8,List.getElem?_map]at hx;cases h:l[i]? with
 |none=>rw[h]at hx;cases hx
 |some y=>rw[h]at hx;simp only[Option.map_some,Option.some.injEq]at hx;rw[←hx,Bd,Nat.zero_add];exact GK hg h
theorem Lx{S:Nat→Nat→Prop}{w:World}{base:Nat}{m:Mem}{l:List Value}(hR:RelOn base ρ S w (restr rd m))(hid:id∈rd)(hm:m id=some (.row n 1 ty (.exact l))): ∃S1,AO w (ρ id).val n 1 l S1:=by
 obtain⟨xs,h1,h2,h3⟩:=Go.Vx.relon_get hR hm hid;have h2':xs=l:=h2;subst h2';exact⟨_,DX h3 h1⟩
theorem pW{v0 v1 v2:Value}{n0 n1 n2:Nat}{l0 l1 l2:List Value}{S0 S1 S2:Nat→Prop}(hv:AO w v 3 1 [v0,v1,v2] S)(h0:AO w v0 n0 1 l0 S0)(h1:AO w v1 n1 1 l1 S1)(h2:AO w v2 n2 1 l2 S2)(a0:l0.all (·.oneCell')=true)(a1:l1.all (·.oneCell')=true)(a2:l2.all (·.oneCell')=true)(hm:n0+n1+n2≤140737488355328):Calls prog 95 #[v] w fun e w'=> ∃v,e= .returned v∧BN w w' v (n0+n1+n2) 1 5 (l0++l1++l2)∧Bw w w':=by
 have e0:l0.length=n0:=by obtain⟨_,_,_,_,h,_⟩:=h0;simpa using h
 have e1:l1.length=n1:=by obtain⟨_,_,_,_,h,_⟩:=h1;simpa using h
 have e2:l2.length=n2:=by obtain⟨_,_,_,_,h,_⟩:=h2;simpa using h
 go_enter func95,ntmps95
 refine A4 ?_;iterate 12 refine k_k ?_
 refine k_s (by exact BU rfl gg rfl underlying43 (AW hv)) ?_;iterate 3 refine k_k ?_
 refine Br 4 ?_;refine Ch ?_
 refine JK ?_
 refine k_s (by exact Bc (k:=0) rfl gg rfl rfl underlying43 sizeOf23 (AW hv) (by decide) (by decide)) ?_;refine K7 ?_;iterate 6 refine k_k ?_
 refine k_s (by exact BU rfl gg rfl underlying23 (AW h0)) ?_;refine k_s (by exact BE (c:=((n0:Nat):Int)) rfl gg rfl rfl (by rw[Ah (by omega) (by omega)];omega)) ?_;iterate 5 refine k_k ?_
 refine Pn ?_;iterate 4 refine k_k ?_
 refine k_s (by exact BE (c:=1) rfl gg rfl rfl (by decide)) ?_;iterate 4 refine k_k ?_
 refine JK ?_
 refine k_s (by exact Bc (k:=1) rfl gg rfl rfl underlying43 sizeOf23 (AW hv) (by decide) (by decide)) ?_;refine K7 ?_;iterate 6 refine k_k ?_
 refine k_s (by exact BU rfl gg rfl underlying23 (AW h1)) ?_;refine k_s (by exact BE (c:=((n0+n1:Nat):Int)) rfl gg rfl rfl (by rw[Ah (by omega) (by omega)];omega)) ?_;iterate 5 refine k_k ?_
 refine Pn ?_;iterate 4 refine k_k ?_
 refine k_s (by exact BE (c:=2) rfl gg rfl rfl (by decide)) ?_;iterate 4 refine k_k ?_
 refine JK ?_
 refine k_s (by exact Bc (k:=2) rfl gg rfl rfl underlying43 sizeOf23 (AW hv) (by decide) (by decide)) ?_;refine K7 ?_;iterate 6 refine k_k ?_
 refine k_s (by exact BU rfl gg rfl underlying23 (AW h2)) ?_;refine k_s (by exact BE (c:=((n0+n1+n2:Nat):Int)) rfl gg rfl rfl (by rw[Ah (by omega) (by omega)];omega)) ?_;iterate 5 refine k_k ?_
 refine Pn ?_;iterate 4 refine k_k ?_
 refine k_s (by exact BE (c:=3) rfl gg rfl rfl (by decide)) ?_;iterate 4 refine k_k ?_
 refine k_s (by exact D8 (p:=false) rfl gg rfl rfl (by decide)) ?_;iterate 3 refine k_k ?_
 refine As ?_;refine ZF ?_
 refine k_s (by exact Cs [] rfl rfl gg rfl (eo func150) (n:=0) (l:=[]) rfl (fun ρ S w' hb _=>ni (n0+n1+n2) hm w')) ?_;iterate 6 refine k_k ?_
 refine k_s (by exact BU rfl gg rfl underlying43 (AW hv)) ?_;iterate 3 refine k_k ?_
 refine Br 4 ?_;refine Ch ?_
 refine JK ?_
 refine k_s (by exact Bc (k:=0) rfl gg rfl rfl underlying43 sizeOf23 (AW hv) (by decide) (by decide)) ?_;refine K7 ?_;iterate 5 refine k_k ?_
 refine k_s (by exact Di rfl rfl gg rfl rfl rfl (AW h0) underlying23 el5 (by decide) (by simp) a0 (by simp only[maxLen];omega) (by omega) (by simp[e0])) ?_;iterate 3 refine k_k ?_
 refine k_s (by exact BE (c:=1) rfl gg rfl rfl (by decide)) ?_;iterate 2 refine k_k ?_
 refine VOk.weak (Dk 33 901 (by decide) rfl) ?_;intro _;simp only[SV.renL,SV.ren,Gb,Blk.ren,seval];iterate 2 refine k_k ?_
 refine JK ?_
 refine k_s (by exact Bc (k:=1) rfl gg rfl rfl underlying43 sizeOf23 (AW hv) (by decide) (by decide)) ?_;refine K7 ?_;iterate 5 refine k_k ?_
 refine k_s (by exact Di rfl rfl gg rfl rfl rfl (AW h1) underlying23 el5 (by decide) (by simp[e0]) a1 (by simp only[maxLen];omega) (by omega) (by simp[e1])) ?_;iterate 3 refine k_k ?_
 refine k_s (by exact BE (c:=2) rfl gg rfl rfl (by decide)) ?_;iterate 2 refine k_k ?_
 refine VOk.weak (Dk 33 902 (by decide) rfl) ?_;intro _;simp only[SV.renL,SV.ren,Gb,Blk.ren,seval];iterate 2 refine k_k ?_
 refine JK ?_
 refine k_s (by exact Bc (k:=2) rfl gg rfl rfl underlying43 sizeOf23 (AW hv) (by decide) (by decide)) ?_;refine K7 ?_;iterate 5 refine k_k ?_
 refine k_s (by exact Di rfl rfl gg rfl rfl rfl (AW h2) underlying23 el5 (by decide) (by simp[e0,e1]) a2 (by simp only[maxLen];omega) (by omega) (by simp[e2])) ?_;iterate 3 refine k_k ?_
 refine k_s (by exact BE (c:=3) rfl gg rfl rfl (by decide)) ?_;iterate 4 refine k_k ?_
 refine k_s (by exact D8 (p:=false) rfl gg rfl rfl (by decide)) ?_;iterate 3 refine k_k ?_
 refine As ?_;refine IG ?_
 refine AG ?_;refine AD (AH results95 (AF rfl)) ?_;intro ρ w' hr;exact⟨_,rfl,B8 (id:=33) hr rfl,hr.1⟩
mutual
def CK:Tr→List Nat
 | .mk t b ks=>[tb t]++Ao (wk b ks).length++wk b ks
def wk:List Nat→List Tr→List Nat
 |acc,[]=>acc
 |acc,k::ks=>bif decide (acc.length>2048)then acc else wk (acc++CK k) ks
end
mutual
def wt:Tr→Nat
 | .mk _ b ks=>b.length+wts ks+10
def wts:List Tr→Nat
 | []=>0
 |k::ks=>wt k+wts ks
end
theorem QJ(n:Nat):(Ao n).length≤4:=by
 unfold Ao;cases decide (n<128)<;>cases decide (n<256)<;>cases decide (n<65536)<;>simp
mutual
theorem U1: ∀t:Tr,(CK t).length≤wt t
 | .mk t b ks=>by
   have h1:=U6 ks b;have h2:=QJ (wk b ks).length;simp only[CK,wt,List.length_append,List.length_singleton];omega
theorem U6: ∀(ks:List Tr) (acc:List Nat),(wk acc ks).length≤acc.length+wts ks
 | [],acc=>by simp[wk,wts]
 |k::ks,acc=>by
  have h1:=U1 k;have h2:=U6 ks (acc++CK k);simp only[wk,wts];rw[List.length_append]at h2;cases decide (acc.length>2048)with
  |true=>simp only[cond_true];omega
  |false=>simp only[cond_false];omega
end
theorem Qt(h:decide (acc.length>2048)=true):wk acc (k::ks)=acc:=by simp only[wk,h,cond_true]
theorem Qu(h:decide (acc.length>2048)=false):wk acc (k::ks)=wk (acc++CK k) ks:=by simp only[wk,h,cond_false]
theorem bs3(v0 v1 v2:Value)(w:World)(h0:v0.cells= #[v0])(h1:v1.cells= #[v1])(h2:v2.cells= #[v2]):(Instr.buildSlice 43 3 #[(0,v0),(1,v1),(2,v2)]).run prog w= .ok (.slice (some ⟨w.heap.size,0,none⟩) 3 3) (w.alloc (.cells #[v0,v1,v2] 23)):=by
 have hz: ∀w,(zeroValue 23).run prog w= .ok (.slice none 0 0) w:=zeroValue23;have hs: ∀w,(Go.sizeOf 23).run prog w= .ok 1 w:=sizeOf23;unfold Instr.buildSlice;have hzc:Value.cells (.slice none 0 0)= #[.slice none 0 0]:=rfl;simp[run_underlying underlying43,hs,hz,Instr.fill,h0,h1,h2,hzc,newRow,newObj];rw[show(Array.map (fun x=>([Value.slice none 0 0][x %1]?).getD default) (Array.range 3))= #[.slice none 0 0,.slice none 0 0,.slice none 0 0] from by kernel_rfl];rfl
def Uh(t:Tr):Prop:= ∀(xs:List Value) (w:World) (S:Nat→Prop),DN w S t xs→wt t≤1073741824→Calls prog 49 #[.agg xs.toArray] w fun e w'=> ∃v,e= .returned v∧BN w w' v ((CK t).length) 1 5 ((CK t).map b8)∧Bw w w'
theorem OX{w:World}{l:List Value}(h:AO w v n size l S): ∃a c,v= .slice a n c:=by obtain⟨a,c,h,_⟩:=h;exact⟨a,c,h⟩
theorem dL{t:Int}{ba:Option Addr}{bc kc:Nat}{cs:List Value}(hih: ∀k∈ks,Uh k)(hbv:AO w (.slice ba b.length bc) b.length 1 (b.map b8) S)(hv:AO w (.slice ka ks.length kc) ks.length 3 cs S)(hn:DNs w S ks cs)(hks:ks.length≤1073741824)(hwt:b.length+wts ks≤1073741824){out:List Nat}(hout:[tb t]++Ao (wk b ks).length++wk b ks=out):Calls prog 49 #[.agg #[.int .i64 t,.slice ba b.length bc,.slice ka ks.length kc]] w fun e w'=> ∃v,e= .returned v∧BN w w' v (out.length) 1 5 (out.map b8)∧Bw w w':=by
 go_enter func49,ntmps49
 refine Hy ?_
 refine Kw ?_;refine HQ ?_;refine k_s (by exact Cs [] rfl rfl gg rfl (eo func63) (n:=b.length) (l:=b.map b8) (by simp) (fun ρ S w' hb _=>Nl w' (A5 hbv hb) (by omega))) ?_;iterate 5 refine k_k ?_
 refine Mv ?_;refine P1 ?_;refine k_s (by exact BU rfl gg rfl underlying59 (AW hv)) ?_;iterate 3 refine k_k ?_
 refine Bo (α:={x:Nat×List Nat // x.1≤ks.length∧wk b ks=wk x.2 (ks.drop x.1)∧x.2.length+wts (ks.drop x.1)≤b.length+wts ks}) (fun(x:{x:Nat×List Nat // x.1≤ks.length∧wk b ks=wk x.2 (ks.drop x.1)∧x.2.length+wts (ks.drop x.1)≤b.length+wts ks}) f=>⟨[.v (f 0),.p 1 0,.v (.slice none 0 0),.d 900,.v (f 4),.v (f 5),.v (f 6),.v (f 7),.v (f 8),.v (f 9),.v (.slice ka ks.length kc),.v (.int .i64 (ks.length:Nat)),.v (.int .i64 (x.1.1:Nat)),.v (f 13),.v (f 14),.v (f 15),.v (f 16),.v (f 17),.v (f 18),.v (f 19),.v (f 20),.v (f 21),.v (f 22),.v (f 23),.v (f 24),.v (f 25),.v (f 26),.v (f 27),.v (f 28),.v (f 29),.v (f 30),.v (f 31),.v (f 32),.v (f 33)],AJ [(900,.row x.1.2.length 1 5 (.exact (x.1.2.map b8))),(1,.cells [.v (.int .i64 t),.v (.slice ba b.length bc),.v (.slice ka ks.length kc)] 61)]⟩) (fun x=>ks.length-x.1.1) ?_ (⟨(0,b),Nat.zero_le _,rfl,Nat.le_refl _⟩) ?_
 ·rintro⟨⟨i,acc⟩,hi,hgo,hsz⟩ f
  simp only at hi hgo hsz;obtain⟨q,h_q⟩: ∃q,decide ((i:Int)<(ks.length:Int))=q:=⟨_,rfl⟩
  refine Ch ?_
  refine F6 ?_
  cases q
  ·refine k_k ?_
   have hge:ks.length≤i:=by have:=of_decide_eq_false h_q;omega
   have hfin:wk b ks=acc:=by rw[hgo,List.drop_eq_nil_of_le hge];rfl
   refine As ?_;refine Ch ?_
   refine Kv ?_;refine DJ ?_;refine k_s (by exact B1 rfl gg rfl (fun w=>T7 _ w)) ?_;refine TP ?_;refine k_k ?_;refine El ?_;refine Zl ?_;refine k_k ?_;refine ZQ ?_;refine ZL ?_;iterate 2 refine k_k ?_
   refine AG ?_;refine AD (AH results49 (AF rfl)) ?_;intro ρ w' hr;rw[hfin]at hout;have e1:1+(Ao acc.length).length+acc.length=out.length:=by rw[←hout];simp;omega
   have e2:[b8 (tb t)]++(Ao acc.length).map b8++acc.map b8=out.map b8:=by rw[←hout];simp
   rw[←e1,←e2];exact⟨_,rfl,B8 (id:=33) hr rfl,hr.1⟩
  ·refine k_k ?_
   have hlt:i<ks.length:=by have:=of_decide_eq_true h_q;omega
   obtain⟨kk,hk⟩:=EV hlt;have hwl:=U1 kk;have hwk:wt kk+wts (ks.drop (i+1))=wts (ks.drop i):=by rw[Bj hk,wts]
   obtain⟨x,hx,hdn⟩:=Nx hn hk;obtain⟨t',b',ks',ek⟩: ∃t b ks,kk=Tr.mk t b ks:=by cases kk with|mk t b ks=>exact⟨t,b,ks,rfl⟩
   have hdn':=hdn;rw[ek]at hdn';simp only[DN]at hdn';obtain⟨bv',kv',cs',ex,e1,e2,_⟩:=hdn';obtain⟨a1,c1,ebv⟩:=OX e1;obtain⟨a2,c2,ekv⟩:=OX e2;subst ebv ekv;subst ex;obtain⟨q2,h_q2⟩: ∃q2,decide (acc.length>2048)=q2:=⟨_,rfl⟩
   have h_q2':=(Cr acc.length 2048).trans h_q2;iterate 5 refine k_k ?_
   refine k_s (by exact Bc (k:=i) rfl gg rfl rfl underlying59 sizeOf61 (AW hv) (hlt) (by decide)) ?_;refine k_s (by exact LF rfl gg rfl underlying61 rfl sizeOf61 (AW hv) (hx) rfl (by decide)) ?_;refine Em ?_;refine M8 ?_;iterate 5 refine k_k ?_
   refine El ?_;refine k_s (by exact BV rfl gg rfl rfl h_q2') ?_;refine k_k ?_;cases q2
   ·iterate 4 refine k_k ?_
    refine FY ?_;refine k_s (by exact Cs [] rfl rfl gg rfl (eo func49) (n:=(CK kk).length) (l:=(CK kk).map b8) (by simp) (fun ρ S w' hb _=>hih kk (List.mem_of_getElem? hk) _ w' _ (ED hb hdn) (by omega))) ?_;refine k_s (by exact Di rfl rfl gg rfl rfl rfl (BI rfl) underlying23 el5 (by decide) (by simp) (DR _) (by simp only[maxLen];omega) (by omega) (by simp)) ?_;iterate 3 refine k_k ?_
    refine ER ?_;iterate 2 refine k_k ?_
    obtain⟨acc',hacc⟩: ∃acc',acc++CK kk=acc':=⟨_,rfl⟩
    have hl2:acc.length+(CK kk).length=acc'.length:=by rw[←hacc,List.length_append]
    have hm2:acc.map b8++(CK kk).map b8=acc'.map b8:=by rw[←hacc,List.map_append]
    rw[hl2,hm2];refine⟨⟨(i+1,acc'),by show i+1≤ks.length;omega,by show wk b ks=wk acc' (ks.drop (i+1));rw[hgo,Bj hk,Qu h_q2,hacc],by show acc'.length+wts (ks.drop (i+1))≤b.length+wts ks;rw[Bj hk,wts]at hsz;omega⟩,by show ks.length-(i+1)<ks.length-i;omega,?_⟩;exact(Ar (fun i=>i==1||i==2||i==3||i==10||i==11||i==12) [5,21]).trans2 (fun f=>Dk 22 900 (by decide) rfl)
   ·refine k_k ?_
    have hfin:wk b ks=acc:=by rw[hgo,Bj hk,Qt h_q2]
    refine As ?_;refine Ch ?_
    refine Kv ?_;refine DJ ?_;refine k_s (by exact B1 rfl gg rfl (fun w=>T7 _ w)) ?_;refine TP ?_;refine k_k ?_;refine El ?_;refine Zl ?_;refine k_k ?_;refine ZQ ?_;refine ZL ?_;iterate 2 refine k_k ?_
    refine AG ?_;refine AD (AH results49 (AF rfl)) ?_;intro ρ w' hr;rw[hfin]at hout;have e1:1+(Ao acc.length).length+acc.length=out.length:=by rw[←hout];simp;omega
    have e2:[b8 (tb t)]++(Ao acc.length).map b8++acc.map b8=out.map b8:=by rw[←hout];simp
    rw[←e1,←e2];exact⟨_,rfl,B8 (id:=33) hr rfl,hr.1⟩
 ·exact(Ar (fun i=>i==1||i==2||i==3||i==10||i==11||i==12) []).trans2 (fun f=>Dk 8 900 (by decide) rfl)
mutual
theorem U0: ∀t:Tr,t.ok→Uh t
 | .mk t b ks,h=>fun xs w S hx hwt=>by
   simp only[Tr.ok]at h;simp only[DN]at hx;obtain⟨bv,kv,cs,rfl,h2,h3,h4⟩:=hx;obtain⟨a1,c1,rfl⟩:=OX h2;obtain⟨a2,c2,rfl⟩:=OX h3;simp only[wt]at hwt;exact dL w (Uz ks h.2.2.2) h2 h3 h4 (by omega) (by omega) rfl
theorem Uz: ∀ks:List Tr,oks ks→ ∀k∈ks,Uh k
 | [],_=>fun k hk=>by cases hk
 |k0::ks,h=>fun k hk=>by
  simp only[oks]at h;rcases List.mem_cons.1 hk with e|hk
  ·exact e▸U0 k0 h.1
  ·exact Uz ks h.2 k hk
end
theorem sD(hok:t.ok)(hx:DN w S t [x0,x1,x2])(_hwt:wt t≤1073741824)(hr0:Ak t 1=false):Calls prog 22 #[.agg #[x0,x1,x2]] w fun e w'=> ∃v,e= .returned (.tuple #[v,.int .i64 2])∧BN w w' v (0) 1 5 ([])∧Bw w w':=by
 go_enter func22,ntmps22
 refine FW ?_
 refine FY ?_;refine k_s (by exact Ad (v:= .bool false) rfl gg rfl (eo func48) (fun w' hb=>hr0▸Oh t hok 1 _ w' _ (by omega) (ED hb hx))) ?_;iterate 8 refine k_k ?_
 refine AG ?_;refine AD (Av results22 (AF rfl) (AF rfl)) ?_;intro ρ w' hr;exact⟨_,rfl,I1 _ _ _ _,hr.1⟩
theorem sE(hok:t.ok)(hx:DN w S t [x0,x1,x2])(hwt:wt t≤1073741824)(hr0:Ak t 1=true)(hbig:(CK t).length>2048):Calls prog 22 #[.agg #[x0,x1,x2]] w fun e w'=> ∃v,e= .returned (.tuple #[v,.int .i64 4])∧BN w w' v (0) 1 5 ([])∧Bw w w':=by
 go_enter func22,ntmps22
 refine FW ?_
 refine FY ?_;refine ZW ?_;iterate 6 refine k_k ?_
 refine FY ?_;refine Zj ?_;iterate 6 refine k_k ?_
 refine El ?_;refine Pk ?_;iterate 7 refine k_k ?_
 refine AG ?_;refine AD (Av results22 (AF rfl) (AF rfl)) ?_;intro ρ w' hr;exact⟨_,rfl,I1 _ _ _ _,hr.1⟩
theorem sC(hok:t.ok)(hx:DN w S t [x0,x1,x2])(hwt:wt t≤1073741824)(hr0:Ak t 1=true)(hbig: ¬(CK t).length>2048):Calls prog 22 #[.agg #[x0,x1,x2]] w fun e w'=> ∃v,e= .returned (.tuple #[v,.int .i64 0])∧BN w w' v ((CK t).length) 1 5 ((CK t).map b8)∧Bw w w':=by
 go_enter func22,ntmps22
 refine FW ?_
 refine FY ?_;refine ZW ?_;iterate 6 refine k_k ?_
 refine FY ?_;refine Zj ?_;iterate 6 refine k_k ?_
 refine El ?_;refine FS ?_;iterate 9 refine k_k ?_
 refine AG ?_;refine AD (Av results22 (AF rfl) (AF rfl)) ?_;intro ρ w' hr;exact⟨_,rfl,B8 (id:=9) hr rfl,hr.1⟩
mutual
def Aq:Tr→List Nat
 | .mk t b ks=>[tb t]++Ao (bb b ks).length++bb b ks
def bb:List Nat→List Tr→List Nat
 |acc,[]=>acc
 |acc,k::ks=>bb (acc++Aq k) ks
end
theorem PO(n:Nat):n8 n<256:=by unfold n8;omega
theorem eF(t:Int):tb t<256:=by unfold tb;omega
theorem pP(n:Nat): ∀x∈Ao n,x<256:=by
 unfold Ao;have h1:=PO n;have h2:=PO (hb n 8);have h3:=PO (hb n 16);cases decide (n<128)<;>cases decide (n<256)<;>cases decide (n<65536)<;>simp<;>omega
mutual
theorem UO: ∀t:Tr,t.ok→ ∀x∈Aq t,x<256
 | .mk t b ks,h=>fun x hx=>by
   simp only[Tr.ok]at h;simp only[Aq,List.mem_append,List.mem_singleton]at hx;rcases hx with(hx|hx)|hx
   ·rw[hx];exact eF t
   ·exact pP _ x hx
   ·exact cE ks h.2.2.2 b h.1 x hx
theorem cE: ∀ks:List Tr,oks ks→ ∀acc:List Nat,(∀x∈acc,x<256)→ ∀x∈bb acc ks,x<256
 | [],_=>fun acc h x hx=>h x hx
 |k::ks,h=>fun acc ha x hx=>by
  simp only[oks]at h;simp only[bb]at hx;exact cE ks h.2 (acc++Aq k) (fun y hy=>(List.mem_append.1 hy).elim (ha y) (UO k h.1 y)) x hx
end
theorem cG: ∀(ks:List Tr) (acc:List Nat),acc.length≤(bb acc ks).length
 | [],acc=>Nat.le_refl _
 |k::ks,acc=>by
  have:=cG ks (acc++Aq k);rw[List.length_append]at this;simp only[bb];omega
theorem U7: ∀(ks:List Tr) (acc:List Nat),acc.length≤(wk acc ks).length
 | [],acc=>by simp[wk]
 |k::ks,acc=>by
  have:=U7 ks (acc++CK k);rw[List.length_append]at this;cases h:decide (acc.length>2048)with
  |true=>rw[Qt h];exact Nat.le_refl _
  |false=>rw[Qu h];omega
mutual
theorem U2: ∀t:Tr,((Aq t).length≤2048→CK t=Aq t)∧(2048<(Aq t).length→2048<(CK t).length)
 | .mk t b ks=>by
   obtain⟨h1,h2⟩:=U5 ks b;by_cases h:(bb b ks).length≤2048
   ·have e:CK (.mk t b ks)=Aq (.mk t b ks):=by simp only[CK,Aq,h1 h]
    exact⟨fun _=>e,fun h=>by rw[e];exact h⟩
   ·refine⟨fun hh=> ?_,fun _=> ?_⟩
    ·simp only[Aq,List.length_append]at hh;omega
    ·have:=h2 (by omega)
     simp only[CK,List.length_append];omega
theorem U5: ∀(ks:List Tr) (acc:List Nat),((bb acc ks).length≤2048→wk acc ks=bb acc ks)∧(2048<(bb acc ks).length→2048<(wk acc ks).length)
 | [],acc=>⟨fun _=>by simp[wk,bb],fun h=>by simpa[wk,bb] using h⟩
 |k::ks,acc=>by
  obtain⟨h1,h2⟩:=U2 k;obtain⟨h3,h4⟩:=U5 ks (acc++Aq k);have g1:=cG ks (acc++Aq k);rw[List.length_append]at g1;simp only[bb];by_cases ha:decide (acc.length>2048)=true
  ·rw[Qt ha]
   have:=of_decide_eq_true ha;exact⟨fun h=>by omega,fun _=>this⟩
  ·have ha:=by simpa using ha
   have ha':decide (acc.length>2048)=false:=decide_eq_false (by omega);rw[Qu ha'];by_cases hk:(Aq k).length≤2048
   ·rw[h1 hk];exact⟨h3,h4⟩
   ·refine⟨fun h=>by omega,fun _=> ?_⟩
    have g2:=U7 ks (acc++CK k);rw[List.length_append]at g2;have:=h2 (by omega);omega
end
theorem Ei: ∀{ks:List Tr},oks ks→ ∀{i:Nat} {k:Tr},ks[i]? =some k→k.ok
 | [],_,_,_,h=>by cases h
 |k0::ks,h,i,k,hk=>by
  simp only[oks]at h;cases i with
  |zero=>simp only[List.getElem?_cons_zero,Option.some.injEq]at hk;exact hk▸h.1
  |succ i=>exact Ei h.2 (i:=i) (by simpa using hk)
def wrT(t:Tr):List Nat×Int:=bif Ak t 1 then(bif decide ((Aq t).length>2048)then([],4)else(Aq t,0))else([],2)
mutual
theorem dD{w w':World}{S:Nat→Prop}(hb: ∀k,S k→w'.heap[k]? =w.heap[k]?): ∀{t:Tr} {xs:List Value},DN w S t xs→DN w' S t xs
 | .mk t b ks,xs,h=>by
   simp only[DN]at h⊢;obtain⟨bv,kv,cs,h1,h2,h3,h4⟩:=h;exact⟨bv,kv,cs,h1,h2.keep hb,h3.keep hb,Uq hb h4⟩
theorem Uq{w w':World}{S:Nat→Prop}(hb: ∀k,S k→w'.heap[k]? =w.heap[k]?): ∀{ks:List Tr} {xs:List Value},DNs w S ks xs→DNs w' S ks xs
 | [],xs,h=>by simp only[DNs]at h ⊢; exact h
 |k::ks,xs,h=>by
  simp only[DNs]at h⊢;obtain⟨x,y,h1,h2,h3⟩:=h;exact⟨x,y,h1,dD hb h2,Uq hb h3⟩
end
theorem Hq{w:World}{l:List Value}{S':Nat→Prop}(h:AO w v n size l S)(hs: ∀k,S k→S' k):AO w v n size l S':=by
 obtain⟨ao,cap,h1,h2,h3,h4⟩:=h;exact⟨ao,cap,h1,h2,h3,h4.imp id fun⟨g,a,b,c⟩=>⟨g,a,hs _ b,c⟩⟩
mutual
theorem Ur{w:World}{S S':Nat→Prop}(hs: ∀k,S k→S' k): ∀{t:Tr} {xs:List Value},DN w S t xs→DN w S' t xs
 | .mk t b ks,xs,h=>by
   simp only[DN]at h⊢;obtain⟨bv,kv,cs,h1,h2,h3,h4⟩:=h;exact⟨bv,kv,cs,h1,Hq h2 hs,Hq h3 hs,LX hs h4⟩
theorem LX{w:World}{S S':Nat→Prop}(hs: ∀k,S k→S' k): ∀{ks:List Tr} {xs:List Value},DNs w S ks xs→DNs w S' ks xs
 | [],xs,h=>by simp only[DNs]at h ⊢; exact h
 |k::ks,xs,h=>by
  simp only[DNs]at h⊢;obtain⟨x,y,h1,h2,h3⟩:=h;exact⟨x,y,h1,Ur hs h2,LX hs h3⟩
end
theorem dC{w:World}{S:Nat→Prop}{k:Tr}{y:List Value}(h:DN w S k y): ∀{ks:List Tr} {xs:List Value},DNs w S ks xs→DNs w S (ks++[k]) (xs++y)
 | [],xs,h1=>by
   simp only[DNs]at h1;subst h1;simp only[List.nil_append,DNs];exact⟨y,[],by simp,h,rfl⟩
 |k0::ks,xs,h1=>by
  simp only[DNs]at h1;obtain⟨x,z,rfl,h2,h3⟩:=h1;simp only[List.cons_append,DNs];exact⟨x,z++y,by simp,h2,dC h h3⟩
theorem HB{w:World}{xs:List Value}(h:DN w S t xs):xs.all (·.oneCell')=true:=by
 cases t with
 |mk t b ks=>
  simp only[DN]at h;obtain⟨bv,kv,cs,rfl,⟨_,_,rfl,_⟩,⟨_,_,rfl,_⟩,_⟩:=h;rfl
def AR(t:Tr):Dat:=⟨fun xs w S=> ∃c,xs=[.agg c.toArray]∧DN w S t c,fun h hk=>by obtain⟨c,h1,h2⟩:=h;exact⟨c,h1,dD hk h2⟩⟩
def QF(ks:List Tr):Dat:=⟨fun xs w S=>DNs w S ks xs,fun h hk=>Uq hk h⟩
theorem Cd{w:World}{base:Nat}{S:Nat→Nat→Prop}{m:Mem}(hR:RelOn base ρ S w (restr rd m))(hid:id∈rd)(hm:m id=some (.dat (AR t))):
 ∃c,(ρ id).val= .agg c.toArray∧DN w (S id) t c:=by
 obtain⟨c,h1,h2⟩:=Gc hR hid hm;simp only[List.cons.injEq,and_true]at h1;exact⟨c,h1,h2⟩
theorem fn3{c:List Value}(h:(ρ id).val= .agg c.toArray)(hl:c.length=3):((SV.d id).c ρ).cells.toList=SV.cs ρ [.fn (AN 0) (.d id),.fn (AN 1) (.d id),.fn (AN 2) (.d id)]∧SV.cs ρ [.fn (AN 0) (.d id),.fn (AN 1) (.d id),.fn (AN 2) (.d id)]=c:=by
 have h1:((ρ id).val).cells.size=3:=by rw[h];simpa[Value.cells] using hl
 have h2:=pq h1;have h3:((SV.d id).c ρ).cells.toList=SV.cs ρ [.fn (AN 0) (.d id),.fn (AN 1) (.d id),.fn (AN 2) (.d id)]:=h2;refine⟨h3,h3.symm.trans ?_⟩;show((ρ id).val).cells.toList=c;rw[h];simp[Value.cells]
theorem qw(v:Value)(w:World)(h:v.cells.size=3):(Instr.buildSlice 59 1 #[(0,v)]).run prog w= .ok (.slice (some ⟨w.heap.size,0,none⟩) 1 1) (w.alloc (.cells v.cells 61)):=by
 obtain⟨a,b,c,hl⟩:=DI (l:=v.cells.toList) (by simpa using h);have hl':v.cells= #[a,b,c]:=by apply Array.ext';rw[hl]
 have hz: ∀w,(zeroValue 61).run prog w= .ok (.agg #[.int .i64 0,.slice none 0 0,.slice none 0 0]) w:=zeroValue61;have hs: ∀w,(Go.sizeOf 61).run prog w= .ok 3 w:=sizeOf61;unfold Instr.buildSlice;have hzc:Value.cells (.agg #[.int .i64 0,.slice none 0 0,.slice none 0 0])= #[.int .i64 0,.slice none 0 0,.slice none 0 0]:=rfl;have hr:Array.range 3= #[0,1,2]:=by decide
 simp[run_underlying underlying59,hs,hz,Instr.fill,hl',hzc,newRow,newObj,hr];rfl
theorem Jm(t:Int)(p:Option Addr)(m q:Nat):prog.built 61 [(0,.int .i64 t),(1,.slice p m q)]=some #[.int .i64 t,.slice p m q,.slice none 0 0]:=by kernel_rfl
theorem DC(l:List SV):((SV.agg l).c ρ).cells.toList=SV.cs ρ l:=by simp[SV.c,Value.cells]
mutual
def N7:Tr→Nat→Nat→Tr×Nat
 | .mk t b ks,d,l=>(.mk t (b.take 2100) (N6 ks 0 d (l-1)).1,(N6 ks 0 d (l-1)).2)
def N6:List Tr→Nat→Nat→Nat→List Tr×Nat
 | [],_,_,l=>([],l)
 |k::ks,i,d,l=>bif decide (i<25) && (decide (d>1) && decide (l>0))then((N7 k (d-1) l).1::(N6 ks (i+1) d (N7 k (d-1) l).2).1,(N6 ks (i+1) d (N7 k (d-1) l).2).2)else([],l)
end
theorem oH{t:Array TypeId}{a b c:Int}(ho:o.op= .call {callee:= .builtin .max,args:= #[x,y],argTypes:=t})(hgd:AQ ops o s)(hx:AE s x= .v (.int .i64 a))(hy:AE s y= .v (.int .i64 b))(hc:max a b=c):
 Ev P ops w0 o s ⟨.v (.int .i64 c),[],[],[],[]⟩:=
 Ev.run _ _ hgd fun ρ S w hb hR=>by
  have e1:=AI s ρ x;rw[hx]at e1;have e2:=AI s ρ y;rw[hy]at e2;simp only[SV.c]at e1 e2;subst hc;unfold execOp;simp only[ho,resolve,invoke,builtin,Sem.run_bind,Sem.run_pure,Result.andThen_ok,List.map_toArray,List.map_cons,List.map_nil,e1,e2,SV.c];by_cases h:a≤b
  ·simp[Builtin.max_,Builtin.max2,Int.max_eq_right h]
   omega
  ·simp[Builtin.max_,Builtin.max2,Int.max_eq_left (by omega:b≤a)]
   omega
theorem oZ(D:Dat)(g:Value→Value)(rd:List Nat)(_hd:o.dst=some id)(ho:o.op= .call {callee:= .value (.func f),args:=xs,argTypes:=ats})(hgd:AQ ops o s)
 (hx:xs.toList.map (AE s)=vs)(he: ∀args w,(callFunc f args).run P w= .ok (.enter f args) w)
 (hc: ∀ρ S w,Bw w0 w→RelOn w0.heap.size ρ S w (restr rd s.mem)→Calls P f (SV.cs ρ vs).toArray w fun e w'=> ∃v l S',e= .returned (g v)∧l.length=n*size∧BN w w' v n size ty l∧D.holds l w S'∧(∀k,S' k→ ∃j∈rd,(s.mem j).isSome∧S j k)∧Bw w w'):Ev P ops w0 o s ⟨.fn g (.d id),[(id,.row n size ty D)],[],[id],rd⟩:=
 ⟨by simp[Eff.ok],.inr ⟨hgd,fun ρ S w hb hR=> .inr (.inr ⟨f,(SV.cs ρ vs).toArray,by
  obtain⟨dst,op,type,pos,after,guard⟩:=o;simp only at ho;subst ho;rw[execOp_call_go,G7,hx,←A8]
  simpa using he (SV.cs ρ vs).toArray w,(hc ρ S w hb hR).mono fun e w' ⟨v,l,S',h1,hl,⟨q,h2⟩,h3,h4,h5⟩=>⟨_,h1,_,_,by
   have hin: ∀j,j∈rd→restr rd s.mem j=s.mem j:=fun j hj=>by unfold restr;rw[if_pos hj]
   have hlt: ∀k,S' k→k<w.heap.size:=fun k hk=>by
    obtain⟨j,h6,h7,h8⟩:=h4 k hk;exact hR.lt j k (by rw[hin j h6];exact h7) h8
   have:=Cj (base:=w0.heap.size) (t:=s.mem) (ρ:=ρ) (S:=S) (w:=w) (w':=w') (val:= .fn g (.d id)) (rd:=rd) (up:=[]) (id:=id) (b:= .row n size ty D) (m:=⟨q,v⟩) (S1:=S')
    h5.os h5.tape h5.output h5.size (fun k hk _=>h5.block k hk) (fun ρ' g1 _=>⟨l,hl,D.keep h3 (fun k hk=>h5.block k (hlt k hk)),by
     rw[g1];rcases h2 with h2|⟨off,cap,cur,fz,a1,a2,a3⟩
     ·exact .inl h2
     ·exact .inr ⟨off,cap,cur,fz,a1,Nat.le_trans hb.size a2,a3⟩⟩) (fun k hk=> .inl (h4 k hk))
    (fun hob=> .inr (by
     rcases h2 with⟨h2,_⟩|⟨off,cap,cur,fz,a1,a2,a3⟩
     ·exact absurd h2 hob
     ·exact⟨a2,fun h=>Nat.lt_irrefl _ (Nat.lt_of_lt_of_le (hlt _ h) a2)⟩))
   simpa[SV.c] using this⟩⟩)⟩⟩
theorem oi{a c:Value}{sy:SV}{l:List Value}(ho:o.op= .build ty #[(0,x),(2,y)])(hgd:AQ ops o s)
 (hx:AE s x= .v a)(hy:AE s y=sy)(hr:Rdg w0 s.mem rd sy n size l)(hb: ∀p m q,P.built ty [(0,a),(2,.slice p m q)]=some #[a,c,.slice p m q]):Ev P ops w0 o s ⟨.agg [.v a,.v c,sy],[],[],[],rd⟩:=
 Ev.run _ _ hgd fun ρ S w hbw hR=>by
  have e0:=AI s ρ x;rw[hx]at e0;have e1:=AI s ρ y;rw[hy]at e1;obtain⟨_,ao,cap,h1,_⟩:=hr ρ S w hbw hR;rw[h1]at e1;simp only[execOp,ho,List.map_toArray,List.map_cons,List.map_nil,e0,e1,SV.c];rw[Sem.run_bind,run_build w ty _ #[a,c,.slice ao n cap] (hb _ _ _)];simp[SV.c,SV.cs,h1]
theorem qh(t:Int)(p:Option Addr)(m q:Nat):prog.built 61 [(0,.int .i64 t),(2,.slice p m q)]=some #[.int .i64 t,.slice none 0 0,.slice p m q]:=by kernel_rfl
theorem Hs{w:World}(id:Nat)(hr:Rel w0 ρ s w)(hm:s.mem id=some (.dat (AR t))):Ae w0 w (.agg (SV.cs ρ [.fn (AN 0) (.d id),.fn (AN 1) (.d id),.fn (AN 2) (.d id)]).toArray) (AR t):=by
 obtain⟨hb,S,hR⟩:=hr;obtain⟨c,h1,h2⟩:=hR.good id _ hm;simp only[List.cons.injEq,and_true]at h1;rw[(fn3 h1 (CS h2)).2];exact⟨S id,⟨c,rfl,h2⟩,fun k hk=>⟨hR.fr id k (by rw[hm];rfl) hk,hR.lt id k (by rw[hm];rfl) hk⟩⟩
theorem Gl{w:World}(i:Nat){t:Int}(hr:Rel w0 ρ s w)(h1:s.mem i=some (.row b.length 1 5 (.exact (b.map b8)))):
 Ae w0 w (.agg #[.int .i64 t,(ρ i).val,.slice none 0 0]) (AR (.mk t b [])):=by
 obtain⟨hb,S,hR⟩:=hr;obtain⟨xs,e1,e2,e3⟩:=hR.good i _ h1;have e2':xs=b.map b8:=e2;subst e2';refine⟨fun k=>w0.heap.size≤k∧k<w.heap.size,⟨[.int .i64 t,(ρ i).val,.slice none 0 0],rfl,?_⟩,fun k hk=>hk⟩;simp only[DN,DNs];refine⟨_,_,[],rfl,?_,⟨none,0,rfl,Nat.le_refl _,rfl,.inl rfl⟩,rfl⟩;have hs:=DX e3 e1;rcases e3 with⟨g1,g2⟩|⟨off,cap,cur,fz,g1,g2,g3,_⟩
 ·obtain⟨ao,cap,a1,a2,a3,a4⟩:=hs
  refine⟨ao,cap,a1,a2,a3,.inl ?_⟩;exact List.eq_nil_of_length_eq_zero (by rw[e1,g2])
 ·exact Hq hs fun k hk=>by subst hk;exact⟨g2,(Array.getElem?_eq_some_iff.1 g3).1⟩
def AY(bs:List Nat):List Nat:=bs.dropWhile (· ==0)
def Dw:Value→List Nat→Value
 |_,[]=> .slice none 0 0
 |v,b::r=>bif decide (b=0)then Dw (Ay 1 (r.length+1) 1 v) r else v
theorem az{w:World}{b:Nat}(h:AO w v (b::r).length 1 ((b::r).map b8) S):AO w (Ay 1 (r.length+1) 1 v) r.length 1 (r.map b8) S:=by
 have:=Iw (lo:=1) (hi:=r.length+1) h (by omega) (by simp);have e:List.take r.length (List.map b8 r)=List.map b8 r:=List.take_of_length_le (by simp);simpa[e] using this
theorem N2{w:World}{S:Nat→Prop}: ∀{bs:List Nat} {v:Value},AO w v bs.length 1 (bs.map b8) S→AO w (Dw v bs) (AY bs).length 1 ((AY bs).map b8) S
 | [],v,h=>⟨none,0,rfl,Nat.le_refl _,rfl,.inl rfl⟩
 |b::r,v,h=>by
  by_cases hb:b=0
  ·have e1:AY (b::r)=AY r:=by simp[AY,hb]
   have e2:Dw v (b::r)=Dw (Ay 1 (r.length+1) 1 v) r:=by simp[Dw,hb]
   rw[e1,e2];exact N2 (az h)
  ·have e1:AY (b::r)=b::r:=by simp[AY,hb]
   have e2:Dw v (b::r)=v:=by simp[Dw,hb]
   rw[e1,e2];exact h
theorem Hi: ∀bs:List Nat,(AY bs).length≤bs.length
 | []=>Nat.le_refl _
 |b::r=>by
  have:=Hi r;by_cases hb:b=0
  ·have e1:AY (b::r)=AY r:=by simp[AY,hb]
   rw[e1,List.length_cons];omega
  ·have e1:AY (b::r)=b::r:=by simp[AY,hb]
   rw[e1];exact Nat.le_refl _
theorem Ng{l:List Nat}(h:l.length>0): ∃b r,l=b::r:=by
 cases l with
 |nil=>simp at h
 |cons b r=>exact⟨b,r,rfl⟩
theorem P3{l:List Nat}(h:l.length>0):(l.map b8)[0]? =some (b8 (l.headD 0)):=by
 obtain⟨b,r,rfl⟩:=Ng h;rfl
theorem dk(hv:AO w v bs.length 1 (bs.map b8) S)(_hm:bs.length≤maxLen):Calls prog 151 #[v,.int .u8 0] w fun e w'=>e= .returned (Dw v bs)∧Bw w w':=by
 go_enter func151,ntmps151
 refine A4 ?_;iterate 6 refine k_k ?_
 refine Bo (α:={x:List Nat×Value // AO w x.2 x.1.length 1 (x.1.map b8) S∧Dw v bs=Dw x.2 x.1∧x.1.length≤bs.length}) (fun(x:{x:List Nat×Value // AO w x.2 x.1.length 1 (x.1.map b8) S∧Dw v bs=Dw x.2 x.1∧x.1.length≤bs.length}) f=>⟨[.v x.1.2,.v (.int .u8 0),.v (f 2),.v (f 3),.v (.slice none 0 0),.v (f 5),.v (f 6),.v (f 7),.v (f 8),.v (f 9),.v (f 10),.v (f 11),.v (f 12),.v (f 13),.v (f 14),.v (f 15),.v (f 16),.v (f 17),.v (f 18),.v (f 19),.v (f 20)],AJ []⟩) (fun x=>x.1.1.length) ?_ (⟨(bs,v),hv,rfl,Nat.le_refl _⟩) ?_
 ·rintro⟨⟨bs',v'⟩,hv',hgo,hle⟩ f
  simp only at hv' hgo hle;obtain⟨q,h_q⟩: ∃q,decide (bs'.length>0)=q:=⟨_,rfl⟩
  obtain⟨q2,h_q2⟩: ∃q,decide (bs'.headD 0=0)=q:=⟨_,rfl⟩
  have h_q':=(Cr bs'.length 0).trans h_q;have h_q2':=(CM (bs'.headD 0) 0).trans h_q2;cases q<;>cases q2<;>
  (
   refine CN ?_
   refine k_s (by exact BU rfl gg rfl underlying23 (AW hv')) ?_;refine Kz ?_;refine Cz ?_;refine k_s (by first|exact Ev.skip (fun _=>rfl)|exact Bc (k:=0) rfl (fun _=>rfl) rfl rfl underlying23 sizeOf5 (AW hv') (of_decide_eq_true h_q) (by decide)) ?_;refine k_s (by first|exact Ev.skip (fun _=>rfl)|exact Cb rfl (fun _=>rfl) rfl underlying5 rfl (AW hv') (P3 (of_decide_eq_true h_q))) ?_;refine k_0 ?_;refine Po ?_;iterate 2 refine k_k ?_
   first
   |(
    iterate 5 refine k_k ?_
    refine k_s (by exact Fa (a:=1) (b:=bs'.length) rfl gg rfl underlying23 sizeOf5 (AW hv') rfl rfl (of_decide_eq_true h_q) (Nat.le_refl _) rfl) ?_;iterate 2 refine k_k ?_
    obtain⟨b,r,rfl⟩:=Ng (of_decide_eq_true h_q);have hb0:b=0:=of_decide_eq_true h_q2;subst hb0;refine⟨⟨(r,Ay 1 (r.length+1) 1 v'),az hv',hgo,by show r.length≤bs.length;simp only[List.length_cons]at hle;omega⟩,by show r.length<r.length+1;omega,?_⟩;exact Ar (fun i=>i==0||i==1||i==4) []
    )
   |(
    refine k_k ?_;have hz':decide ((bs'.length:Int)=((0:Nat):Int))= !decide (bs'.length>0):=by rw[CM];cases bs'<;>simp
    rw[h_q]at hz';refine As ?_;refine CN ?_
    refine k_s (by exact BU rfl gg rfl underlying23 (AW hv')) ?_;refine k_s (by exact Ag rfl gg rfl rfl hz') ?_;refine k_k ?_;first
    |(
     refine MB ?_;refine AD (AH results151 (AF rfl)) ?_;intro ρ w' hr
     (first|(refine⟨?_,hr.1⟩;rw[hgo];have h0:bs'=[]:=List.eq_nil_of_length_eq_zero (by have:=of_decide_eq_false h_q;omega);subst h0;rfl)|(refine⟨?_,hr.1⟩;rw[hgo];obtain⟨b,r,rfl⟩:=Ng (of_decide_eq_true h_q);have hb0:decide (b=0)=false:=h_q2;simp only[Dw,hb0,cond_false];rfl))
     )
    |(
     iterate 7 refine k_k ?_
     refine AG ?_;refine AD (AH results151 (AF rfl)) ?_;intro ρ w' hr
     (first|(refine⟨?_,hr.1⟩;rw[hgo];have h0:bs'=[]:=List.eq_nil_of_length_eq_zero (by have:=of_decide_eq_false h_q;omega);subst h0;rfl)|(refine⟨?_,hr.1⟩;rw[hgo];obtain⟨b,r,rfl⟩:=Ng (of_decide_eq_true h_q);have hb0:decide (b=0)=false:=h_q2;simp only[Dw,hb0,cond_false];rfl))
     )
    )
  )
 ·exact Ar (fun i=>i==0||i==1||i==4) []
theorem Q5(hv:AO w v bs.length 1 (bs.map b8) S)(hm:bs.length≤maxLen):Calls prog 98 #[v,.string (AB [0])] w fun e w'=>e= .returned (Dw v bs)∧Bw w w':=by
 obtain⟨q,h_q⟩: ∃p,decide (bs.length=0)=p:=⟨_,rfl⟩
 have h_q':=(CM bs.length 0).trans h_q
 go_enter func98,ntmps98
 refine C6 ?_
 refine CU ?_;refine k_s (by exact Ag rfl gg rfl rfl h_q') ?_;refine k_k ?_;cases q
 ·iterate 6 refine k_k ?_
  refine k_s (by exact AK (c:= .bool false) rfl gg rfl rfl (fun w=>E4 (a:=[0]) (b:=[]) (by decide) (by simp) (by simp) _ _ w)) ?_;iterate 7 refine k_k ?_
  refine k_s (by exact HX (b:=[0]) rfl gg rfl underlying9) ?_;refine FR ?_;refine Cz ?_;refine k_s (by first|exact Ev.skip (fun _=>rfl)|exact CF (b:=[0]) (k:=0) (c:=0) rfl (fun _=>rfl) rfl rfl underlying9 rfl (by decide)) ?_;refine k_s (by first|exact Ev.skip (fun _=>rfl)|exact D8 (p:=true) rfl (fun _=>rfl) rfl rfl (by decide)) ?_;iterate 7 refine k_k ?_
  refine k_s (by exact CF (b:=[0]) (k:=0) (c:=0) rfl gg rfl rfl underlying9 rfl (by decide)) ?_;refine k_s (by exact Ad rfl gg rfl (eo func151) (fun w' hb=>dk w' (A5 hv hb) hm)) ?_;iterate 2 refine k_k ?_
  refine AG ?_;refine AD (AH results98 (AF rfl)) ?_;intro ρ w' hr
  (first|exact⟨rfl,hr.1⟩|(refine⟨?_,hr.1⟩;have h0:bs=[]:=List.eq_nil_of_length_eq_zero (of_decide_eq_true h_q);subst h0;rfl))
 ·iterate 5 refine k_k ?_
  refine AG ?_;refine AD (AH results98 (AF rfl)) ?_;intro ρ w' hr
  (first|exact⟨rfl,hr.1⟩|(refine⟨?_,hr.1⟩;have h0:bs=[]:=List.eq_nil_of_length_eq_zero (of_decide_eq_true h_q);subst h0;rfl))
def B2(bs:List Nat):List Nat:=bif decide ((AY bs).length=0)||decide ((AY bs).headD 0≥128)then 0::AY bs else AY bs
theorem PL(bs:List Nat):(B2 bs).length≤bs.length+1:=by
 have:=Hi bs;unfold B2;cases decide ((AY bs).length=0)||decide ((AY bs).headD 0≥128)<;>simp<;>omega
theorem Yw{l:List Nat}(h:decide (l.length=0)=false):l.length>0:=by have:=of_decide_eq_false h;omega
theorem YC(hv:AO w v bs.length 1 (bs.map b8) S)(hm:bs.length≤1048576):Calls prog 51 #[v] w fun e w'=> ∃v,e= .returned v∧Ae w w' v (AR (.mk 2 (B2 bs) []))∧Bw w w':=by
 unfold B2;have htv:=N2 hv;have htl:=Hi bs;obtain⟨q1,h_q1⟩: ∃p,decide ((AY bs).length=0)=p:=⟨_,rfl⟩
 obtain⟨q2,h_q2⟩: ∃p,decide ((AY bs).headD 0≥128)=p:=⟨_,rfl⟩
 rw[h_q1,h_q2];have h_q1':=(CM (AY bs).length 0).trans h_q1;have h_q2':=(Ej ((AY bs).headD 0) 128).trans h_q2
 go_enter func51,ntmps51
 refine A4 ?_;cases q1<;>cases q2<;>
 (
  iterate 2 refine k_k ?_
  refine Em ?_;iterate 4 refine k_k ?_
  refine k_s (by exact Ad rfl gg rfl (eo func98) (fun w' hb=>Q5 w' (A5 hv hb) (by simp only[maxLen];omega))) ?_;iterate 6 refine k_k ?_
  refine M6 ?_;refine k_s (by exact Ag rfl gg rfl rfl h_q1') ?_;refine Cz ?_;refine k_s (by first|exact Ev.skip (fun _=>rfl)|exact Bc (k:=0) rfl (fun _=>rfl) rfl rfl underlying23 sizeOf5 (AW htv) (Yw h_q1) (by decide)) ?_;refine k_s (by first|exact Ev.skip (fun _=>rfl)|exact Cb rfl (fun _=>rfl) rfl underlying5 rfl (AW htv) (P3 (Yw h_q1))) ?_;refine k_s (by first|exact Ev.skip (fun _=>rfl)|exact Ew rfl (fun _=>rfl) rfl rfl h_q2') ?_;iterate 2 refine k_k ?_
  first
  |(
   iterate 2 refine k_k ?_
   refine k_s (by exact BL rfl rfl gg rfl (e:=5) (l:=[b8 0]) rfl (by decide) (fun _=>by kernel_rfl)) ?_;refine k_k ?_;refine k_s (by exact Di rfl rfl gg rfl rfl rfl (AW htv) underlying23 el5 (by decide) (by simp) (DR _) (by simp only[maxLen];omega) (by omega) (by simp)) ?_;iterate 5 refine k_k ?_
   refine ZK ?_;refine ZG ?_;refine Zq ?_;refine EP ?_;refine AD (AH results51 (Am rfl rfl underlying61 rfl sizeOf61 rfl)) ?_;intro ρ w' hr;refine⟨_,rfl,?_,hr.1⟩;first|(have:=Gl (t:=2) (b:=0::AY bs) 18 hr rfl;simpa[SV.c,SV.cs] using this)|(have:=Gl (t:=2) (b:=AY bs) 18 hr rfl;simpa[SV.c,SV.cs] using this)
   )
  |(
   iterate 5 refine k_k ?_
   refine ZK ?_;refine ZG ?_;refine Zq ?_;refine EP ?_;refine AD (AH results51 (Am rfl rfl underlying61 rfl sizeOf61 rfl)) ?_;intro ρ w' hr;refine⟨_,rfl,?_,hr.1⟩;first|(have:=Gl (t:=2) (b:=0::AY bs) 18 hr rfl;simpa[SV.c,SV.cs] using this)|(have:=Gl (t:=2) (b:=AY bs) 18 hr rfl;simpa[SV.c,SV.cs] using this)
   )
 )
theorem Vq(m s:Nat)(_hm:m<9223372036854775808)(hs:s<64)(p q:Operand)(w:World):(do eqGuard .shr 3 p q (.int .i64 (m:Nat)) (.int .i64 (s:Nat));binOp .shr 3 (.int .i64 (m:Nat)) (.int .i64 (s:Nat)):Sem Value).run prog w= .ok (.int .i64 ((hb m s:Nat):Int)) w:=by
 go_simp
 unfold hb;have h1: ¬((s:Int)<0):=by omega
 simp
def CW(m:Nat):List Nat:=[n8 (hb m 56),n8 (hb m 48),n8 (hb m 40),n8 (hb m 32),n8 (hb m 24),n8 (hb m 16),n8 (hb m 8),n8 (hb m 0)]
theorem YF{m j s:Nat}(h:j<8)(hs:s=56-8*j):(CW m)[j]? =some (n8 (hb m s)):=by
 subst hs;have:j=0∨j=1∨j=2∨j=3∨j=4∨j=5∨j=6∨j=7:=by omega
 rcases this with rfl|rfl|rfl|rfl|rfl|rfl|rfl|rfl<;>rfl
theorem Js(n:Int)(hn:n≤9223372036854775807)(w:World):Calls prog 137 #[.int .i64 n] w fun e w'=> ∃v,e= .returned v∧Ae w w' v (AR (.mk 2 (B2 (CW n.toNat)) []))∧Bw w w':=by
 go_enter func137,ntmps137
 refine Bz ?_
 refine Em ?_;iterate 11 refine k_k ?_
 refine Bo (α:={x:Nat×Int // x.1≤8∧x.2=56-8*(x.1:Int)}) (fun(x:{x:Nat×Int // x.1≤8∧x.2=56-8*(x.1:Int)}) f=>⟨[.v (.int .i64 n),.v (f 1),.p 2 0,.d 900,.v (.int .i64 x.1.2),.v (f 5),.v (f 6),.v (f 7),.v (f 8),.v (f 9),.v (f 10),.v (f 11),.v (f 12),.v (f 13),.v (f 14),.v (f 15),.v (f 16),.v (f 17),.v (f 18)],AJ [(900,.row x.1.1 1 5 (.exact (((CW n.toNat).take x.1.1).map b8))),(2,.cells [.v (.int .i64 0),.v (.slice none 0 0),.v (.slice none 0 0)] 61)]⟩) (fun x=>8-x.1.1) ?_ (⟨(0,56),by decide,rfl⟩) ?_
 ·rintro⟨⟨j,z⟩,hj,hz⟩ f
  simp only at hj hz;obtain⟨q,h_q⟩: ∃q,decide (z≥0)=q:=⟨_,rfl⟩
  refine CN ?_
  refine k_s (by exact B4 rfl gg rfl rfl h_q) ?_;refine k_k ?_;cases q
  ·refine k_k ?_
   have h8:j=8:=by have:=of_decide_eq_false h_q;omega
   subst h8;have hj8:True:=True.intro;refine As ?_;refine ZF ?_
   refine k_s (by exact Al (D:=AR (.mk 2 (B2 (CW n.toNat)) [])) [900] rfl rfl gg rfl (eo func51) (fun ρ S w' hb hR=>by obtain⟨_,s0⟩:=Lx (id:=900) hR (by simp) rfl;exact YC (bs:=CW n.toNat) w' s0 (by simp[CW]))) ?_;refine k_s (by exact Bh (vl:=[.fn (AN 0) (.d 18),.fn (AN 1) (.d 18),.fn (AN 2) (.d 18)]) [2,18] rfl gg rfl rfl rfl sizeOf61 rfl (fun ρ S w' _ hR=>by obtain⟨c,h1,h2⟩:=Cd (id:=18) hR (by simp) rfl;have hf:=fn3 h1 (CS h2);exact⟨hf.1,hf.2▸HB h2⟩) rfl (by simp)) ?_;refine EP ?_;refine AD (AH results137 (Am rfl rfl underlying61 rfl sizeOf61 rfl)) ?_;intro ρ w' hr;exact⟨_,rfl,Hs 18 hr rfl,hr.1⟩
  ·refine k_k ?_
   have hj2:j<8:=by have:=of_decide_eq_true h_q;omega
   obtain⟨s,hs⟩: ∃s:Nat,s=56-8*j:=⟨_,rfl⟩
   have hzs:z=((s:Nat):Int):=by omega
   iterate 6 refine k_k ?_
   refine k_s (by exact oH (c:=((n.toNat:Nat):Int)) rfl gg rfl rfl (by omega)) ?_;refine k_k ?_;refine k_s (by exact AK (b:= .int .i64 ((s:Nat):Int)) rfl gg rfl (by simp only[nm,seval,hzs]) (fun w=>Vq _ s (by omega) (by omega) _ _ w)) ?_;refine FQ ?_;refine k_s (by exact BL rfl rfl gg rfl (e:=5) (l:=[b8 (n8 (hb n.toNat s))]) rfl (by decide) (fun _=>by kernel_rfl)) ?_;refine Za ?_;iterate 4 refine k_k ?_
   refine k_s (by exact Bu (c:=z-8) rfl gg rfl rfl (by rw[Ah (by omega) (by omega)])) ?_;iterate 2 refine k_k ?_
   have e1:((CW n.toNat).take j).map b8++[b8 (n8 (hb n.toNat s))]=((CW n.toNat).take (j+1)).map b8:=by rw[Im (YF hj2 hs),List.map_append];rfl
   rw[e1];refine⟨⟨(j+1,z-8),by show j+1≤8;omega,by show z-8=56-8*((j+1:Nat):Int);omega⟩,by show 8-(j+1)<8-j;omega,?_⟩;exact(Ar (fun i=>i==0||i==2||i==3||i==4) [15]).trans2 (fun f=>Dk 16 900 (by decide) rfl)
 ·refine(Ar (fun i=>i==0||i==2||i==3||i==4) []).trans2 (fun f=> ?_)
  refine(N1 900 1 5 (.exact []) (fun w=>rfl) (m':=[(2,.cells [.v (.int .i64 0),.v (.slice none 0 0),.v (.slice none 0 0)] 61)]) rfl rfl (fun ρ hv=> ?_) (fun ρ hv=> ?_))
  ·simp[B0,SV.cs,SV.c,hv,Bg]
  ·simp[JG,BQ,Blk.sim]
theorem cf(h8: ∀x∈b,x<256)(hm:b.length≤maxLen)(w:World):Calls prog 156 #[.string (AB b)] w fun e w'=> ∃v,e= .returned v∧Ae w w' v (AR (.mk 12 b []))∧Bw w w':=by
 go_enter func156,ntmps156
 refine Bz ?_
 refine Em ?_;iterate 4 refine k_k ?_
 refine k_s (by exact Tw rfl rfl gg rfl underlying9 underlying23 underlying5 hm h8) ?_;refine k_s (by exact Ji (n:=b.length) (size:=1) (l:=b.map b8) rfl gg rfl rfl (BI rfl) (fun p m q=>Jm 12 p m q)) ?_;refine k_s (by exact Bh (vl:=[.v (.int .i64 12),.d 4,.v (.slice none 0 0)]) [2,4] rfl gg rfl rfl rfl sizeOf61 rfl (fun ρ S w' _ hR=>⟨DC _,by have hh:=Cf (id:=4) hR (by simp) rfl;simp only[SV.cs,SV.c,List.all_cons,List.all_nil,hh.2];rfl⟩) rfl (by simp)) ?_;refine EP ?_;refine AD (AH results156 (Am rfl rfl underlying61 rfl sizeOf61 rfl)) ?_;intro ρ w' hr;refine⟨_,rfl,?_,hr.1⟩;have:=Gl (t:=12) (b:=b) 4 hr rfl;simpa[SV.c,SV.cs] using this
theorem od{e:TypeId}{len:Nat}{pl:List (Nat×Value)}{l:List Value}(_hd:o.dst=some id)(ho:o.op= .buildSlice ty len parts)(hgd:AQ ops o s)
 (hx:CG (parts.toList.map fun x=>(x.1,AE s x.2))=some pl)(hl:l.length=len*size)(hm:len≤maxLen)
 (hb: ∀w,(Instr.buildSlice ty len pl.toArray).run P w= .ok (.slice (some ⟨w.heap.size,0,none⟩) len len) (w.alloc (.cells l.toArray e))):Ev P ops w0 o s ⟨.d id,[(id,.row len size e (.exact l))],[],[id],[]⟩:=
 ⟨by simp[Eff.ok],.inr ⟨hgd,fun ρ S w hb0 hR=> .inl ⟨.slice (some ⟨w.heap.size,0,none⟩) len len,w.alloc (.cells l.toArray e),by
  have h1:(parts.map fun(i,x)=>(i,(s.act ρ).eval x))=pl.toArray:=by
   rw[←Array.toList_inj,←Il hx ρ];simp only[Array.toList_map,List.map_map];exact List.map_congr_left fun x _=>by simp only[Function.comp_apply,AI]
  simp only[execOp,ho];rw[h1,Sem.run_bind,hb w];rfl,_,_,by
  have:=H6 (t:=s.mem) (ρ:=ρ) (S:=S) (val:= .d id) (rd:=[]) (id:=id) (n:=len) (size:=size) (ty:=e) (l:=l) (w:=w) (w':=w.alloc (.cells l.toArray e)) (v:= .slice (some ⟨w.heap.size,0,none⟩) len len) (g:=w.heap.size) hb0.size
   ⟨rfl,rfl,rfl,by simp,fun k hk=>heap_alloc_old w _ hk⟩ (by omega) (.inr ⟨0,len,l.toArray,(0,0),rfl,Nat.le_refl _,heap_alloc_new w _,.inl rfl,Nat.le_refl _,hm,by simp[hl],by simp[←hl]⟩)
  simpa[SV.c] using this⟩⟩⟩
theorem ox(n c:Nat)(p q:Operand)(w:World):(do eqGuard .eql 59 p q (.slice none n c) (.slice none 0 0);binOp .eql 59 (.slice none n c) (.slice none 0 0):Sem Value).run prog w= .ok (.bool true) w:=by
 go_simp
 exact Go.Lib.run_eql_slice_nil_nil w n c underlying59
theorem oy(a:Addr)(n c:Nat)(p q:Operand)(w:World):(do eqGuard .eql 59 p q (.slice (some a) n c) (.slice none 0 0);binOp .eql 59 (.slice (some a) n c) (.slice none 0 0):Sem Value).run prog w= .ok (.bool false) w:=by
 go_simp
 exact Go.Lib.run_eql_slice_some_nil w a n c underlying59
theorem pZ{c:Nat}:Calls prog 97 #[.slice none n c] w fun e w'=> ∃v,e= .returned v∧BN w w' v (0) 3 61 ([])∧Bw w w':=by
 go_enter func97,ntmps97
 refine C6 ?_
 refine k_s (by exact AK (c:= .bool true) rfl gg rfl rfl (fun w=>ox _ _ _ _ w)) ?_;iterate 6 refine k_k ?_
 refine AG ?_;refine AD (AH results97 (AF rfl)) ?_;intro ρ w' hr;exact⟨_,rfl,I1 _ _ _ _,hr.1⟩
theorem pX{a:Addr}{c:Nat}{cs:List Value}(hv:AO w (.slice (some a) n c) n 3 cs S)(hone:cs.all (·.oneCell')=true)(hm:n≤1048576):Calls prog 97 #[.slice (some a) n c] w fun e w'=> ∃v,e= .returned v∧BN w w' v (n) 3 61 (cs)∧Bw w w':=by
 go_enter func97,ntmps97
 refine C6 ?_
 refine k_s (by exact AK (c:= .bool false) rfl gg rfl rfl (fun w=>oy _ _ _ _ _ w)) ?_;iterate 5 refine k_k ?_
 refine k_s (by exact od rfl rfl gg rfl (size:=3) (e:=61) (l:=[]) rfl (by decide) (fun _=>by kernel_rfl)) ?_;refine k_k ?_;refine k_s (by exact Di (n:=0) (size:=3) rfl rfl gg rfl rfl rfl (AW hv) underlying59 aj (by decide) rfl hone (by simp only[maxLen];omega) (by omega) (by have:=Yx hv (by decide) True.intro;omega)) ?_;iterate 2 refine k_k ?_
 refine AG ?_;refine AD (AH results97 (AF rfl)) ?_;intro ρ w' hr;refine⟨(ρ 7).val,rfl,?_,hr.1⟩;have:=B8 (id:=7) hr rfl;simpa using this
theorem pY{cs:List Value}(hv:AO w v n 3 cs S)(hone:cs.all (·.oneCell')=true)(hm:n≤1048576):Calls prog 97 #[v] w fun e w'=> ∃v,e= .returned v∧BN w w' v (n) 3 61 (cs)∧Bw w w':=by
 have hv':=hv;obtain⟨ao,cap,rfl,h1,h2,h3⟩:=hv';cases ao with
 |none=>
  have:cs=[]:=by
   rcases h3 with h3|⟨a,h3,_⟩
   ·exact h3
   ·cases h3
  subst this;have:n=0:=by simp at h2;omega
  subst this;exact pZ w
 |some a=>exact pX w hv hone hm
theorem cu{t:Int}{cs:List Value}(hv:AO w v n 3 cs S)(hone:cs.all (·.oneCell')=true)(hm:n≤1048576):Calls prog 50 #[.int .i64 t,v] w fun e w'=> ∃v,e= .returned (.agg #[.int .i64 t,.slice none 0 0,v])∧BN w w' v n 3 61 cs∧Bw w w':=by
 go_enter func50,ntmps50
 refine Bz ?_
 refine Em ?_;iterate 5 refine k_k ?_
 refine k_s (by exact Cs [] rfl rfl gg rfl (eo func97) (n:=n) (size:=3) (l:=cs) (Yx hv (by decide) True.intro) (fun ρ S w' hb _=>pY w' (A5 hv hb) hone hm)) ?_;refine k_s (by exact oi (n:=n) (size:=3) (l:=cs) rfl gg rfl rfl (BI rfl) (fun p m q=>qh t p m q)) ?_;refine k_s (by exact Bh (vl:=[.v (.int .i64 t),.v (.slice none 0 0),.d 7]) [4,7] rfl gg rfl rfl rfl sizeOf61 rfl (fun ρ S w' _ hR=>⟨DC _,by have hh:=Cf (id:=7) hR (by simp) rfl;simp only[SV.cs,SV.c,List.all_cons,List.all_nil,hh.2];rfl⟩) rfl (by simp)) ?_;refine EP ?_;refine AD (AH results50 (Am rfl rfl underlying61 rfl sizeOf61 rfl)) ?_;intro ρ w' hr;exact⟨(ρ 7).val,by simp[SV.c,SV.cs],B8 (id:=7) hr rfl,hr.1⟩
theorem UE{w:World}{l:List SV}{g i:Nat}{x:Value}(hg:w.heap[g]? =some (CP ρ l ty))(hx:(SV.cs ρ l)[i]? =some x):w.cell? ((⟨g,0,none⟩:Addr).add i)=some x:=by
 rw[A8,List.getElem?_map]at hx;cases h:l[i]? with
 |none=>rw[h]at hx;cases hx
 |some y=>rw[h]at hx;simp only[Option.map_some,Option.some.injEq]at hx;rw[←hx,Bd,Nat.zero_add];exact GK hg h
def dT:Tr:= .mk 48 [] [.mk 2 [5] [],.mk 12 [97,98] []]
def ofV(t:Int)(v:Value):Value:= .agg #[.int .i64 t,.slice none 0 0,v]
theorem cW{w:World}{base:Nat}{S:Nat→Nat→Prop}{m:Mem}(hR:RelOn base ρ S w (restr rd m))(hid:id∈rd)(hm:m id=some (.dat (AR t))): ∃c,SV.c ρ (.agg [.fn (AN 0) (.d id),.fn (AN 1) (.d id),.fn (AN 2) (.d id)])= .agg c.toArray∧DN w (S id) t c:=by
 obtain⟨c,h1,h2⟩:=Cd hR hid hm;exact⟨c,by simp only[SV.c];rw[(fn3 h1 (CS h2)).2],h2⟩
theorem ce{c:List Value}(hok:t.ok)(hx:DN w S t c)(hwt:wt t≤1073741824):
 Calls prog 22 #[.agg c.toArray] w fun e w'=> ∃v,e= .returned (.tuple #[v,.int .i64 (wrT t).2])∧BN w w' v (wrT t).1.length 1 5 ((wrT t).1.map b8)∧Bw w w':=by
 obtain⟨x0,x1,x2,rfl⟩:=DI (CS hx);unfold wrT;obtain⟨h1,h2⟩:=U2 t;cases hr:Ak t 1 with
 |false=>exact sD w hok hx hwt hr
 |true=>
  simp only[cond_true];cases hb:decide ((Aq t).length>2048)with
  |true=>
   have:=h2 (of_decide_eq_true hb);exact sE w hok hx hwt hr this
  |false=>
   have hle:(Aq t).length≤2048:=by have:=of_decide_eq_false hb;omega
   have e:=h1 hle;have:=sC w hok hx hwt hr (by rw[e];omega);rw[e]at this;exact this
theorem EE(h:t.ok): ∀x∈(wrT t).1,x<256:=by
 unfold wrT;cases Ak t 1<;>cases decide ((Aq t).length>2048)<;>simp only[cond_true,cond_false]<;>first|exact UO t h|(intro x hx;cases hx)
theorem GN(t:Tr):(wrT t).1.length≤2048:=by
 unfold wrT;cases hb:decide ((Aq t).length>2048)with
 |true=>cases Ak t 1<;>simp
 |false=>
  have:=of_decide_eq_false hb;cases Ak t 1<;>simp only[cond_true,cond_false,List.length_nil]<;>omega
def tm(t:Tr):Tr:=(N7 t 10 60).1
theorem UG{w:World}{base:Nat}{S:Nat→Nat→Prop}{m:Mem}(id:Nat)(hok:t.ok)(hwt:wt t≤1073741824)(hR:RelOn base ρ S w (restr rd m))(hid:id∈rd)(hm:m id=some (.dat (AR t))):
 Calls prog 22 (SV.cs ρ [.d id]).toArray w fun e w'=> ∃v,e= .returned (.tuple #[v,.int .i64 (wrT t).2])∧BN w w' v (wrT t).1.length 1 5 ((wrT t).1.map b8)∧Bw w w':=by
 obtain⟨c,h1,h2⟩:=Cd hR hid hm;simp only[SV.cs,SV.c,h1];exact ce w hok h2 hwt
theorem U4(t:Tr):(Ak t 1=false∧wrT t=([],2))∨(Ak t 1=true∧(Aq t).length>2048∧wrT t=([],4))∨(Ak t 1=true∧(Aq t).length≤2048∧wrT t=(Aq t,0)):=by
 unfold wrT;cases Ak t 1 with
 |false=>exact .inl ⟨rfl,rfl⟩
 |true=>
  cases h:decide ((Aq t).length>2048)with
  |true=>exact .inr (.inl ⟨rfl,of_decide_eq_true h,rfl⟩)
  |false=>exact .inr (.inr ⟨rfl,by have:=of_decide_eq_false h;omega,rfl⟩)
def two(t1 t2:Tr):Tr:= .mk 48 [] [t1,t2]
theorem pO(h:n<65536):(Ao n).length≤3:=by
 unfold Ao;rw[show decide (n<65536)=true from decide_eq_true h];cases decide (n<128)<;>cases decide (n<256)<;>simp
end Go.Proofs.YtafbhakmkbehiaaGreatDoor
