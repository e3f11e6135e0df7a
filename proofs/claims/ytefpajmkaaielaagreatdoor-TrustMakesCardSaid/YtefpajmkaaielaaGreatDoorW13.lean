import Derived.Lib.BufferMore
import Derived.Test.YtefpajmkaaielaaGreatDoorW11
open Go.Proofs.Tryz
set_option maxHeartbeats 4000000
set_option maxRecDepth 100000
namespace Go.Proofs.YtefpajmkaaielaaGreatDoor
open Go.RowKit Go.Vx
variable(w:World){a:Addr}{parts:Array (Nat×Operand)}{ops:Array Oper}{xs:Array Operand}{ats:Array TypeId}{f:FuncId}{acc b bs r rd:List Nat}{vs:List SV}{ks:List Tr}{id n size:Nat}{ρ:Nat→Nm}{S:Nat→Prop}{o:Oper}{x y:Operand}{ka:Option Addr}{P:Program}{k t:Tr}{s:VS}{v x0 x1 x2:Value}{w0:World}
open Go.Toll (Gw)
theorem FB{α:Type}{l:List α}(h:l.length=3): ∃a b c,l=[a,b,c]:=by
 match l,h with
 | [a,b,c],_=>exact⟨a,b,c,rfl⟩
def n8(n:Nat):Nat:=n %256
theorem pf(n:Nat)(w:World):(convert 3 5 (.int .i64 (n:Nat))).run prog w= .ok (.int .u8 ((n8 n:Nat):Int)) w:=by
 unfold convert
 go_simp
 rw[IntKind.wrap_u8'];rfl
def tb(t:Int):Nat:=(t %256).toNat
theorem YG(t:Int)(w:World):(convert 3 5 (.int .i64 t)).run prog w= .ok (.int .u8 ((tb t:Nat):Int)) w:=by
 unfold convert
 go_simp
 rw[IntKind.wrap_u8'];unfold tb;omega
def hb(n k:Nat):Nat:=n/2^k
theorem S7(n:Nat)(_hn:n<9223372036854775808):BOy .shr 3 (.int .i64 (n:Nat)) (.int .u64 8) (.int .i64 ((hb n 8:Nat):Int)):=by
 intro p q w
 go_simp
 unfold hb;try rfl
theorem cI(n:Nat)(_hn:n<9223372036854775808):BOy .shr 3 (.int .i64 (n:Nat)) (.int .u64 16) (.int .i64 ((hb n 16:Nat):Int)):=by
 intro p q w
 go_simp
 unfold hb;try rfl
def Am(n:Nat):List Nat:=bif decide (n<128)then [n8 n]else bif decide (n<256)then [129,n8 n]else bif decide (n<65536)then [130,n8 (hb n 8),n8 n]else [131,n8 (hb n 16),n8 (hb n 8),n8 n]
theorem oc(n c:Nat):BOy .eql 26 (.slice none n c) (.slice none 0 0) (.bool true):=by
 intro p q w
 go_simp
 exact Go.Lib.run_eql_slice_nil_nil w n c underlying26
theorem od(a:Addr)(n c:Nat):BOy .eql 26 (.slice (some a) n c) (.slice none 0 0) (.bool false):=by
 intro p q w
 go_simp
 exact Go.Lib.run_eql_slice_some_nil w a n c underlying26
theorem Oz:AJ w (.slice none 0 0) 0 1 [] (fun _=>False):=⟨none,0,rfl,Nat.le_refl _,rfl,.inl rfl⟩
theorem pu(n:Nat)(hn:n<9223372036854775808)(w:World):CRy 113 #[.int .i64 (n:Nat)] w ((Am n).length) ((Am n).map b8):=by
 unfold Am;obtain⟨q1,h_q1⟩: ∃p,decide (n<128)=p:=⟨_,rfl⟩
 obtain⟨q2,h_q2⟩: ∃p,decide (n<256)=p:=⟨_,rfl⟩
 obtain⟨q3,h_q3⟩: ∃p,decide (n<65536)=p:=⟨_,rfl⟩
 rw[h_q1,h_q2,h_q3];have h_q1':=(Cw n 128).trans h_q1;have h_q2':=(Cw n 256).trans h_q2;have h_q3':=(Cw n 65536).trans h_q3
 go_enter func113,ntmps113
 refine AO ?_;iterate 9 refine k_g ?_
 refine k_s (by exact Em rfl gg rfl rfl h_q1') ?_;iterate 2 refine k_g ?_
 cases q1
 ·iterate 4 refine k_g ?_
  refine k_s (by exact Em rfl gg rfl rfl h_q2') ?_;iterate 2 refine k_g ?_
  cases q2
  ·iterate 4 refine k_g ?_
   refine k_s (by exact Em rfl gg rfl rfl h_q3') ?_;iterate 2 refine k_g ?_
   cases q3
   ·iterate 5 refine k_g ?_
    refine k_s (by exact AN rfl gg rfl rfl (fun w=>cI _ hn _ _ w)) ?_;refine Gf ?_;refine k_g ?_;refine k_s (by exact AN rfl gg rfl rfl (fun w=>S7 _ hn _ _ w)) ?_;refine Gf ?_;refine k_g ?_;refine Gf ?_;refine k_s (by exact BV rfl rfl gg rfl (e:=5) (l:=[b8 (131),b8 (n8 (hb n 16)),b8 (n8 (hb n 8)),b8 (n8 n)]) rfl (by decide) (fun _=>by kernel_rfl)) ?_;iterate 2 refine k_g ?_
    refine AG ?_;refine AD (AM results113 (AE rfl)) ?_;intro ρ w' hr;exact⟨_,rfl,BR hr rfl,hr.1⟩
   ·iterate 4 refine k_g ?_
    refine k_s (by exact AN rfl gg rfl rfl (fun w=>S7 _ hn _ _ w)) ?_;refine Gf ?_;refine k_g ?_;refine Gf ?_;refine k_s (by exact BV rfl rfl gg rfl (e:=5) (l:=[b8 (130),b8 (n8 (hb n 8)),b8 (n8 n)]) rfl (by decide) (fun _=>by kernel_rfl)) ?_;iterate 2 refine k_g ?_
    refine AG ?_;refine AD (AM results113 (AE rfl)) ?_;intro ρ w' hr;exact⟨_,rfl,BR hr rfl,hr.1⟩
  ·iterate 4 refine k_g ?_
   refine Gf ?_;refine k_s (by exact BV rfl rfl gg rfl (e:=5) (l:=[b8 (129),b8 (n8 n)]) rfl (by decide) (fun _=>by kernel_rfl)) ?_;iterate 2 refine k_g ?_
   refine AG ?_;refine AD (AM results113 (AE rfl)) ?_;intro ρ w' hr;exact⟨_,rfl,BR hr rfl,hr.1⟩
 ·iterate 4 refine k_g ?_
  refine Gf ?_;refine k_s (by exact BV rfl rfl gg rfl (e:=5) (l:=[b8 (n8 n)]) rfl (by decide) (fun _=>by kernel_rfl)) ?_;iterate 2 refine k_g ?_
  refine AG ?_;refine AD (AM results113 (AE rfl)) ?_;intro ρ w' hr;exact⟨_,rfl,BR hr rfl,hr.1⟩
theorem qE{c:Nat}:CRy 94 #[.slice none n c] w (0) ([]):=by
 go_enter func94,ntmps94
 refine AO ?_;iterate 8 refine k_g ?_
 refine k_s (by exact AN (c:= .bool true) rfl gg rfl rfl (fun w=>oc _ _ _ _ w)) ?_;iterate 6 refine k_g ?_
 refine AG ?_;refine AD (AM results94 (AE rfl)) ?_;intro ρ w' hr;exact⟨_,rfl,HG _ _ _ _,hr.1⟩
theorem qD{c:Nat}(hv:AJ w (.slice (some a) n c) bs.length 1 (bs.map b8) S)(hm:bs.length≤1073741824):CRy 94 #[.slice (some a) n c] w (bs.length) (bs.map b8):=by
 go_enter func94,ntmps94
 refine AO ?_;iterate 8 refine k_g ?_
 refine k_s (by exact AN (c:= .bool false) rfl gg rfl rfl (fun w=>od _ _ _ _ _ w)) ?_;iterate 5 refine k_g ?_
 refine k_s (by exact BV rfl rfl gg rfl (e:=5) (l:=[]) rfl (by decide) (fun _=>by kernel_rfl)) ?_;refine k_g ?_;refine k_s (by exact C1 rfl rfl gg rfl rfl rfl (AW hv) underlying26 el5 (by decide) rfl (DG bs) (by simp only[maxLen];omega) (by omega) (by simp)) ?_;iterate 2 refine k_g ?_
 refine AG ?_;refine AD (AM results94 (AE rfl)) ?_;intro ρ w' hr;exact⟨_,rfl,BR (id:=7) hr rfl,hr.1⟩
theorem LM(hv:AJ w v bs.length 1 (bs.map b8) S)(hm:bs.length≤1073741824):CRy 94 #[v] w (bs.length) (bs.map b8):=by
 have hv':=hv;obtain⟨ao,cap,rfl,h1,h2,h3⟩:=hv';cases ao with
 |none=>
  have:bs=[]:=by
   rcases h3 with h3|⟨a,h3,_⟩
   ·simpa using h3
   ·cases h3
  subst this;exact qE w
 |some a=>exact qD w hv hm
theorem nK(n:Nat)(hn:n≤140737488355328)(w:World):CRy 126 #[.slice none 0 0,.int .i64 (n:Nat)] w (0) ([]):=by
 obtain⟨q,h_q⟩: ∃p,decide (n>0)=p:=⟨_,rfl⟩
 have h_q':=(EI n 0).trans h_q
 go_enter func126,ntmps126
 refine AO ?_;iterate 8 refine k_g ?_
 refine M1 ?_;iterate 8 refine k_g ?_
 refine k_s (by refine El gg (fun ρ w=>by simp only[VS.act,SV.c,List.map_cons,List.map_nil];go_simp;exact rfl) (fun _ _=>rfl)) ?_;refine k_g ?_;refine k_s (by exact BM rfl gg rfl underlying26 (AW (Oz w))) ?_;refine k_s (by exact CF (c:=0) rfl gg rfl rfl rfl) ?_;refine k_s (by exact CF (c:=((n:Nat):Int)) rfl gg rfl rfl (by rw[Af (by omega) (by omega)];omega)) ?_;iterate 5 refine k_g ?_
 refine QA ?_;refine k_g ?_;cases q
 ·iterate 7 refine k_g ?_
  refine AG ?_;refine AD (AM results126 (AE rfl)) ?_;intro ρ w' hr
  (first|exact⟨_,rfl,HG _ _ _ _,hr.1⟩|exact⟨_,rfl,BR hr rfl,hr.1⟩)
 ·iterate 4 refine k_g ?_
  refine k_s (by refine El gg (fun ρ w=>by simp only[VS.act,SV.c,List.map_cons,List.map_nil];go_simp;exact rfl) (fun _ _=>rfl)) ?_;refine k_s (by exact Gl (a:=0) (b:=0) rfl gg rfl underlying26 sizeOf5 (AW (Oz w)) rfl rfl (by decide) (by decide) rfl) ?_;refine k_g ?_;refine k_s (by exact ob rfl rfl gg rfl rfl underlying26 underlying3 el5 zeroValue5 rfl (by have:=of_decide_eq_true h_q;omega) hn) ?_;refine k_g ?_;refine k_s (by exact BM rfl gg rfl underlying26 (AW (Oz w))) ?_;refine k_s (by exact oJ (b:=0) rfl rfl gg rfl rfl underlying26 sizeOf5 rfl rfl (Nat.zero_le _) rfl (by simp)) ?_;iterate 7 refine k_g ?_
  refine AG ?_;refine AD (AM results126 (AE rfl)) ?_;intro ρ w' hr
  (first|exact⟨_,rfl,HG _ _ _ _,hr.1⟩|exact⟨_,rfl,BR hr rfl,hr.1⟩)
theorem bz{S:Nat→Nat→Prop}{w:World}{base:Nat}{m:Mem}{l:List SV}{ty:TypeId}(hR:RelOn base ρ S w (restr rd m))(hid:id∈rd)(hm:m id=some (.cells l ty)):AJ w (.slice (some ⟨(ρ id).g,0,none⟩) l.length l.length) l.length 1 (SV.cs ρ l) (fun k=>k=(ρ id).g):=by
 have hg:=(A6 hR hm hid).2;refine⟨_,_,rfl,Nat.le_refl _,by rw[A3];simp,.inr ⟨_,rfl,rfl,fun i x hx=> ?_⟩⟩;rw[A3,List.getElem?_map]at hx;cases h:l[i]? with
 |none=>rw[h]at hx;cases hx
 |some y=>rw[h]at hx;simp only[Option.map_some,Option.some.injEq]at hx;rw[←hx,BX,Nat.zero_add];exact ET hg h
theorem Jv{S:Nat→Nat→Prop}{w:World}{base:Nat}{m:Mem}{ty:TypeId}{l:List Value}(hR:RelOn base ρ S w (restr rd m))(hid:id∈rd)(hm:m id=some (.row n 1 ty (.exact l))): ∃S1,AJ w (ρ id).val n 1 l S1:=by
 obtain⟨xs,h1,h2,h3⟩:=A6 hR hm hid;have h2':xs=l:=h2;subst h2';exact⟨_,DL h3 h1⟩
theorem p9{v0 v1 v2:Value}{n0 n1 n2:Nat}{l0 l1 l2:List Value}{S0 S1 S2:Nat→Prop}(hv:AJ w v 3 1 [v0,v1,v2] S)(h0:AJ w v0 n0 1 l0 S0)(h1:AJ w v1 n1 1 l1 S1)(h2:AJ w v2 n2 1 l2 S2)(a0:l0.all (·.oneCell')=true)(a1:l1.all (·.oneCell')=true)(a2:l2.all (·.oneCell')=true)(hm:n0+n1+n2≤140737488355328):CRy 112 #[v] w (n0+n1+n2) (l0++l1++l2):=by
 have e0:l0.length=n0:=by obtain⟨_,_,_,_,h,_⟩:=h0;simpa using h
 have e1:l1.length=n1:=by obtain⟨_,_,_,_,h,_⟩:=h1;simpa using h
 have e2:l2.length=n2:=by obtain⟨_,_,_,_,h,_⟩:=h2;simpa using h
 go_enter func112,ntmps112
 refine AO ?_;iterate 12 refine k_g ?_
 refine k_s (by exact BM rfl gg rfl underlying32 (AW hv)) ?_;iterate 3 refine k_g ?_
 refine Ce 4 ?_;change VOk _ _ _ _ _;iterate 2 refine k_g ?_
 refine Ix ?_;iterate 8 refine k_g ?_
 refine k_s (by exact BU (k:=0) rfl gg rfl rfl underlying32 sizeOf26 (AW hv) (by decide) (by decide)) ?_;refine I1 ?_;iterate 6 refine k_g ?_
 refine k_s (by exact BM rfl gg rfl underlying26 (AW h0)) ?_;refine k_s (by exact A2 (c:=((n0:Nat):Int)) rfl gg rfl rfl (by rw[Af (by omega) (by omega)];omega)) ?_;iterate 5 refine k_g ?_
 refine M1 ?_;iterate 4 refine k_g ?_
 refine k_s (by exact A2 (c:=1) rfl gg rfl rfl (by decide)) ?_;iterate 4 refine k_g ?_
 refine Ix ?_;iterate 8 refine k_g ?_
 refine k_s (by exact BU (k:=1) rfl gg rfl rfl underlying32 sizeOf26 (AW hv) (by decide) (by decide)) ?_;refine I1 ?_;iterate 6 refine k_g ?_
 refine k_s (by exact BM rfl gg rfl underlying26 (AW h1)) ?_;refine k_s (by exact A2 (c:=((n0+n1:Nat):Int)) rfl gg rfl rfl (by rw[Af (by omega) (by omega)];omega)) ?_;iterate 5 refine k_g ?_
 refine M1 ?_;iterate 4 refine k_g ?_
 refine k_s (by exact A2 (c:=2) rfl gg rfl rfl (by decide)) ?_;iterate 4 refine k_g ?_
 refine Ix ?_;iterate 8 refine k_g ?_
 refine k_s (by exact BU (k:=2) rfl gg rfl rfl underlying32 sizeOf26 (AW hv) (by decide) (by decide)) ?_;refine I1 ?_;iterate 6 refine k_g ?_
 refine k_s (by exact BM rfl gg rfl underlying26 (AW h2)) ?_;refine k_s (by exact A2 (c:=((n0+n1+n2:Nat):Int)) rfl gg rfl rfl (by rw[Af (by omega) (by omega)];omega)) ?_;iterate 5 refine k_g ?_
 refine M1 ?_;iterate 4 refine k_g ?_
 refine k_s (by exact A2 (c:=3) rfl gg rfl rfl (by decide)) ?_;iterate 4 refine k_g ?_
 refine k_s (by exact Em (p:=false) rfl gg rfl rfl (by decide)) ?_;iterate 3 refine k_g ?_
 refine Aq ?_;change VOk _ _ _ _ _;iterate 3 refine k_g ?_
 refine k_s (by exact Cs [] rfl rfl gg rfl (eo func126) (n:=0) (l:=[]) rfl (fun ρ S w' hb _=>nK (n0+n1+n2) hm w')) ?_;iterate 6 refine k_g ?_
 refine k_s (by exact BM rfl gg rfl underlying32 (AW hv)) ?_;iterate 3 refine k_g ?_
 refine Ce 4 ?_;change VOk _ _ _ _ _;iterate 2 refine k_g ?_
 refine Ix ?_;iterate 8 refine k_g ?_
 refine k_s (by exact BU (k:=0) rfl gg rfl rfl underlying32 sizeOf26 (AW hv) (by decide) (by decide)) ?_;refine I1 ?_;iterate 5 refine k_g ?_
 refine k_s (by exact C1 rfl rfl gg rfl rfl rfl (AW h0) underlying26 el5 (by decide) (by simp) a0 (by simp only[maxLen];omega) (by omega) (by simp[e0])) ?_;iterate 3 refine k_g ?_
 refine k_s (by exact A2 (c:=1) rfl gg rfl rfl (by decide)) ?_;iterate 2 refine k_g ?_
 refine VOk.weak (DI 33 901 (by decide) rfl) ?_;intro _;simp only[SV.renL,SV.ren,E6,Blk.ren,seval];iterate 2 refine k_g ?_
 refine Ix ?_;iterate 8 refine k_g ?_
 refine k_s (by exact BU (k:=1) rfl gg rfl rfl underlying32 sizeOf26 (AW hv) (by decide) (by decide)) ?_;refine I1 ?_;iterate 5 refine k_g ?_
 refine k_s (by exact C1 rfl rfl gg rfl rfl rfl (AW h1) underlying26 el5 (by decide) (by simp[e0]) a1 (by simp only[maxLen];omega) (by omega) (by simp[e1])) ?_;iterate 3 refine k_g ?_
 refine k_s (by exact A2 (c:=2) rfl gg rfl rfl (by decide)) ?_;iterate 2 refine k_g ?_
 refine VOk.weak (DI 33 902 (by decide) rfl) ?_;intro _;simp only[SV.renL,SV.ren,E6,Blk.ren,seval];iterate 2 refine k_g ?_
 refine Ix ?_;iterate 8 refine k_g ?_
 refine k_s (by exact BU (k:=2) rfl gg rfl rfl underlying32 sizeOf26 (AW hv) (by decide) (by decide)) ?_;refine I1 ?_;iterate 5 refine k_g ?_
 refine k_s (by exact C1 rfl rfl gg rfl rfl rfl (AW h2) underlying26 el5 (by decide) (by simp[e0,e1]) a2 (by simp only[maxLen];omega) (by omega) (by simp[e2])) ?_;iterate 3 refine k_g ?_
 refine k_s (by exact A2 (c:=3) rfl gg rfl rfl (by decide)) ?_;iterate 4 refine k_g ?_
 refine k_s (by exact Em (p:=false) rfl gg rfl rfl (by decide)) ?_;iterate 3 refine k_g ?_
 refine Aq ?_;change VOk _ _ _ _ _;iterate 5 refine k_g ?_
 refine AG ?_;refine AD (AM results112 (AE rfl)) ?_;intro ρ w' hr;exact⟨_,rfl,BR (id:=33) hr rfl,hr.1⟩
mutual
def CI:Tr→List Nat
 | .mk t b ks=>[tb t]++Am (wk b ks).length++wk b ks
def wk:List Nat→List Tr→List Nat
 |acc,[]=>acc
 |acc,k::ks=>bif decide (acc.length>2048)then acc else wk (acc++CI k) ks
end
mutual
def wt:Tr→Nat
 | .mk _ b ks=>b.length+wts ks+10
def wts:List Tr→Nat
 | []=>0
 |k::ks=>wt k+wts ks
end
theorem Q4(n:Nat):(Am n).length≤4:=by
 unfold Am;cases decide (n<128)<;>cases decide (n<256)<;>cases decide (n<65536)<;>simp
mutual
theorem R5: ∀t:Tr,(CI t).length≤wt t
 | .mk t b ks=>by
   have h1:=SA ks b;have h2:=Q4 (wk b ks).length;simp only[CI,wt,List.length_append,List.length_singleton];omega
theorem SA: ∀(ks:List Tr) (acc:List Nat),(wk acc ks).length≤acc.length+wts ks
 | [],acc=>by simp[wk,wts]
 |k::ks,acc=>by
  have h1:=R5 k;have h2:=SA ks (acc++CI k);simp only[wk,wts];rw[List.length_append]at h2;cases decide (acc.length>2048)with
  |true=>simp only[cond_true];omega
  |false=>simp only[cond_false];omega
end
theorem OD(h:decide (acc.length>2048)=true):wk acc (k::ks)=acc:=by simp only[wk,h,cond_true]
theorem OE(h:decide (acc.length>2048)=false):wk acc (k::ks)=wk (acc++CI k) ks:=by simp only[wk,h,cond_false]
theorem bs3(v0 v1 v2:Value)(w:World)(h0:v0.cells= #[v0])(h1:v1.cells= #[v1])(h2:v2.cells= #[v2]):(Instr.buildSlice 32 3 #[(0,v0),(1,v1),(2,v2)]).run prog w= .ok (.slice (some ⟨w.heap.size,0,none⟩) 3 3) (w.alloc (.cells #[v0,v1,v2] 26)):=by
 have hz: ∀w,(zeroValue 26).run prog w= .ok (.slice none 0 0) w:=zeroValue26;have hs: ∀w,(Go.sizeOf 26).run prog w= .ok 1 w:=sizeOf26;unfold Instr.buildSlice;have hzc:Value.cells (.slice none 0 0)= #[.slice none 0 0]:=rfl;simp[run_underlying underlying32,hs,hz,Instr.fill,h0,h1,h2,hzc,newRow,newObj];rw[show(Array.map (fun x=>([Value.slice none 0 0][x %1]?).getD default) (Array.range 3))= #[.slice none 0 0,.slice none 0 0,.slice none 0 0] from by kernel_rfl];rfl
def Rf(t:Tr):Prop:= ∀(xs:List Value) (w:World) (S:Nat→Prop),DN w S t xs→wt t≤1073741824→CRy 80 #[.agg xs.toArray] w ((CI t).length) ((CI t).map b8)
theorem MD{w:World}{l:List Value}(h:AJ w v n size l S): ∃a c,v= .slice a n c:=by obtain⟨a,c,h,_⟩:=h;exact⟨a,c,h⟩
theorem Zn{t:Int}{ba:Option Addr}{bc kc:Nat}{cs:List Value}(hih: ∀k∈ks,Rf k)(hbv:AJ w (.slice ba b.length bc) b.length 1 (b.map b8) S)(hv:AJ w (.slice ka ks.length kc) ks.length 3 cs S)(hn:DNs w S ks cs)(hks:ks.length≤1073741824)(hwt:b.length+wts ks≤1073741824){out:List Nat}(hout:[tb t]++Am (wk b ks).length++wk b ks=out):CRy 80 #[.agg #[.int .i64 t,.slice ba b.length bc,.slice ka ks.length kc]] w (out.length) (out.map b8):=by
 go_enter func80,ntmps80
 refine AO ?_;iterate 9 refine k_g ?_
 refine k_s (by exact Cs [] rfl rfl gg rfl (eo func94) (n:=b.length) (l:=b.map b8) (by simp) (fun ρ S w' hb _=>LM w' (Aa hbv hb) (by omega))) ?_;iterate 7 refine k_g ?_
 refine k_s (by exact BM rfl gg rfl underlying106 (AW hv)) ?_;iterate 3 refine k_g ?_
 refine B7 (α:={x:Nat×List Nat // x.1≤ks.length∧wk b ks=wk x.2 (ks.drop x.1)∧x.2.length+wts (ks.drop x.1)≤b.length+wts ks}) (fun(x:{x:Nat×List Nat // x.1≤ks.length∧wk b ks=wk x.2 (ks.drop x.1)∧x.2.length+wts (ks.drop x.1)≤b.length+wts ks}) f=>⟨.v (f 0):: .p 1 0:: .v (.slice none 0 0):: .d 900::fv f 6 4 (.v (.slice ka ks.length kc):: .v (.int .i64 (ks.length:Nat)):: .v (.int .i64 (x.1.1:Nat))::fv f 21 13 []),AK [(900,.row x.1.2.length 1 5 (.exact (x.1.2.map b8))),(1,.cells [.v (.int .i64 t),.v (.slice ba b.length bc),.v (.slice ka ks.length kc)] 108)]⟩) (fun x=>ks.length-x.1.1) ?_ (⟨(0,b),Nat.zero_le _,rfl,Nat.le_refl _⟩) ?_
 ·rintro⟨⟨i,acc⟩,hi,hgo,hsz⟩ f
  simp only at hi hgo hsz;obtain⟨q,h_q⟩: ∃q,decide ((i:Int)<(ks.length:Int))=q:=⟨_,rfl⟩
  change VOk _ _ _ _ _;simp only[fv,Nat.reduceAdd];iterate 2 refine k_g ?_
  refine I0 ?_;iterate 2 refine k_g ?_
  cases q
  ·refine k_g ?_
   have hge:ks.length≤i:=by have:=of_decide_eq_false h_q;omega
   have hfin:wk b ks=acc:=by rw[hgo,List.drop_eq_nil_of_le hge];rfl
   refine Aq ?_;change VOk _ _ _ _ _;iterate 4 refine k_g ?_
   refine k_s (by exact A5 rfl gg rfl (fun w=>YG _ w)) ?_;refine WG ?_;refine k_g ?_;refine EM ?_;refine WW ?_;refine k_g ?_;refine V8 ?_;refine Vv ?_;iterate 2 refine k_g ?_
   refine AG ?_;refine AD (AM results80 (AE rfl)) ?_;intro ρ w' hr;rw[hfin]at hout;have e1:1+(Am acc.length).length+acc.length=out.length:=by rw[←hout];simp;omega
   have e2:[b8 (tb t)]++(Am acc.length).map b8++acc.map b8=out.map b8:=by rw[←hout];simp
   rw[←e1,←e2];exact⟨_,rfl,BR (id:=33) hr rfl,hr.1⟩
  ·refine k_g ?_
   have hlt:i<ks.length:=by have:=of_decide_eq_true h_q;omega
   obtain⟨kk,hk⟩:=Gh hlt;have hwl:=R5 kk;have hwk:wt kk+wts (ks.drop (i+1))=wts (ks.drop i):=by rw[Di hk,wts]
   obtain⟨x,hx,hdn⟩:=LX hn hk;obtain⟨t',b',ks',ek⟩: ∃t b ks,kk=Tr.mk t b ks:=by cases kk with|mk t b ks=>exact⟨t,b,ks,rfl⟩
   have hdn':=hdn;rw[ek]at hdn';simp only[DN]at hdn';obtain⟨bv',kv',cs',ex,e1,e2,_⟩:=hdn';obtain⟨a1,c1,ebv⟩:=MD e1;obtain⟨a2,c2,ekv⟩:=MD e2;subst ebv ekv;subst ex;obtain⟨q2,h_q2⟩: ∃q2,decide (acc.length>2048)=q2:=⟨_,rfl⟩
   have h_q2':=(EI acc.length 2048).trans h_q2;iterate 5 refine k_g ?_
   refine k_s (by exact BU (k:=i) rfl gg rfl rfl underlying106 sizeOf108 (AW hv) (hlt) (by decide)) ?_;refine k_s (by exact NN rfl gg rfl underlying108 rfl sizeOf108 (AW hv) (hx) rfl (by decide)) ?_;iterate 7 refine k_g ?_
   refine EM ?_;refine k_s (by exact Bf rfl gg rfl rfl h_q2') ?_;refine k_g ?_;cases q2
   ·iterate 5 refine k_g ?_
    refine k_s (by exact Cs [] rfl rfl gg rfl (eo func80) (n:=(CI kk).length) (l:=(CI kk).map b8) (by simp) (fun ρ S w' hb _=>hih kk (List.mem_of_getElem? hk) _ w' _ (Dk hb hdn) (by omega))) ?_;refine k_s (by exact C1 rfl rfl gg rfl rfl rfl (BI rfl) underlying26 el5 (by decide) (by simp) (DG _) (by simp only[maxLen];omega) (by omega) (by simp)) ?_;iterate 3 refine k_g ?_
    refine FG ?_;iterate 2 refine k_g ?_
    obtain⟨acc',hacc⟩: ∃acc',acc++CI kk=acc':=⟨_,rfl⟩
    have hl2:acc.length+(CI kk).length=acc'.length:=by rw[←hacc,List.length_append]
    have hm2:acc.map b8++(CI kk).map b8=acc'.map b8:=by rw[←hacc,List.map_append]
    rw[hl2,hm2];refine⟨⟨(i+1,acc'),by show i+1≤ks.length;omega,by show wk b ks=wk acc' (ks.drop (i+1));rw[hgo,Di hk,OE h_q2,hacc],by show acc'.length+wts (ks.drop (i+1))≤b.length+wts ks;rw[Di hk,wts]at hsz;omega⟩,by show ks.length-(i+1)<ks.length-i;omega,?_⟩;exact(Al (fun i=>i==1||i==2||i==3||i==10||i==11||i==12) [5,21]).trans2 (fun f=>DI 22 900 (by decide) rfl)
   ·refine k_g ?_
    have hfin:wk b ks=acc:=by rw[hgo,Di hk,OD h_q2]
    refine Aq ?_;change VOk _ _ _ _ _;iterate 4 refine k_g ?_
    refine k_s (by exact A5 rfl gg rfl (fun w=>YG _ w)) ?_;refine WG ?_;refine k_g ?_;refine EM ?_;refine WW ?_;refine k_g ?_;refine V8 ?_;refine Vv ?_;iterate 2 refine k_g ?_
    refine AG ?_;refine AD (AM results80 (AE rfl)) ?_;intro ρ w' hr;rw[hfin]at hout;have e1:1+(Am acc.length).length+acc.length=out.length:=by rw[←hout];simp;omega
    have e2:[b8 (tb t)]++(Am acc.length).map b8++acc.map b8=out.map b8:=by rw[←hout];simp
    rw[←e1,←e2];exact⟨_,rfl,BR (id:=33) hr rfl,hr.1⟩
 ·exact(Al (fun i=>i==1||i==2||i==3||i==10||i==11||i==12) []).trans2 (fun f=>DI 8 900 (by decide) rfl)
mutual
theorem R4: ∀t:Tr,t.ok→Rf t
 | .mk t b ks,h=>fun xs w S hx hwt=>by
   simp only[Tr.ok]at h;simp only[DN]at hx;obtain⟨bv,kv,cs,rfl,h2,h3,h4⟩:=hx;obtain⟨a1,c1,rfl⟩:=MD h2;obtain⟨a2,c2,rfl⟩:=MD h3;simp only[wt]at hwt;exact Zn w (R3 ks h.2.2.2) h2 h3 h4 (by omega) (by omega) rfl
theorem R3: ∀ks:List Tr,oks ks→ ∀k∈ks,Rf k
 | [],_=>fun k hk=>by cases hk
 |k0::ks,h=>fun k hk=>by
  simp only[oks]at h;rcases List.mem_cons.1 hk with e|hk
  ·exact e▸R4 k0 h.1
  ·exact R3 ks h.2 k hk
end
theorem uI(hok:t.ok)(hx:DN w S t [x0,x1,x2])(_hwt:wt t≤1073741824)(hr0:Ag t 1=false):Calls prog 46 #[.agg #[x0,x1,x2]] w fun e w'=> ∃v,e= .returned (.tuple #[v,.int .i64 2])∧BJ w w' v (0) 1 5 ([])∧Bw w w':=by
 go_enter func46,ntmps46
 refine AO ?_;iterate 10 refine k_g ?_
 refine k_s (by exact Ah (v:= .bool false) rfl gg rfl (eo func79) (fun w' hb=>hr0▸MG t hok 1 _ w' _ (by omega) (Dk hb hx))) ?_;iterate 8 refine k_g ?_
 refine AG ?_;refine AD (Av results46 (AE rfl) (AE rfl)) ?_;intro ρ w' hr;exact⟨_,rfl,HG _ _ _ _,hr.1⟩
theorem uJ(hok:t.ok)(hx:DN w S t [x0,x1,x2])(hwt:wt t≤1073741824)(hr0:Ag t 1=true)(hbig:(CI t).length>2048):Calls prog 46 #[.agg #[x0,x1,x2]] w fun e w'=> ∃v,e= .returned (.tuple #[v,.int .i64 4])∧BJ w w' v (0) 1 5 ([])∧Bw w w':=by
 go_enter func46,ntmps46
 refine AO ?_;iterate 10 refine k_g ?_
 refine WE ?_;iterate 7 refine k_g ?_
 refine WR ?_;iterate 6 refine k_g ?_
 refine EM ?_;refine V5 ?_;iterate 7 refine k_g ?_
 refine AG ?_;refine AD (Av results46 (AE rfl) (AE rfl)) ?_;intro ρ w' hr;exact⟨_,rfl,HG _ _ _ _,hr.1⟩
theorem uH(hok:t.ok)(hx:DN w S t [x0,x1,x2])(hwt:wt t≤1073741824)(hr0:Ag t 1=true)(hbig: ¬(CI t).length>2048):Calls prog 46 #[.agg #[x0,x1,x2]] w fun e w'=> ∃v,e= .returned (.tuple #[v,.int .i64 0])∧BJ w w' v ((CI t).length) 1 5 ((CI t).map b8)∧Bw w w':=by
 go_enter func46,ntmps46
 refine AO ?_;iterate 10 refine k_g ?_
 refine WE ?_;iterate 7 refine k_g ?_
 refine WR ?_;iterate 6 refine k_g ?_
 refine EM ?_;refine Ki ?_;iterate 9 refine k_g ?_
 refine AG ?_;refine AD (Av results46 (AE rfl) (AE rfl)) ?_;intro ρ w' hr;exact⟨_,rfl,BR (id:=9) hr rfl,hr.1⟩
mutual
def AF:Tr→List Nat
 | .mk t b ks=>[tb t]++Am (bb b ks).length++bb b ks
def bb:List Nat→List Tr→List Nat
 |acc,[]=>acc
 |acc,k::ks=>bb (acc++AF k) ks
end
mutual
theorem Nq: ∀t:Tr,(AF t).length≤wt t
 | .mk t b ks=>by
   have h1:=Yu ks b;have h2:=Q4 (bb b ks).length;simp only[AF,wt,List.length_append,List.length_singleton];omega
theorem Yu: ∀(ks:List Tr) (acc:List Nat),(bb acc ks).length≤acc.length+wts ks
 | [],acc=>by simp[bb,wts]
 |k::ks,acc=>by
  have h1:=Nq k;have h2:=Yu ks (acc++AF k);simp only[bb,wts];rw[List.length_append]at h2;omega
end
theorem Ma(n:Nat):n8 n<256:=by unfold n8;omega
theorem aY(t:Int):tb t<256:=by unfold tb;omega
theorem py(n:Nat): ∀x∈Am n,x<256:=by
 unfold Am;have h1:=Ma n;have h2:=Ma (hb n 8);have h3:=Ma (hb n 16);cases decide (n<128)<;>cases decide (n<256)<;>cases decide (n<65536)<;>simp<;>omega
mutual
theorem Yd: ∀t:Tr,t.ok→ ∀x∈AF t,x<256
 | .mk t b ks,h=>fun x hx=>by
   simp only[Tr.ok]at h;simp only[AF,List.mem_append,List.mem_singleton]at hx;rcases hx with(hx|hx)|hx
   ·rw[hx];exact aY t
   ·exact py _ x hx
   ·exact Yt ks h.2.2.2 b h.1 x hx
theorem Yt: ∀ks:List Tr,oks ks→ ∀acc:List Nat,(∀x∈acc,x<256)→ ∀x∈bb acc ks,x<256
 | [],_=>fun acc h x hx=>h x hx
 |k::ks,h=>fun acc ha x hx=>by
  simp only[oks]at h;simp only[bb]at hx;exact Yt ks h.2 (acc++AF k) (fun y hy=>(List.mem_append.1 hy).elim (ha y) (Yd k h.1 y)) x hx
end
theorem Yv: ∀(ks:List Tr) (acc:List Nat),acc.length≤(bb acc ks).length
 | [],acc=>Nat.le_refl _
 |k::ks,acc=>by
  have:=Yv ks (acc++AF k);rw[List.length_append]at this;simp only[bb];omega
theorem SB: ∀(ks:List Tr) (acc:List Nat),acc.length≤(wk acc ks).length
 | [],acc=>by simp[wk]
 |k::ks,acc=>by
  have:=SB ks (acc++CI k);rw[List.length_append]at this;cases h:decide (acc.length>2048)with
  |true=>rw[OD h];exact Nat.le_refl _
  |false=>rw[OE h];omega
mutual
theorem R6: ∀t:Tr,((AF t).length≤2048→CI t=AF t)∧(2048<(AF t).length→2048<(CI t).length)
 | .mk t b ks=>by
   obtain⟨h1,h2⟩:=R9 ks b;by_cases h:(bb b ks).length≤2048
   ·have e:CI (.mk t b ks)=AF (.mk t b ks):=by simp only[CI,AF,h1 h]
    exact⟨fun _=>e,fun h=>by rw[e];exact h⟩
   ·refine⟨fun hh=> ?_,fun _=> ?_⟩
    ·simp only[AF,List.length_append]at hh;omega
    ·have:=h2 (by omega)
     simp only[CI,List.length_append];omega
theorem R9: ∀(ks:List Tr) (acc:List Nat),((bb acc ks).length≤2048→wk acc ks=bb acc ks)∧(2048<(bb acc ks).length→2048<(wk acc ks).length)
 | [],acc=>⟨fun _=>by simp[wk,bb],fun h=>by simpa[wk,bb] using h⟩
 |k::ks,acc=>by
  obtain⟨h1,h2⟩:=R6 k;obtain⟨h3,h4⟩:=R9 ks (acc++AF k);have g1:=Yv ks (acc++AF k);rw[List.length_append]at g1;simp only[bb];by_cases ha:decide (acc.length>2048)=true
  ·rw[OD ha]
   have:=of_decide_eq_true ha;exact⟨fun h=>by omega,fun _=>this⟩
  ·have ha:=by simpa using ha
   have ha':decide (acc.length>2048)=false:=decide_eq_false (by omega);rw[OE ha'];by_cases hk:(AF k).length≤2048
   ·rw[h1 hk];exact⟨h3,h4⟩
   ·refine⟨fun h=>by omega,fun _=> ?_⟩
    have g2:=SB ks (acc++CI k);rw[List.length_append]at g2;have:=h2 (by omega);omega
end
theorem MU: ∀{ks:List Tr},oks ks→ ∀{i:Nat} {k:Tr},ks[i]? =some k→k.ok
 | [],_,_,_,h=>by cases h
 |k0::ks,h,i,k,hk=>by
  simp only[oks]at h;cases i with
  |zero=>simp only[List.getElem?_cons_zero,Option.some.injEq]at hk;exact hk▸h.1
  |succ i=>exact MU h.2 (i:=i) (by simpa using hk)
def wrT(t:Tr):List Nat×Int:=bif Ag t 1 then(bif decide ((AF t).length>2048)then([],4)else(AF t,0))else([],2)
mutual
theorem Zc{w w':World}{S:Nat→Prop}(hb: ∀k,S k→w'.heap[k]? =w.heap[k]?): ∀{t:Tr} {xs:List Value},DN w S t xs→DN w' S t xs
 | .mk t b ks,xs,h=>by
   simp only[DN]at h⊢;obtain⟨bv,kv,cs,h1,h2,h3,h4⟩:=h;exact⟨bv,kv,cs,h1,h2.keep hb,h3.keep hb,Rv hb h4⟩
theorem Rv{w w':World}{S:Nat→Prop}(hb: ∀k,S k→w'.heap[k]? =w.heap[k]?): ∀{ks:List Tr} {xs:List Value},DNs w S ks xs→DNs w' S ks xs
 | [],xs,h=>by simp only[DNs]at h ⊢; exact h
 |k::ks,xs,h=>by
  simp only[DNs]at h⊢;obtain⟨x,y,h1,h2,h3⟩:=h;exact⟨x,y,h1,Zc hb h2,Rv hb h3⟩
end
theorem IR{w:World}{l:List Value}{S':Nat→Prop}(h:AJ w v n size l S)(hs: ∀k,S k→S' k):AJ w v n size l S':=by
 obtain⟨ao,cap,h1,h2,h3,h4⟩:=h;exact⟨ao,cap,h1,h2,h3,h4.imp id fun⟨g,a,b,c⟩=>⟨g,a,hs _ b,c⟩⟩
mutual
theorem Rw{w:World}{S S':Nat→Prop}(hs: ∀k,S k→S' k): ∀{t:Tr} {xs:List Value},DN w S t xs→DN w S' t xs
 | .mk t b ks,xs,h=>by
   simp only[DN]at h⊢;obtain⟨bv,kv,cs,h1,h2,h3,h4⟩:=h;exact⟨bv,kv,cs,h1,IR h2 hs,IR h3 hs,JZ hs h4⟩
theorem JZ{w:World}{S S':Nat→Prop}(hs: ∀k,S k→S' k): ∀{ks:List Tr} {xs:List Value},DNs w S ks xs→DNs w S' ks xs
 | [],xs,h=>by simp only[DNs]at h ⊢; exact h
 |k::ks,xs,h=>by
  simp only[DNs]at h⊢;obtain⟨x,y,h1,h2,h3⟩:=h;exact⟨x,y,h1,Rw hs h2,JZ hs h3⟩
end
theorem Zb{w:World}{S:Nat→Prop}{k:Tr}{y:List Value}(h:DN w S k y): ∀{ks:List Tr} {xs:List Value},DNs w S ks xs→DNs w S (ks++[k]) (xs++y)
 | [],xs,h1=>by
   simp only[DNs]at h1;subst h1;simp only[List.nil_append,DNs];exact⟨y,[],by simp,h,rfl⟩
 |k0::ks,xs,h1=>by
  simp only[DNs]at h1;obtain⟨x,z,rfl,h2,h3⟩:=h1;simp only[List.cons_append,DNs];exact⟨x,z++y,by simp,h2,Zb h h3⟩
theorem FR{w:World}{xs:List Value}(h:DN w S t xs):xs.all (·.oneCell')=true:=by
 cases t with
 |mk t b ks=>
  simp only[DN]at h;obtain⟨bv,kv,cs,rfl,⟨_,_,rfl,_⟩,⟨_,_,rfl,_⟩,_⟩:=h;rfl
def AQ(t:Tr):Dat:=⟨fun xs w S=> ∃c,xs=[.agg c.toArray]∧DN w S t c,fun h hk=>by obtain⟨c,h1,h2⟩:=h;exact⟨c,h1,Zc hk h2⟩⟩
def NZ(ks:List Tr):Dat:=⟨fun xs w S=>DNs w S ks xs,fun h hk=>Rv hk h⟩
theorem CY{w:World}{base:Nat}{S:Nat→Nat→Prop}{m:Mem}(hR:RelOn base ρ S w (restr rd m))(hid:id∈rd)(hm:m id=some (.dat (AQ t))):
 ∃c,(ρ id).val= .agg c.toArray∧DN w (S id) t c:=by
 obtain⟨c,h1,h2⟩:=Fb hR hid hm;simp only[List.cons.injEq,and_true]at h1;exact⟨c,h1,h2⟩
theorem fn3{c:List Value}(h:(ρ id).val= .agg c.toArray)(hl:c.length=3):((SV.d id).c ρ).cells.toList=SV.cs ρ [.fn (AU 0) (.d id),.fn (AU 1) (.d id),.fn (AU 2) (.d id)]∧SV.cs ρ [.fn (AU 0) (.d id),.fn (AU 1) (.d id),.fn (AU 2) (.d id)]=c:=by
 have h1:((ρ id).val).cells.size=3:=by rw[h];simpa[Value.cells] using hl
 have h2:=qL h1;have h3:((SV.d id).c ρ).cells.toList=SV.cs ρ [.fn (AU 0) (.d id),.fn (AU 1) (.d id),.fn (AU 2) (.d id)]:=h2;refine⟨h3,h3.symm.trans ?_⟩;show((ρ id).val).cells.toList=c;rw[h];simp[Value.cells]
theorem rM(v:Value)(w:World)(h:v.cells.size=3):(Instr.buildSlice 106 1 #[(0,v)]).run prog w= .ok (.slice (some ⟨w.heap.size,0,none⟩) 1 1) (w.alloc (.cells v.cells 108)):=by
 obtain⟨a,b,c,hl⟩:=FB (l:=v.cells.toList) (by simpa using h);have hl':v.cells= #[a,b,c]:=by apply Array.ext';rw[hl]
 have hz: ∀w,(zeroValue 108).run prog w= .ok (.agg #[.int .i64 0,.slice none 0 0,.slice none 0 0]) w:=zeroValue108;have hs: ∀w,(Go.sizeOf 108).run prog w= .ok 3 w:=sizeOf108;unfold Instr.buildSlice;have hzc:Value.cells (.agg #[.int .i64 0,.slice none 0 0,.slice none 0 0])= #[.int .i64 0,.slice none 0 0,.slice none 0 0]:=rfl;have hr:Array.range 3= #[0,1,2]:=by decide
 simp[run_underlying underlying106,hs,hz,Instr.fill,hl',hzc,newRow,newObj,hr];rfl
theorem Hs(t:Int)(p:Option Addr)(m q:Nat):prog.built 108 [(0,.int .i64 t),(1,.slice p m q)]=some #[.int .i64 t,.slice p m q,.slice none 0 0]:=by kernel_rfl
theorem CG(l:List SV):((SV.agg l).c ρ).cells.toList=SV.cs ρ l:=by simp[SV.c,Value.cells]
mutual
def Ln:Tr→Nat→Nat→Tr×Nat
 | .mk t b ks,d,l=>(.mk t (b.take 2100) (Lm ks 0 d (l-1)).1,(Lm ks 0 d (l-1)).2)
def Lm:List Tr→Nat→Nat→Nat→List Tr×Nat
 | [],_,_,l=>([],l)
 |k::ks,i,d,l=>bif decide (i<25) && (decide (d>1) && decide (l>0))then((Ln k (d-1) l).1::(Lm ks (i+1) d (Ln k (d-1) l).2).1,(Lm ks (i+1) d (Ln k (d-1) l).2).2)else([],l)
end
theorem np{t:Array TypeId}{a b c:Int}(ho:o.op= .call {callee:= .builtin .max,args:= #[x,y],argTypes:=t})(hgd:AR ops o s)(hx:AC s x= .v (.int .i64 a))(hy:AC s y= .v (.int .i64 b))(hc:max a b=c):
 Ev P ops w0 o s ⟨.v (.int .i64 c),[],[],[],[]⟩:=
 Ev.run _ _ hgd fun ρ S w hb hR=>by
  have e1:=AH s ρ x;rw[hx]at e1;have e2:=AH s ρ y;rw[hy]at e2;simp only[SV.c]at e1 e2;subst hc;unfold execOp;simp only[ho,resolve,invoke,builtin,Sem.run_bind,Sem.run_pure,Result.andThen_ok,List.map_toArray,List.map_cons,List.map_nil,e1,e2,SV.c];by_cases h:a≤b
  ·simp[Builtin.max_,Builtin.max2,Int.max_eq_right h]
   omega
  ·simp[Builtin.max_,Builtin.max2,Int.max_eq_left (by omega:b≤a)]
   omega
theorem oP{ty:TypeId}(D:Dat)(g:Value→Value)(rd:List Nat)(_hd:o.dst=some id)(ho:o.op= .call {callee:= .value (.func f),args:=xs,argTypes:=ats})(hgd:AR ops o s)
 (hx:xs.toList.map (AC s)=vs)(he: ∀args w,(callFunc f args).run P w= .ok (.enter f args) w)
 (hc: ∀ρ S w,Bw w0 w→RelOn w0.heap.size ρ S w (restr rd s.mem)→Calls P f (SV.cs ρ vs).toArray w fun e w'=> ∃v l S',e= .returned (g v)∧l.length=n*size∧BJ w w' v n size ty l∧D.holds l w S'∧(∀k,S' k→ ∃j∈rd,(s.mem j).isSome∧S j k)∧Bw w w'):Ev P ops w0 o s ⟨.fn g (.d id),[(id,.row n size ty D)],[],[id],rd⟩:=
 ⟨by simp[Eff.ok],.inr ⟨hgd,fun ρ S w hb hR=> .inr (.inr ⟨f,(SV.cs ρ vs).toArray,by
  obtain⟨dst,op,type,pos,after,guard⟩:=o;simp only at ho;subst ho;rw[execOp_call_go,Eu,hx,←A3]
  simpa using he (SV.cs ρ vs).toArray w,(hc ρ S w hb hR).mono fun e w' ⟨v,l,S',h1,hl,⟨q,h2⟩,h3,h4,h5⟩=>⟨_,h1,_,_,by
   have hin: ∀j,j∈rd→restr rd s.mem j=s.mem j:=fun j hj=>by unfold restr;rw[if_pos hj]
   have hlt: ∀k,S' k→k<w.heap.size:=fun k hk=>by
    obtain⟨j,h6,h7,h8⟩:=h4 k hk;exact hR.lt j k (by rw[hin j h6];exact h7) h8
   have:=Cu (base:=w0.heap.size) (t:=s.mem) (ρ:=ρ) (S:=S) (w:=w) (w':=w') (val:= .fn g (.d id)) (rd:=rd) (up:=[]) (id:=id) (b:= .row n size ty D) (m:=⟨q,v⟩) (S1:=S')
    h5.os h5.tape h5.output h5.size (fun k hk _=>h5.block k hk) (fun ρ' g1 _=>⟨l,hl,D.keep h3 (fun k hk=>h5.block k (hlt k hk)),by
     rw[g1];rcases h2 with h2|⟨off,cap,cur,fz,a1,a2,a3⟩
     ·exact .inl h2
     ·exact .inr ⟨off,cap,cur,fz,a1,Nat.le_trans hb.size a2,a3⟩⟩) (fun k hk=> .inl (h4 k hk))
    (fun hob=> .inr (by
     rcases h2 with⟨h2,_⟩|⟨off,cap,cur,fz,a1,a2,a3⟩
     ·exact absurd h2 hob
     ·exact⟨a2,fun h=>Nat.lt_irrefl _ (Nat.lt_of_lt_of_le (hlt _ h) a2)⟩))
   simpa[SV.c] using this⟩⟩)⟩⟩
theorem oZ{ty:TypeId}{a c:Value}{sy:SV}{l:List Value}(ho:o.op= .build ty #[(0,x),(2,y)])(hgd:AR ops o s)
 (hx:AC s x= .v a)(hy:AC s y=sy)(hr:Rdg w0 s.mem rd sy n size l)(hb: ∀p m q,P.built ty [(0,a),(2,.slice p m q)]=some #[a,c,.slice p m q]):Ev P ops w0 o s ⟨.agg [.v a,.v c,sy],[],[],[],rd⟩:=
 Ev.run _ _ hgd fun ρ S w hbw hR=>by
  have e0:=AH s ρ x;rw[hx]at e0;have e1:=AH s ρ y;rw[hy]at e1;obtain⟨_,ao,cap,h1,_⟩:=hr ρ S w hbw hR;rw[h1]at e1;simp only[execOp,ho,List.map_toArray,List.map_cons,List.map_nil,e0,e1,SV.c];rw[Sem.run_bind,run_build w ty _ #[a,c,.slice ao n cap] (hb _ _ _)];simp[SV.c,SV.cs,h1]
theorem rF(t:Int)(p:Option Addr)(m q:Nat):prog.built 108 [(0,.int .i64 t),(2,.slice p m q)]=some #[.int .i64 t,.slice none 0 0,.slice p m q]:=by kernel_rfl
theorem GH{w:World}(id:Nat)(hr:Rel w0 ρ s w)(hm:s.mem id=some (.dat (AQ t))):BO w0 w (.agg (SV.cs ρ [.fn (AU 0) (.d id),.fn (AU 1) (.d id),.fn (AU 2) (.d id)]).toArray) (AQ t):=by
 obtain⟨hb,S,hR⟩:=hr;obtain⟨c,h1,h2⟩:=hR.good id _ hm;simp only[List.cons.injEq,and_true]at h1;rw[(fn3 h1 (CM h2)).2];exact⟨S id,⟨c,rfl,h2⟩,fun k hk=>⟨hR.fr id k (by rw[hm];rfl) hk,hR.lt id k (by rw[hm];rfl) hk⟩⟩
theorem E8{w:World}(i:Nat){t:Int}(hr:Rel w0 ρ s w)(h1:s.mem i=some (.row b.length 1 5 (.exact (b.map b8)))):
 BO w0 w (.agg #[.int .i64 t,(ρ i).val,.slice none 0 0]) (AQ (.mk t b [])):=by
 obtain⟨hb,S,hR⟩:=hr;obtain⟨xs,e1,e2,e3⟩:=hR.good i _ h1;have e2':xs=b.map b8:=e2;subst e2';refine⟨fun k=>w0.heap.size≤k∧k<w.heap.size,⟨[.int .i64 t,(ρ i).val,.slice none 0 0],rfl,?_⟩,fun k hk=>hk⟩;simp only[DN,DNs];refine⟨_,_,[],rfl,?_,⟨none,0,rfl,Nat.le_refl _,rfl,.inl rfl⟩,rfl⟩;have hs:=DL e3 e1;rcases e3 with⟨g1,g2⟩|⟨off,cap,cur,fz,g1,g2,g3,_⟩
 ·obtain⟨ao,cap,a1,a2,a3,a4⟩:=hs
  refine⟨ao,cap,a1,a2,a3,.inl ?_⟩;exact List.eq_nil_of_length_eq_zero (by rw[e1,g2])
 ·exact IR hs fun k hk=>by subst hk;exact⟨g2,(Array.getElem?_eq_some_iff.1 g3).1⟩
def AY(bs:List Nat):List Nat:=bs.dropWhile (· ==0)
def Dc:Value→List Nat→Value
 |_,[]=> .slice none 0 0
 |v,b::r=>bif decide (b=0)then Dc (As 1 (r.length+1) 1 v) r else v
theorem YK{w:World}{b:Nat}(h:AJ w v (b::r).length 1 ((b::r).map b8) S):AJ w (As 1 (r.length+1) 1 v) r.length 1 (r.map b8) S:=by
 have:=HF (lo:=1) (hi:=r.length+1) h (by omega) (by simp);have e:List.take r.length (List.map b8 r)=List.map b8 r:=List.take_of_length_le (by simp);simpa[e] using this
theorem Li{w:World}{S:Nat→Prop}: ∀{bs:List Nat} {v:Value},AJ w v bs.length 1 (bs.map b8) S→AJ w (Dc v bs) (AY bs).length 1 ((AY bs).map b8) S
 | [],v,h=>⟨none,0,rfl,Nat.le_refl _,rfl,.inl rfl⟩
 |b::r,v,h=>by
  by_cases hb:b=0
  ·have e1:AY (b::r)=AY r:=by simp[AY,hb]
   have e2:Dc v (b::r)=Dc (As 1 (r.length+1) 1 v) r:=by simp[Dc,hb]
   rw[e1,e2];exact Li (YK h)
  ·have e1:AY (b::r)=b::r:=by simp[AY,hb]
   have e2:Dc v (b::r)=v:=by simp[Dc,hb]
   rw[e1,e2];exact h
theorem G4: ∀bs:List Nat,(AY bs).length≤bs.length
 | []=>Nat.le_refl _
 |b::r=>by
  have:=G4 r;by_cases hb:b=0
  ·have e1:AY (b::r)=AY r:=by simp[AY,hb]
   rw[e1,List.length_cons];omega
  ·have e1:AY (b::r)=b::r:=by simp[AY,hb]
   rw[e1];exact Nat.le_refl _
theorem LH{l:List Nat}(h:l.length>0): ∃b r,l=b::r:=by
 cases l with
 |nil=>simp at h
 |cons b r=>exact⟨b,r,rfl⟩
theorem NE{l:List Nat}(h:l.length>0):(l.map b8)[0]? =some (b8 (l.headD 0)):=by
 obtain⟨b,r,rfl⟩:=LH h;rfl
theorem aG(hv:AJ w v bs.length 1 (bs.map b8) S)(_hm:bs.length≤maxLen):CBy 133 #[v,.int .u8 0] w (Dc v bs):=by
 go_enter func133,ntmps133
 refine AO ?_;iterate 6 refine k_g ?_
 refine B7 (α:={x:List Nat×Value // AJ w x.2 x.1.length 1 (x.1.map b8) S∧Dc v bs=Dc x.2 x.1∧x.1.length≤bs.length}) (fun(x:{x:List Nat×Value // AJ w x.2 x.1.length 1 (x.1.map b8) S∧Dc v bs=Dc x.2 x.1∧x.1.length≤bs.length}) f=>⟨.v x.1.2:: .v (.int .u8 0):: .v (f 2):: .v (f 3):: .v (.slice none 0 0)::fv f 16 5 [],AK []⟩) (fun x=>x.1.1.length) ?_ (⟨(bs,v),hv,rfl,Nat.le_refl _⟩) ?_
 ·rintro⟨⟨bs',v'⟩,hv',hgo,hle⟩ f
  simp only at hv' hgo hle;obtain⟨q,h_q⟩: ∃q,decide (bs'.length>0)=q:=⟨_,rfl⟩
  obtain⟨q2,h_q2⟩: ∃q,decide (bs'.headD 0=0)=q:=⟨_,rfl⟩
  have h_q':=(EI bs'.length 0).trans h_q;have h_q2':=(DT (bs'.headD 0) 0).trans h_q2;cases q<;>cases q2<;>
  (
   change VOk _ _ _ _ _;simp only[fv,Nat.reduceAdd];iterate 4 refine k_g ?_
   refine k_s (by exact BM rfl gg rfl underlying26 (AW hv')) ?_;refine QA ?_;iterate 2 refine k_g ?_
   refine k_s (by first|exact Ev.skip (fun _=>rfl)|exact BU (k:=0) rfl (fun _=>rfl) rfl rfl underlying26 sizeOf5 (AW hv') (of_decide_eq_true h_q) (by decide)) ?_;refine k_s (by first|exact Ev.skip (fun _=>rfl)|exact B5 rfl (fun _=>rfl) rfl underlying5 rfl (AW hv') (NE (of_decide_eq_true h_q))) ?_;refine k_g ?_;refine lB ?_;iterate 2 refine k_g ?_
   first
   |(
    iterate 5 refine k_g ?_
    refine k_s (by exact Gl (a:=1) (b:=bs'.length) rfl gg rfl underlying26 sizeOf5 (AW hv') rfl rfl (of_decide_eq_true h_q) (Nat.le_refl _) rfl) ?_;iterate 2 refine k_g ?_
    obtain⟨b,r,rfl⟩:=LH (of_decide_eq_true h_q);have hb0:b=0:=of_decide_eq_true h_q2;subst hb0;refine⟨⟨(r,As 1 (r.length+1) 1 v'),YK hv',hgo,by show r.length≤bs.length;simp only[List.length_cons]at hle;omega⟩,by show r.length<r.length+1;omega,?_⟩;exact Al (fun i=>i==0||i==1||i==4) []
    )
   |(
    refine k_g ?_;have hz':decide ((bs'.length:Int)=((0:Nat):Int))= !decide (bs'.length>0):=by rw[DT];cases bs'<;>simp
    rw[h_q]at hz';refine Aq ?_;change VOk _ _ _ _ _;iterate 4 refine k_g ?_
    refine k_s (by exact BM rfl gg rfl underlying26 (AW hv')) ?_;refine k_s (by exact Ax rfl gg rfl rfl hz') ?_;refine k_g ?_;first
    |(
     iterate 5 refine k_g ?_
     refine AG ?_;refine AD (AM results133 (AE rfl)) ?_;intro ρ w' hr
     (first|(refine⟨?_,hr.1⟩;rw[hgo];have h0:bs'=[]:=List.eq_nil_of_length_eq_zero (by have:=of_decide_eq_false h_q;omega);subst h0;rfl)|(refine⟨?_,hr.1⟩;rw[hgo];obtain⟨b,r,rfl⟩:=LH (of_decide_eq_true h_q);have hb0:decide (b=0)=false:=h_q2;simp only[Dc,hb0,cond_false];rfl))
     )
    |(
     iterate 7 refine k_g ?_
     refine AG ?_;refine AD (AM results133 (AE rfl)) ?_;intro ρ w' hr
     (first|(refine⟨?_,hr.1⟩;rw[hgo];have h0:bs'=[]:=List.eq_nil_of_length_eq_zero (by have:=of_decide_eq_false h_q;omega);subst h0;rfl)|(refine⟨?_,hr.1⟩;rw[hgo];obtain⟨b,r,rfl⟩:=LH (of_decide_eq_true h_q);have hb0:decide (b=0)=false:=h_q2;simp only[Dc,hb0,cond_false];rfl))
     )
    )
  )
 ·exact Al (fun i=>i==0||i==1||i==4) []
theorem OV(hv:AJ w v bs.length 1 (bs.map b8) S)(hm:bs.length≤maxLen):CBy 127 #[v,.string (AI [0])] w (Dc v bs):=by
 obtain⟨q,h_q⟩: ∃p,decide (bs.length=0)=p:=⟨_,rfl⟩
 have h_q':=(DT bs.length 0).trans h_q
 go_enter func127,ntmps127
 refine AO ?_;iterate 8 refine k_g ?_
 refine CQ ?_;refine k_s (by exact Ax rfl gg rfl rfl h_q') ?_;refine k_g ?_;cases q
 ·iterate 6 refine k_g ?_
  refine k_s (by exact AN (c:= .bool false) rfl gg rfl rfl (fun w=>L6 (a:=[0]) (b:=[]) (by decide) (by simp) (by simp) _ _ w)) ?_;iterate 7 refine k_g ?_
  refine k_s (by exact ny (b:=[0]) rfl gg rfl underlying9) ?_;refine Vr ?_;iterate 2 refine k_g ?_
  refine k_s (by first|exact Ev.skip (fun _=>rfl)|exact XK (b:=[0]) (k:=0) (c:=0) rfl (fun _=>rfl) rfl rfl underlying9 rfl (by decide)) ?_;refine k_s (by first|exact Ev.skip (fun _=>rfl)|exact Em (p:=true) rfl (fun _=>rfl) rfl rfl (by decide)) ?_;iterate 7 refine k_g ?_
  refine k_s (by exact XK (b:=[0]) (k:=0) (c:=0) rfl gg rfl rfl underlying9 rfl (by decide)) ?_;refine k_s (by exact Ah rfl gg rfl (eo func133) (fun w' hb=>aG w' (Aa hv hb) hm)) ?_;iterate 2 refine k_g ?_
  refine AG ?_;refine AD (AM results127 (AE rfl)) ?_;intro ρ w' hr
  (first|exact⟨rfl,hr.1⟩|(refine⟨?_,hr.1⟩;have h0:bs=[]:=List.eq_nil_of_length_eq_zero (of_decide_eq_true h_q);subst h0;rfl))
 ·iterate 5 refine k_g ?_
  refine AG ?_;refine AD (AM results127 (AE rfl)) ?_;intro ρ w' hr
  (first|exact⟨rfl,hr.1⟩|(refine⟨?_,hr.1⟩;have h0:bs=[]:=List.eq_nil_of_length_eq_zero (of_decide_eq_true h_q);subst h0;rfl))
def BP(bs:List Nat):List Nat:=bif decide ((AY bs).length=0)||decide ((AY bs).headD 0≥128)then 0::AY bs else AY bs
theorem Ic(bs:List Nat):(BP bs).length≤bs.length+1:=by
 have:=G4 bs;unfold BP;cases decide ((AY bs).length=0)||decide ((AY bs).headD 0≥128)<;>simp<;>omega
theorem VW{l:List Nat}(h:decide (l.length=0)=false):l.length>0:=by have:=of_decide_eq_false h;omega
theorem UM(hv:AJ w v bs.length 1 (bs.map b8) S)(hm:bs.length≤1048576):CDy 115 #[v] w (AQ (.mk 2 (BP bs) [])):=by
 unfold BP;have htv:=Li hv;have htl:=G4 bs;obtain⟨q1,h_q1⟩: ∃p,decide ((AY bs).length=0)=p:=⟨_,rfl⟩
 obtain⟨q2,h_q2⟩: ∃p,decide ((AY bs).headD 0≥128)=p:=⟨_,rfl⟩
 rw[h_q1,h_q2];have h_q1':=(DT (AY bs).length 0).trans h_q1;have h_q2':=(KU ((AY bs).headD 0) 128).trans h_q2
 go_enter func115,ntmps115
 refine AO ?_;cases q1<;>cases q2<;>
 (
  iterate 7 refine k_g ?_
  refine k_s (by exact Ah rfl gg rfl (eo func127) (fun w' hb=>OV w' (Aa hv hb) (by simp only[maxLen];omega))) ?_;iterate 6 refine k_g ?_
  refine Km ?_;refine k_s (by exact Ax rfl gg rfl rfl h_q1') ?_;iterate 2 refine k_g ?_
  refine k_s (by first|exact Ev.skip (fun _=>rfl)|exact BU (k:=0) rfl (fun _=>rfl) rfl rfl underlying26 sizeOf5 (AW htv) (VW h_q1) (by decide)) ?_;refine k_s (by first|exact Ev.skip (fun _=>rfl)|exact B5 rfl (fun _=>rfl) rfl underlying5 rfl (AW htv) (NE (VW h_q1))) ?_;refine k_s (by first|exact Ev.skip (fun _=>rfl)|exact K6 rfl (fun _=>rfl) rfl rfl h_q2') ?_;iterate 2 refine k_g ?_
  first
  |(
   iterate 2 refine k_g ?_
   refine k_s (by exact BV rfl rfl gg rfl (e:=5) (l:=[b8 0]) rfl (by decide) (fun _=>by kernel_rfl)) ?_;refine k_g ?_;refine k_s (by exact C1 rfl rfl gg rfl rfl rfl (AW htv) underlying26 el5 (by decide) (by simp) (DG _) (by simp only[maxLen];omega) (by omega) (by simp)) ?_;iterate 5 refine k_g ?_
   refine Vu ?_;refine Vo ?_;refine Wa ?_;refine k_g ?_;refine AG ?_;refine AD (AM results115 (BN rfl rfl underlying108 rfl sizeOf108 rfl)) ?_;intro ρ w' hr;refine⟨_,rfl,?_,hr.1⟩;first|(have:=E8 (t:=2) (b:=0::AY bs) 18 hr rfl;simpa[SV.c,SV.cs] using this)|(have:=E8 (t:=2) (b:=AY bs) 18 hr rfl;simpa[SV.c,SV.cs] using this)
   )
  |(
   iterate 5 refine k_g ?_
   refine Vu ?_;refine Vo ?_;refine Wa ?_;refine k_g ?_;refine AG ?_;refine AD (AM results115 (BN rfl rfl underlying108 rfl sizeOf108 rfl)) ?_;intro ρ w' hr;refine⟨_,rfl,?_,hr.1⟩;first|(have:=E8 (t:=2) (b:=0::AY bs) 18 hr rfl;simpa[SV.c,SV.cs] using this)|(have:=E8 (t:=2) (b:=AY bs) 18 hr rfl;simpa[SV.c,SV.cs] using this)
   )
 )
theorem cH(m s:Nat)(_hm:m<9223372036854775808)(hs:s<64):BOy .shr 3 (.int .i64 (m:Nat)) (.int .i64 (s:Nat)) (.int .i64 ((hb m s:Nat):Int)):=by
 intro p q w
 go_simp
 unfold hb;have h1: ¬((s:Int)<0):=by omega
 simp
def CV(m:Nat):List Nat:=[n8 (hb m 56),n8 (hb m 48),n8 (hb m 40),n8 (hb m 32),n8 (hb m 24),n8 (hb m 16),n8 (hb m 8),n8 (hb m 0)]
theorem fi{m j s:Nat}(h:j<8)(hs:s=56-8*j):(CV m)[j]? =some (n8 (hb m s)):=by
 subst hs;have:j=0∨j=1∨j=2∨j=3∨j=4∨j=5∨j=6∨j=7:=by omega
 rcases this with rfl|rfl|rfl|rfl|rfl|rfl|rfl|rfl<;>rfl
theorem H3(n:Int)(hn:n≤9223372036854775807)(w:World):CDy 82 #[.int .i64 n] w (AQ (.mk 2 (BP (CV n.toNat)) [])):=by
 go_enter func82,ntmps82
 refine AO ?_;iterate 14 refine k_g ?_
 refine B7 (α:={x:Nat×Int // x.1≤8∧x.2=56-8*(x.1:Int)}) (fun(x:{x:Nat×Int // x.1≤8∧x.2=56-8*(x.1:Int)}) f=>⟨.v (.int .i64 n):: .v (f 1):: .p 2 0:: .d 900:: .v (.int .i64 x.1.2)::fv f 14 5 [],AK [(900,.row x.1.1 1 5 (.exact (((CV n.toNat).take x.1.1).map b8))),(2,.cells [.v (.int .i64 0),.v (.slice none 0 0),.v (.slice none 0 0)] 108)]⟩) (fun x=>8-x.1.1) ?_ (⟨(0,56),by decide,rfl⟩) ?_
 ·rintro⟨⟨j,z⟩,hj,hz⟩ f
  simp only at hj hz;obtain⟨q,h_q⟩: ∃q,decide (z≥0)=q:=⟨_,rfl⟩
  change VOk _ _ _ _ _;simp only[fv,Nat.reduceAdd];iterate 4 refine k_g ?_
  refine k_s (by exact Dh rfl gg rfl rfl h_q) ?_;refine k_g ?_;cases q
  ·refine k_g ?_
   have h8:j=8:=by have:=of_decide_eq_false h_q;omega
   subst h8;have hj8:True:=True.intro;refine Aq ?_;change VOk _ _ _ _ _;iterate 3 refine k_g ?_
   refine k_s (by exact BG (D:=AQ (.mk 2 (BP (CV n.toNat)) [])) [900] rfl rfl gg rfl (eo func115) (fun ρ S w' hb hR=>by obtain⟨_,s0⟩:=Jv (id:=900) hR (by simp) rfl;exact UM (bs:=CV n.toNat) w' s0 (by simp[CV]))) ?_;refine k_s (by exact Az (vl:=[.fn (AU 0) (.d 18),.fn (AU 1) (.d 18),.fn (AU 2) (.d 18)]) [2,18] rfl gg rfl rfl rfl sizeOf108 rfl (fun ρ S w' _ hR=>by obtain⟨c,h1,h2⟩:=CY (id:=18) hR (by simp) rfl;have hf:=fn3 h1 (CM h2);exact⟨hf.1,hf.2▸FR h2⟩) rfl (by simp)) ?_;refine k_g ?_;refine AG ?_;refine AD (AM results82 (BN rfl rfl underlying108 rfl sizeOf108 rfl)) ?_;intro ρ w' hr;exact⟨_,rfl,GH 18 hr rfl,hr.1⟩
  ·refine k_g ?_
   have hj2:j<8:=by have:=of_decide_eq_true h_q;omega
   obtain⟨s,hs⟩: ∃s:Nat,s=56-8*j:=⟨_,rfl⟩
   have hzs:z=((s:Nat):Int):=by omega
   iterate 6 refine k_g ?_
   refine k_s (by exact np (c:=((n.toNat:Nat):Int)) rfl gg rfl rfl (by omega)) ?_;refine k_g ?_;refine k_s (by exact AN (b:= .int .i64 ((s:Nat):Int)) rfl gg rfl (by simp only[nm,seval,hzs]) (fun w=>cH _ s (by omega) (by omega) _ _ w)) ?_;refine Gf ?_;refine k_s (by exact BV rfl rfl gg rfl (e:=5) (l:=[b8 (n8 (hb n.toNat s))]) rfl (by decide) (fun _=>by kernel_rfl)) ?_;refine lC ?_;iterate 4 refine k_g ?_
   refine k_s (by exact CF (c:=z-8) rfl gg rfl rfl (by rw[Af (by omega) (by omega)])) ?_;iterate 2 refine k_g ?_
   have e1:((CV n.toNat).take j).map b8++[b8 (n8 (hb n.toNat s))]=((CV n.toNat).take (j+1)).map b8:=by rw[F8 (fi hj2 hs),List.map_append];rfl
   rw[e1];refine⟨⟨(j+1,z-8),by show j+1≤8;omega,by show z-8=56-8*((j+1:Nat):Int);omega⟩,by show 8-(j+1)<8-j;omega,?_⟩;exact(Al (fun i=>i==0||i==2||i==3||i==4) [15]).trans2 (fun f=>DI 16 900 (by decide) rfl)
 ·refine(Al (fun i=>i==0||i==2||i==3||i==4) []).trans2 (fun f=> ?_)
  refine(Jc 900 1 5 (.exact []) (fun w=>rfl) (m':=[(2,.cells [.v (.int .i64 0),.v (.slice none 0 0),.v (.slice none 0 0)] 108)]) rfl rfl (fun ρ hv=> ?_) (fun ρ hv=> ?_))
  ·simp[fv,CC,SV.cs,SV.c,hv,Bb]
  ·simp[GW,BS,Blk.sim]
theorem ZJ(h8: ∀x∈b,x<256)(hm:b.length≤maxLen)(w:World):CDy 67 #[.string (AI b)] w (AQ (.mk 12 b [])):=by
 go_enter func67,ntmps67
 refine AO ?_;iterate 7 refine k_g ?_
 refine k_s (by exact XQ rfl rfl gg rfl underlying9 underlying26 underlying5 hm h8) ?_;refine k_s (by exact Hm (n:=b.length) (size:=1) (l:=b.map b8) rfl gg rfl rfl (BI rfl) (fun p m q=>Hs 12 p m q)) ?_;refine k_s (by exact Az (vl:=[.v (.int .i64 12),.d 4,.v (.slice none 0 0)]) [2,4] rfl gg rfl rfl rfl sizeOf108 rfl (fun ρ S w' _ hR=>⟨CG _,by have hh:=CO (id:=4) hR (by simp) rfl;simp only[SV.cs,SV.c,List.all_cons,List.all_nil,hh.2];rfl⟩) rfl (by simp)) ?_;refine k_g ?_;refine AG ?_;refine AD (AM results67 (BN rfl rfl underlying108 rfl sizeOf108 rfl)) ?_;intro ρ w' hr;refine⟨_,rfl,?_,hr.1⟩;have:=E8 (t:=12) (b:=b) 4 hr rfl;simpa[SV.c,SV.cs] using this
theorem oU{ty e:TypeId}{len:Nat}{pl:List (Nat×Value)}{l:List Value}(_hd:o.dst=some id)(ho:o.op= .buildSlice ty len parts)(hgd:AR ops o s)
 (hx:CJ (parts.toList.map fun x=>(x.1,AC s x.2))=some pl)(hl:l.length=len*size)(hm:len≤maxLen)
 (hb: ∀w,(Instr.buildSlice ty len pl.toArray).run P w= .ok (.slice (some ⟨w.heap.size,0,none⟩) len len) (w.alloc (.cells l.toArray e))):Ev P ops w0 o s ⟨.d id,[(id,.row len size e (.exact l))],[],[id],[]⟩:=
 ⟨by simp[Eff.ok],.inr ⟨hgd,fun ρ S w hb0 hR=> .inl ⟨.slice (some ⟨w.heap.size,0,none⟩) len len,w.alloc (.cells l.toArray e),by
  have h1:(parts.map fun(i,x)=>(i,(s.act ρ).eval x))=pl.toArray:=by
   rw[←Array.toList_inj,←G3 hx ρ];simp only[Array.toList_map,List.map_map];exact List.map_congr_left fun x _=>by simp only[Function.comp_apply,AH]
  simp only[execOp,ho];rw[h1,Sem.run_bind,hb w];rfl,_,_,by
  have:=GO (t:=s.mem) (ρ:=ρ) (S:=S) (val:= .d id) (rd:=[]) (id:=id) (n:=len) (size:=size) (ty:=e) (l:=l) (w:=w) (w':=w.alloc (.cells l.toArray e)) (v:= .slice (some ⟨w.heap.size,0,none⟩) len len) (g:=w.heap.size) hb0.size
   ⟨rfl,rfl,rfl,by simp,fun k hk=>heap_alloc_old w _ hk⟩ (by omega) (.inr ⟨0,len,l.toArray,(0,0),rfl,Nat.le_refl _,heap_alloc_new w _,.inl rfl,Nat.le_refl _,hm,by simp[hl],by simp[←hl]⟩)
  simpa[SV.c] using this⟩⟩⟩
theorem oe(n c:Nat):BOy .eql 106 (.slice none n c) (.slice none 0 0) (.bool true):=by
 intro p q w
 go_simp
 exact Go.Lib.run_eql_slice_nil_nil w n c underlying106
theorem og(a:Addr)(n c:Nat):BOy .eql 106 (.slice (some a) n c) (.slice none 0 0) (.bool false):=by
 intro p q w
 go_simp
 exact Go.Lib.run_eql_slice_some_nil w a n c underlying106
theorem qC{c:Nat}:Calls prog 114 #[.slice none n c] w fun e w'=> ∃v,e= .returned v∧BJ w w' v (0) 3 108 ([])∧Bw w w':=by
 go_enter func114,ntmps114
 refine AO ?_;iterate 8 refine k_g ?_
 refine k_s (by exact AN (c:= .bool true) rfl gg rfl rfl (fun w=>oe _ _ _ _ w)) ?_;iterate 6 refine k_g ?_
 refine AG ?_;refine AD (AM results114 (AE rfl)) ?_;intro ρ w' hr;exact⟨_,rfl,HG _ _ _ _,hr.1⟩
theorem qA{c:Nat}{cs:List Value}(hv:AJ w (.slice (some a) n c) n 3 cs S)(hone:cs.all (·.oneCell')=true)(hm:n≤1048576):Calls prog 114 #[.slice (some a) n c] w fun e w'=> ∃v,e= .returned v∧BJ w w' v (n) 3 108 (cs)∧Bw w w':=by
 go_enter func114,ntmps114
 refine AO ?_;iterate 8 refine k_g ?_
 refine k_s (by exact AN (c:= .bool false) rfl gg rfl rfl (fun w=>og _ _ _ _ _ w)) ?_;iterate 5 refine k_g ?_
 refine k_s (by exact oU rfl rfl gg rfl (size:=3) (e:=108) (l:=[]) rfl (by decide) (fun _=>by kernel_rfl)) ?_;refine k_g ?_;refine k_s (by exact C1 (n:=0) (size:=3) rfl rfl gg rfl rfl rfl (AW hv) underlying106 Xb (by decide) rfl hone (by simp only[maxLen];omega) (by omega) (by have:=VX hv (by decide) True.intro;omega)) ?_;iterate 2 refine k_g ?_
 refine AG ?_;refine AD (AM results114 (AE rfl)) ?_;intro ρ w' hr;refine⟨(ρ 7).val,rfl,?_,hr.1⟩;have:=BR (id:=7) hr rfl;simpa using this
theorem qB{cs:List Value}(hv:AJ w v n 3 cs S)(hone:cs.all (·.oneCell')=true)(hm:n≤1048576):Calls prog 114 #[v] w fun e w'=> ∃v,e= .returned v∧BJ w w' v (n) 3 108 (cs)∧Bw w w':=by
 have hv':=hv;obtain⟨ao,cap,rfl,h1,h2,h3⟩:=hv';cases ao with
 |none=>
  have:cs=[]:=by
   rcases h3 with h3|⟨a,h3,_⟩
   ·exact h3
   ·cases h3
  subst this;have:n=0:=by simp at h2;omega
  subst this;exact qC w
 |some a=>exact qA w hv hone hm
theorem ZU{t:Int}{cs:List Value}(hv:AJ w v n 3 cs S)(hone:cs.all (·.oneCell')=true)(hm:n≤1048576):Calls prog 81 #[.int .i64 t,v] w fun e w'=> ∃v,e= .returned (.agg #[.int .i64 t,.slice none 0 0,v])∧BJ w w' v n 3 108 cs∧Bw w w':=by
 go_enter func81,ntmps81
 refine AO ?_;iterate 8 refine k_g ?_
 refine k_s (by exact Cs [] rfl rfl gg rfl (eo func114) (n:=n) (size:=3) (l:=cs) (VX hv (by decide) True.intro) (fun ρ S w' hb _=>qB w' (Aa hv hb) hone hm)) ?_;refine k_s (by exact oZ (n:=n) (size:=3) (l:=cs) rfl gg rfl rfl (BI rfl) (fun p m q=>rF t p m q)) ?_;refine k_s (by exact Az (vl:=[.v (.int .i64 t),.v (.slice none 0 0),.d 7]) [4,7] rfl gg rfl rfl rfl sizeOf108 rfl (fun ρ S w' _ hR=>⟨CG _,by have hh:=CO (id:=7) hR (by simp) rfl;simp only[SV.cs,SV.c,List.all_cons,List.all_nil,hh.2];rfl⟩) rfl (by simp)) ?_;refine k_g ?_;refine AG ?_;refine AD (AM results81 (BN rfl rfl underlying108 rfl sizeOf108 rfl)) ?_;intro ρ w' hr;exact⟨(ρ 7).val,by simp[SV.c,SV.cs],BR (id:=7) hr rfl,hr.1⟩
theorem YR{w:World}{l:List SV}{ty:TypeId}{g i:Nat}{x:Value}(hg:w.heap[g]? =some (Cb ρ l ty))(hx:(SV.cs ρ l)[i]? =some x):w.cell? ((⟨g,0,none⟩:Addr).add i)=some x:=by
 rw[A3,List.getElem?_map]at hx;cases h:l[i]? with
 |none=>rw[h]at hx;cases hx
 |some y=>rw[h]at hx;simp only[Option.map_some,Option.some.injEq]at hx;rw[←hx,BX,Nat.zero_add];exact ET hg h
def dT:Tr:= .mk 48 [] [.mk 2 [5] [],.mk 12 [97,98] []]
def ofV(t:Int)(v:Value):Value:= .agg #[.int .i64 t,.slice none 0 0,v]
theorem Y9{w:World}{base:Nat}{S:Nat→Nat→Prop}{m:Mem}(hR:RelOn base ρ S w (restr rd m))(hid:id∈rd)(hm:m id=some (.dat (AQ t))): ∃c,SV.c ρ (.agg [.fn (AU 0) (.d id),.fn (AU 1) (.d id),.fn (AU 2) (.d id)])= .agg c.toArray∧DN w (S id) t c:=by
 obtain⟨c,h1,h2⟩:=CY hR hid hm;exact⟨c,by simp only[SV.c];rw[(fn3 h1 (CM h2)).2],h2⟩
theorem ZI{c:List Value}(hok:t.ok)(hx:DN w S t c)(hwt:wt t≤1073741824):
 Calls prog 46 #[.agg c.toArray] w fun e w'=> ∃v,e= .returned (.tuple #[v,.int .i64 (wrT t).2])∧BJ w w' v (wrT t).1.length 1 5 ((wrT t).1.map b8)∧Bw w w':=by
 obtain⟨x0,x1,x2,rfl⟩:=FB (CM hx);unfold wrT;obtain⟨h1,h2⟩:=R6 t;cases hr:Ag t 1 with
 |false=>exact uI w hok hx hwt hr
 |true=>
  simp only[cond_true];cases hb:decide ((AF t).length>2048)with
  |true=>
   have:=h2 (of_decide_eq_true hb);exact uJ w hok hx hwt hr this
  |false=>
   have hle:(AF t).length≤2048:=by have:=of_decide_eq_false hb;omega
   have e:=h1 hle;have:=uH w hok hx hwt hr (by rw[e];omega);rw[e]at this;exact this
theorem FT(h:t.ok): ∀x∈(wrT t).1,x<256:=by
 unfold wrT;cases Ag t 1<;>cases decide ((AF t).length>2048)<;>simp only[cond_true,cond_false]<;>first|exact Yd t h|(intro x hx;cases hx)
theorem EW(t:Tr):(wrT t).1.length≤2048:=by
 unfold wrT;cases hb:decide ((AF t).length>2048)with
 |true=>cases Ag t 1<;>simp
 |false=>
  have:=of_decide_eq_false hb;cases Ag t 1<;>simp only[cond_true,cond_false,List.length_nil]<;>omega
def tm(t:Tr):Tr:=(Ln t 10 60).1
theorem Q9{w:World}{base:Nat}{S:Nat→Nat→Prop}{m:Mem}(id:Nat)(hok:t.ok)(hwt:wt t≤1073741824)(hR:RelOn base ρ S w (restr rd m))(hid:id∈rd)(hm:m id=some (.dat (AQ t))):
 Calls prog 46 (SV.cs ρ [.d id]).toArray w fun e w'=> ∃v,e= .returned (.tuple #[v,.int .i64 (wrT t).2])∧BJ w w' v (wrT t).1.length 1 5 ((wrT t).1.map b8)∧Bw w w':=by
 obtain⟨c,h1,h2⟩:=CY hR hid hm;simp only[SV.cs,SV.c,h1];exact ZI w hok h2 hwt
theorem Zr(t:Tr):(Ag t 1=false∧wrT t=([],2))∨(Ag t 1=true∧(AF t).length>2048∧wrT t=([],4))∨(Ag t 1=true∧(AF t).length≤2048∧wrT t=(AF t,0)):=by
 unfold wrT;cases Ag t 1 with
 |false=>exact .inl ⟨rfl,rfl⟩
 |true=>
  cases h:decide ((AF t).length>2048)with
  |true=>exact .inr (.inl ⟨rfl,of_decide_eq_true h,rfl⟩)
  |false=>exact .inr (.inr ⟨rfl,by have:=of_decide_eq_false h;omega,rfl⟩)
def two(t1 t2:Tr):Tr:= .mk 48 [] [t1,t2]
theorem px(h:n<65536):(Am n).length≤3:=by
 unfold Am;rw[show decide (n<65536)=true from decide_eq_true h];cases decide (n<128)<;>cases decide (n<256)<;>simp
end Go.Proofs.YtefpajmkaaielaaGreatDoor
