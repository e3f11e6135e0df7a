import Derived.Test.YtafbhakmkbehiaaGreatDoorZ18
open Go.Proofs.Tryz
set_option maxHeartbeats 4000000
set_option maxRecDepth 100000
namespace Go.Proofs.YtafbhakmkbehiaaGreatDoor
open Go.RowKit Go.Vx
variable(w:World){ops:Array Oper}{rd:List Nat}{l0 xs:List Value}{a cap h i id k n off r t x y:Nat}{S:Nat→Nat→Prop}{ρ:Nat→Nm}{o:Oper}{hi lo:Option Operand}{P:Program}{d:TypeDesc}{bt e el ty:TypeId}{s:VS}{v:Value}{w0:World}
open TollMont
open Go.Toll (Gw)
open TollEc (F pp cb Jp Pt Au add base nn neg)
open TollSha (sha CH)
def HY(n:Nat):Dat:=⟨fun xs w S=> ∃g,xs=[ptr g]∧S g∧w.heap[g]? =some (.cells (Ck n).toArray 199 (0,0)),fun⟨g,h1,h2,h3⟩ hk=>⟨g,h1,h2,by rw[hk g h2];exact h3⟩⟩
theorem gS{w:World}{D:Dat}(hr:Rel w0 ρ s w)(hm:s.mem id=some (.dat D)):Ae w0 w (ρ id).val D:=by
 obtain⟨hb,S,hR⟩:=hr;have h0:=hR.good id _ hm;exact⟨S id,h0,fun k hk=>⟨hR.fr id k (by rw[hm];rfl) hk,hR.lt id k (by rw[hm];rfl) hk⟩⟩
theorem av{g:Nat}{w:World}(h:w.heap[g]? =some (.cells (Ck n).toArray 199 (0,0))):At w g n:=fun j v hj=>by
 rw[Nat.zero_add];exact Jl (l:=Ck n) (ty:=199) h hj
theorem lN(h:Md n)(w:World):Calls prog 126 #[N n] w fun e w'=> ∃v,e= .returned (.tuple (v::[.int .i64 0]).toArray)∧Ae w w' v (HY n)∧Bw w w':=
 (YW h w).mono fun e w' ⟨g,h1,h2,h3,h4⟩=>⟨ptr g,h2,⟨fun k=>k=g,⟨g,rfl,rfl,h3⟩,fun k hk=>by subst hk;exact⟨h1,(Array.getElem?_eq_some_iff.1 h3).1⟩⟩,h4.b⟩
theorem kb(hL:Laid w):Calls prog 80 #[] w fun e w'=> ∃v,e= .returned (.tuple (v::[N nn]).toArray)∧Ae w w' v (HY nn)∧Bw w w':=by
 go_enter func80,ntmps80
 refine A4 ?_;iterate 3 refine Aa ?_
 refine FT ?_;iterate 3 refine k_k ?_
 refine AX (by exact AM rfl gg rfl (eo func125) (fun w' hw'=>kZ w' (hL.bw hw'))) ?_;refine AX (by exact AM rfl gg rfl (eo func82) (fun w' hw'=>ofN nn (by decide) w')) ?_;refine Fo ?_;iterate 3 refine k_k ?_
 refine k_5 ?_;refine AX (by exact DL (D:=HY nn) (ys:=[.int .i64 0]) [] rfl rfl gg rfl (eo func126) (fun ρ S w' hb hR=>lN mdn w')) ?_;iterate 9 refine Aa ?_
 refine k_5 ?_;refine E5 ?_;refine EP ?_;refine AD (Av results80 (AF rfl) (Ac rfl rfl underlying147 rfl sizeOf147 rfl rfl)) ?_;intro ρ w' hr;exact⟨_,rfl,gS hr rfl,hr.1⟩
theorem nu(ha:a<R)(w:World)(hL:Laid w)(h:a=0):Calls prog 79 #[B32 a] w fun e w'=>e= .returned (.bool false)∧Bw w w':=by
 go_enter func79,ntmps79
 refine A4 ?_;iterate 7 refine Aa ?_
 refine JL ?_
 refine FT ?_;refine E5 ?_;iterate 3 refine k_k ?_
 refine k_2 ?_;refine k_9 ?_;refine AX (by exact AK (c:= .bool false) rfl gg rfl rfl (fun w=>YX ha h _ _ w)) ?_;refine Aa ?_;refine k_7 ?_;refine FX ?_;refine M5 ?_;refine FX ?_;refine k_9 ?_;iterate 2 refine Aa ?_
 exact AG (AD (AH results79 (AF rfl)) fun _ _ hr=>⟨rfl,hr.1⟩)
theorem nv(ha:a<R)(w:World)(hL:Laid w)(h:a≠0):Calls prog 79 #[B32 a] w fun e w'=>e= .returned (.bool (decide (a<nn)))∧Bw w w':=by
 go_enter func79,ntmps79
 refine A4 ?_;iterate 7 refine Aa ?_
 refine JL ?_
 refine FT ?_;refine E5 ?_;iterate 3 refine k_k ?_
 refine k_2 ?_;refine k_9 ?_;refine AX (by exact AK (c:= .bool true) rfl gg rfl rfl (fun w=>YY ha h _ _ w)) ?_;refine Aa ?_;refine k_7 ?_;refine AX (by first|exact Ev.skip (fun _=>rfl)|exact AM rfl (fun _=>rfl) rfl (eo func82) (fun w' hw'=>ofN a ha w')) ?_;refine M5 ?_;refine ZX ?_;refine k_9 ?_;iterate 2 refine Aa ?_
 exact AG (AD (AH results79 (AF rfl)) fun _ _ hr=>⟨rfl,hr.1⟩)
theorem LC(ha:a<R)(w:World)(hL:Laid w):Calls prog 79 #[B32 a] w fun e w'=>e= .returned (.bool (sec a))∧Bw w w':=by
 by_cases h:a=0
 ·have e:sec a=false:=decide_eq_false (fun c=>c.1 h)
  rw[e];exact nu ha w hL h
 ·have e:sec a=decide (a<nn):=by unfold sec;simp[h]
  rw[e];exact nv ha w hL h
theorem mnz(n:Nat)(hn:n≤140737488355328)(w:World): ∃cs:Array Value,(callFunc 183 #[.int .i64 (n:Nat)]).run prog w= .ok (.value (.slice (some ⟨w.heap.size,0,none⟩) n cs.size)) (w.drew.drew.alloc (.cells cs 5))∧n≤cs.size∧cs.size≤maxLen:=by
 obtain⟨cs,h1,h2,h3⟩:=Go.Lib.run_makeNoZero (P:=prog) w f183.params 23 5 underlying23 n (by omega);refine⟨cs,?_,h2,h3 (by simp only[maxLen];omega)⟩;rw[run_callFunc_extern (fn:=f183) (e:=Extern.BytealgMakeNoZero.makeNoZero f183.params #[23]) func183 (by kernel_rfl) (by kernel_rfl) (by kernel_rfl) (by kernel_rfl),h1];rfl
theorem Er:(prog.info? 5).map (·.size)=some 1:=by kernel_rfl
theorem lb:Calls prog 182 #[.int .u64 1,.int .u64 32] w fun e w'=>e= .returned (.tuple #[.int .u64 0,.int .u64 32])∧Bw w w':=by
 go_enter func182,ntmps182
 refine A4 ?_;iterate 12 refine Aa ?_
 refine AX (by exact AM (v:= .tuple #[.int .u64 0,.int .u64 32]) rfl gg rfl (eo func172) (fun w' hw'=>Yg 1 32 (by decide) (by decide) w')) ?_;iterate 13 refine Aa ?_
 exact AG (AD (Av results182 (AF rfl) (AF rfl)) fun _ _ hr=>⟨rfl,hr.1⟩)
theorem NQ(_hk:2*k≤xs.length)(h:xs.take k=List.replicate k v):(xs.take k++List.replicate k v++xs.drop (k+k)).take (2*k)=List.replicate (2*k) v:=by
 rw[h,List.take_append_of_le_length (by simp;omega),List.take_of_length_le (by simp;omega),show 2*k=k+k by omega,List.replicate_append_replicate]
theorem gV{S:Nat→Prop}(hv:AO w v 1 1 [.int .u8 1] S):Calls prog 157 #[v,.int .i64 32] w fun e w'=> ∃v,e= .returned v∧BN w w' v (32) 1 5 (List.replicate 32 (.int .u8 1))∧Bw w w':=by
 go_enter func157,ntmps157
 refine A4 ?_;iterate 8 refine Aa ?_
 refine AX (by exact Ag (p:=false) rfl gg rfl rfl (by decide)) ?_;iterate 7 refine Aa ?_
 refine AX (by exact BM (p:=false) rfl gg rfl rfl (by decide)) ?_;iterate 6 refine Aa ?_
 refine K4 ?_;refine Mp ?_;refine k_9 ?_;refine AX (by exact Ad (v:= .tuple #[.int .u64 0,.int .u64 32]) rfl gg rfl (eo func182) (fun w' hw'=>lb w')) ?_;iterate 10 refine Aa ?_
 refine AX (by exact BV (p:=false) rfl gg rfl rfl (by decide)) ?_;refine E8 ?_;refine AX (by first|exact Ev.skip (fun _=>rfl)|exact BV (p:=false) rfl (fun _=>rfl) rfl rfl (by decide)) ?_;refine F5 ?_
 refine F5 ?_
 refine K4 ?_;refine AX (by exact Ag (p:=false) rfl gg rfl rfl (by decide)) ?_;iterate 12 refine Aa ?_
 refine AX (by exact BV (p:=false) rfl gg rfl rfl (by decide)) ?_;iterate 6 refine Aa ?_
 refine AX (by exact oG rfl rfl gg rfl (by decide) (fun w=>mnz 32 (by decide) w)) ?_;iterate 2 refine Aa ?_
 refine AX (by exact oT rfl rfl gg rfl rfl underlying23 sizeOf5 rfl rfl (by decide)) ?_;iterate 6 refine Aa ?_
 refine AX (by exact LI (a:=0) (k:=1) (p:=fun _=>True) (q:=fun xs=>xs.take 1=List.replicate 1 (Value.int .u8 1)) rfl gg rfl (.inl ⟨rfl,rfl⟩) rfl rfl (AW hv) underlying23 Er (by decide) (by decide) rfl (fun xs _ hx=>by rw[List.take_zero,List.nil_append,List.take_append_of_le_length (by simp)];rfl)) ?_;iterate 4 refine Aa ?_
 refine Br 6 ?_;change VOk _ _ _ _ _;iterate 5 refine Aa ?_
 refine Gm ?_
 refine Gj ?_
 refine Kf ?_
 refine NE ?_;refine k_1 ?_;refine Ke ?_
 refine Gm ?_
 refine Gj ?_
 refine Kf ?_
 refine NE ?_;refine k_1 ?_;refine Ke ?_
 refine Gm ?_
 refine Gj ?_
 refine Kf ?_
 refine NE ?_;refine k_1 ?_;refine Ke ?_
 refine Gm ?_
 refine Gj ?_
 refine Kf ?_
 refine NE ?_;refine k_1 ?_;refine Ke ?_
 refine Gm ?_
 refine Gj ?_
 refine Kf ?_
 refine NE ?_;refine k_1 ?_;refine Ke ?_
 refine M2 ?_;iterate 2 refine k_k ?_
 refine As ?_;change VOk _ _ _ _ _;iterate 5 refine Aa ?_
 refine AG ?_;refine AD (AH results157 (AF rfl)) ?_;intro ρ w' hr;exact⟨_,rfl,gQ hr rfl (fun xs h hx=>by have h2:xs.take 32=_:=h;rw[List.take_of_length_le (by omega)]at h2;exact h2),hr.1⟩
def bl(n:Nat):List Nat:=[byt n 0,byt n 1,byt n 2,byt n 3,byt n 4,byt n 5,byt n 6,byt n 7,byt n 8,byt n 9,byt n 10,byt n 11,byt n 12,byt n 13,byt n 14,byt n 15,byt n 16,byt n 17,byt n 18,byt n 19,byt n 20,byt n 21,byt n 22,byt n 23,byt n 24,byt n 25,byt n 26,byt n 27,byt n 28,byt n 29,byt n 30,byt n 31]
theorem Qq(n:Nat):B32 n= .agg ((bl n).map b8).toArray:=rfl
theorem EB(n:Nat):(bl n).length=32:=rfl
theorem EZ(n:Nat): ∀x∈bl n,x<256:=fun x hx=>by
 simp only[bl,List.mem_cons,List.not_mem_nil,or_false]at hx;rcases hx with rfl|rfl|rfl|rfl|rfl|rfl|rfl|rfl|rfl|rfl|rfl|rfl|rfl|rfl|rfl|rfl|rfl|rfl|rfl|rfl|rfl|rfl|rfl|rfl|rfl|rfl|rfl|rfl|rfl|rfl|rfl|rfl<;>exact Nat.mod_lt _ (by decide)
theorem qO(hi:i<32):byt n i=n/256^(31-i) %256:=by
 unfold byt lim;obtain⟨q,r,hr,rfl⟩: ∃q r,r<8∧i=8*q+r:=⟨i/8,i %8,Nat.mod_lt _ (by decide),by omega⟩
 have hq:q<4:=by omega
 rw[show(8*q+r)/8=q by omega,show(8*q+r) %8=r by omega];have e0:(W:Nat)=256^8:=by decide
 rw[e0,←Nat.pow_mul,show(2:Nat)^(56-8*r)=256^(7-r) by rw[show(256:Nat)=2^8 by decide,←Nat.pow_mul];congr 1;omega];have e1:(256:Nat)^8=256^(7-r)*(256*256^r):=by rw[←Nat.pow_succ',←Nat.pow_add];congr 1;omega
 rw[e1,Nat.mod_mul_right_div_self,Nat.mod_mul_right_mod,Nat.div_div_eq_div_mul,←Nat.pow_add,show 8*(3-q)+(7-r)=31-(8*q+r) by omega]
theorem G6{l:List Nat}(hl:l.length=32)(h8: ∀x∈l,x<256):bl (TollBy.beV l 0)=l:=by
 apply List.ext_getElem?;intro i;by_cases hi:i<32
 ·have h1:=TollBy.beV_get l h8 i (by omega)
  rw[hl]at h1
  have h2:(bl (TollBy.beV l 0))[i]? =some (byt (TollBy.beV l 0) i):=by
   have h3:bl (TollBy.beV l 0)=(List.range 32).map (byt (TollBy.beV l 0)):=rfl;rw[h3,List.getElem?_map,List.getElem?_range hi];rfl
  rw[h2,qO hi,h1,List.getD_eq_getElem?_getD,List.getElem?_eq_getElem (by omega)];rfl
 ·rw[List.getElem?_eq_none (by rw[EB];omega),List.getElem?_eq_none (by omega)]
theorem IX{l:List Nat}(hl:l.length=32)(h8: ∀x∈l,x<256):TollBy.beV l 0<R:=by
 have:=TollBy.beV_lt l h8;rw[hl]at this;exact Nat.lt_of_lt_of_le this (by decide)
theorem oc{x:Operand}{l:List Nat}(hd:o.dst=some id)(ho:o.op= .box ty x)(hgd:AQ ops o s)(hx:AE s x= .v v)(hv:v= .agg (l.map b8).toArray):Ev P ops w0 o s ⟨.p id 0,[(id,.arr (l.map b8) ty)],[],[id],[]⟩:=
 ae hd ho hgd hx (by rw[hv];rfl)
theorem HV{x y:Operand}{l:List Nat}(ho:o.op= .store ty x y)(hgd:AQ ops o s)(hx:AE s x= .p id 0)(hm:s.mem id=some (.arr l0 bt))(hy:AE s y= .v (.agg (l.map b8).toArray))
 (hs: ∀w,(Go.sizeOf ty).run P w= .ok n w)(h0:l0.length=n)(hl:l.length=n):Ev P ops w0 o s ⟨.v undef,[(id,.arr (l.map b8) bt)],[id],[],[id]⟩:=
 Et ho hgd hx hm hy hs (by simp[Value.cells,hl]) (by omega) (by show(l.map b8).all _=true;exact DR _) (by rw[List.take_zero,List.nil_append,List.drop_of_length_le (by omega),List.append_nil];simp[Value.cells])
theorem aU{x:Operand}{l:List Nat}(ho:o.op= .load ty x)(hgd:AQ ops o s)(hx:AE s x= .p id 0)(hm:s.mem id=some (.arr (l.map b8) bt))
 (hu:P.underlying ty=some d)(hd:Ba d=true)(hs: ∀w,(Go.sizeOf ty).run P w= .ok n w)(hl:l.length=n):Ev P ops w0 o s ⟨.v (.agg (l.map b8).toArray),[],[],[],[id]⟩:=
 aR ho hgd hx hm hu hd hs (List.take_of_length_le (by simp[hl])) (by simp[hl])
theorem ny{l:List Nat}(ho:o.op= .build ty #[])(hgd:AQ ops o s)(h:P.built ty []=some (l.map b8).toArray):Ev P ops w0 o s ⟨.v (.agg (l.map b8).toArray),[],[],[],[]⟩:=
 A6 ho hgd rfl h
theorem EH{base:Nat}{w:World}{m:Mem}{size:Nat}{l:List Value}(hR:RelOn base ρ S w (restr rd m))(hid:id∈rd)(hm:m id=some (.row n size ty (.exact l))):AO w (SV.c ρ (.d id)) n size l (fun k=>k=(ρ id).g):=by
 obtain⟨xs,x1,x2,x3⟩:=relon_get hR hm hid;have x2':xs=l:=x2;subst x2';exact DX x3 x1
theorem WT{m:Mem}{l:List Nat}(hid:id∈rd)(hm:m id=some (.row n 1 e (.exact (l.map b8))))(hn:l.length=n):LV w0 m rd (.d id) l.length (l.map b8):=by rw[hn];exact Ol hid hm
theorem EI{m:Mem}{len:Nat}{l:List Nat}(hid:id∈rd)(hm:m id=some (.arr (l.map b8) ty))(hn:l.length=len)(hc:len≤cap):LV w0 m rd (.s id 0 len cap) l.length (l.map b8):=by
 rw[hn];exact WU hid hm (by rw[List.length_map];exact hn) hc
theorem X5{len:Nat}:(SV.c ρ (.s id off len cap)).cells.toList=SV.cs ρ [.s id off len cap]:=rfl
theorem ay:(convert 3 5 (.int .i64 0)).run prog w= .ok (.int .u8 0) w:=by go_simp;rfl
theorem aw:(convert 3 5 (.int .i64 1)).run prog w= .ok (.int .u8 1) w:=by go_simp;rfl
theorem dG:prog.built 64 []=some #[.int .u8 0,.int .u8 0,.int .u8 0,.int .u8 0,.int .u8 0,.int .u8 0,.int .u8 0,.int .u8 0,.int .u8 0,.int .u8 0,.int .u8 0,.int .u8 0,.int .u8 0,.int .u8 0,.int .u8 0,.int .u8 0,.int .u8 0,.int .u8 0,.int .u8 0,.int .u8 0,.int .u8 0,.int .u8 0,.int .u8 0,.int .u8 0,.int .u8 0,.int .u8 0,.int .u8 0,.int .u8 0,.int .u8 0,.int .u8 0,.int .u8 0,.int .u8 0]:=by kernel_rfl
def nK1(d h:Nat):List Nat:=CH (List.replicate 32 0) [List.replicate 32 1,[0],bl d,bl h].flatten
def nV1(d h:Nat):List Nat:=CH (nK1 d h) [List.replicate 32 1].flatten
def nK2(d h:Nat):List Nat:=CH (nK1 d h) [nV1 d h,[1],bl d,bl h].flatten
def nV2(d h:Nat):List Nat:=CH (nK2 d h) [nV1 d h].flatten
def nV3(d h:Nat):List Nat:=CH (nK2 d h) [nV2 d h].flatten
theorem sQ{d:Nat}(_hd:d<R)(hh:h<R)(hk:k<R)(w:World)(hL:Laid w)(hK:B6 w)(hH:CQ w)(hb1:7<w.heap.size)(hn:nV3 d (h %nn)=bl k)(hs:sec k=true):Calls prog 105 #[B32 d,B32 h] w fun e w'=>e= .returned (B32 k)∧Bw w w':=by
 obtain⟨D,hD⟩: ∃x,bl d=x:=⟨_,rfl⟩
 have hDl:D.length=32:=by rw[←hD];rfl
 have hD8: ∀x∈D,x<256:=by rw[←hD];exact EZ d
 obtain⟨M,hM⟩: ∃x,bl (h %nn)=x:=⟨_,rfl⟩
 have hMl:M.length=32:=by rw[←hM];rfl
 have hM8: ∀x∈M,x<256:=by rw[←hM];exact EZ _
 obtain⟨Z,hZ⟩: ∃x,(List.replicate 32 0:List Nat)=x:=⟨_,rfl⟩
 have hZl:Z.length=32:=by rw[←hZ];simp
 have hZ8: ∀x∈Z,x<256:=by rw[←hZ];decide
 obtain⟨O,hO⟩: ∃x,(List.replicate 32 1:List Nat)=x:=⟨_,rfl⟩
 have hOl:O.length=32:=by rw[←hO];simp
 have hO8: ∀x∈O,x<256:=by rw[←hO];decide
 obtain⟨K1,hK1⟩: ∃x,CH Z [O,[0],D,M].flatten=x:=⟨_,rfl⟩
 have hK1l:K1.length=32:=by rw[←hK1];exact NJ _ _
 have hK18: ∀x∈K1,x<256:=by rw[←hK1];exact NI _ _
 obtain⟨V1,hV1⟩: ∃x,CH K1 [O].flatten=x:=⟨_,rfl⟩
 have hV1l:V1.length=32:=by rw[←hV1];exact NJ _ _
 have hV18: ∀x∈V1,x<256:=by rw[←hV1];exact NI _ _
 obtain⟨K2,hK2⟩: ∃x,CH K1 [V1,[1],D,M].flatten=x:=⟨_,rfl⟩
 have hK2l:K2.length=32:=by rw[←hK2];exact NJ _ _
 have hK28: ∀x∈K2,x<256:=by rw[←hK2];exact NI _ _
 obtain⟨V2,hV2⟩: ∃x,CH K2 [V1].flatten=x:=⟨_,rfl⟩
 have hV2l:V2.length=32:=by rw[←hV2];exact NJ _ _
 have hV28: ∀x∈V2,x<256:=by rw[←hV2];exact NI _ _
 obtain⟨V3,hV3⟩: ∃x,CH K2 [V2].flatten=x:=⟨_,rfl⟩
 have hV3l:V3.length=32:=by rw[←hV3];exact NJ _ _
 have hV38: ∀x∈V3,x<256:=by rw[←hV3];exact NI _ _
 have hVk:V3=bl k:=by rw[←hn,←hV3,←hV2,←hK2,←hV1,←hK1,←hZ,←hO,←hD,←hM];rfl
 go_enter func105,ntmps105
 refine Bz ?_
 refine AX (by exact oc (l:=D) rfl rfl gg rfl (by rw[←hD];rfl)) ?_;refine Aa ?_;refine TI ?_;iterate 3 refine k_k ?_
 refine JL ?_
 refine FT ?_;refine E5 ?_;iterate 4 refine Aa ?_
 refine k_2 ?_;refine NB ?_;refine AX (by exact Aj (v:=N (h %nn)) [12] rfl gg rfl (eo func88) (fun ρ S w' hb hR=>by obtain⟨g,e1,_,e3⟩:=Gc (id:=12) hR (by simp) rfl;have e1':(ρ 12).val=ptr g:=(by simpa using e1);have a:=Hu mdn hh w' (av e3);show Calls prog 88 #[(ρ 12).val,N h] w' _;rw[e1'];exact a.mono fun _ _ q=>⟨q.1,q.2.b⟩)) ?_;refine AX (by exact AM (v:= .agg (M.map b8).toArray) rfl gg rfl (eo func86) (fun w' hw'=>by have a:=LO (h %nn) w';rw[Qq,hM]at a;exact a)) ?_;refine TI ?_;refine AX (by exact HV (l:=M) rfl gg rfl rfl rfl sizeOf64 (by simp) hMl) ?_;iterate 3 refine k_k ?_
 refine AX (by exact ny (l:=Z) rfl gg (by rw[←hZ];exact dG)) ?_;refine AX (by exact BL rfl rfl gg rfl (e:=5) (l:=[.int .u8 1]) rfl (by decide) (fun _=>by kernel_rfl)) ?_;refine AX (by exact Cs [21] rfl rfl gg rfl (eo func157) (n:=32) (size:=1) (l:=List.replicate 32 (.int .u8 1)) (by simp) (fun ρ S w' hb hR=>gV w' (EH (id:=21) hR (by simp) rfl))) ?_;refine AX (by exact LJ rfl gg rfl underlying64 (BI rfl) (by decide)) ?_;refine AX (by exact P8 (vs:=O.map b8) rfl gg rfl underlying64 rfl sizeOf64 (BI rfl) (by rw[←hO];rfl) (by simp[hOl]) (by decide)) ?_;iterate 2 refine TI ?_
 refine AX (by exact HV (l:=Z) rfl gg rfl rfl rfl sizeOf64 (by simp) hZl) ?_;refine AX (by exact HV (l:=O) rfl gg rfl rfl rfl sizeOf64 (by simp) hOl) ?_;iterate 7 refine Aa ?_
 refine Br 3 ?_;refine Ch ?_
 refine M2 ?_;iterate 13 refine Aa ?_
 iterate 2 refine F9 ?_
 refine Aa ?_;refine AX (by first|exact B1 rfl gg rfl ay|exact B1 rfl gg rfl aw) ?_;refine AX (by exact BL rfl rfl gg rfl (e:=5) (l:=[0].map b8) rfl (by decide) (fun _=>by kernel_rfl)) ?_;iterate 2 refine F9 ?_
 refine ZN ?_;refine AX (by exact Aj (v:= .agg (K1.map b8).toArray) [8,9,32,2,7,35] rfl gg rfl (eo func158) (fun ρ S w' hb hR=>by have a:=Me (key:=Z) (ls:=[O,[0],D,M]) w' (hK.bw hb) (hH.bw hb) (Nat.lt_of_lt_of_le hb1 hb.size) (EI (rd:=[8,9,32,2,7,35]) (id:=8) (len:=32) (cap:=32) (by simp) rfl hZl (by decide) ρ S w' hb hR) (by rw[hZl];decide) hZ8 (H4 (id:=35) (n:=4) (by simp) (by rfl) rfl (by exact⟨⟨EI (id:=9) (len:=32) (cap:=32) (by simp) rfl hOl (by decide),hO8⟩,⟨WT (id:=32) (by simp) rfl rfl,(by decide)⟩,⟨EI (id:=2) (len:=32) (cap:=32) (by simp) rfl hDl (by decide),hD8⟩,⟨EI (id:=7) (len:=32) (cap:=32) (by simp) rfl hMl (by decide),hM8⟩,trivial⟩) ρ S w' hb hR) (Ja hb hR) (by simp[hOl,hDl,hMl]) (by simp);rw[hK1]at a;exact a)) ?_;refine AX (by exact HV (l:=K1) rfl gg rfl rfl rfl sizeOf64 (by simp[hZl]) hK1l) ?_;iterate 2 refine k_k ?_
 iterate 2 refine F9 ?_
 refine TG ?_;refine AX (by exact Aj (v:= .agg (V1.map b8).toArray) [8,9,39] rfl gg rfl (eo func158) (fun ρ S w' hb hR=>by have a:=Me (key:=K1) (ls:=[O]) w' (hK.bw hb) (hH.bw hb) (Nat.lt_of_lt_of_le hb1 hb.size) (EI (rd:=[8,9,39]) (id:=8) (len:=32) (cap:=32) (by simp) rfl hK1l (by decide) ρ S w' hb hR) (by rw[hK1l];decide) hK18 (H4 (id:=39) (n:=1) (by simp) (by rfl) rfl (by exact⟨⟨EI (id:=9) (len:=32) (cap:=32) (by simp) rfl hOl (by decide),hO8⟩,trivial⟩) ρ S w' hb hR) (Ja hb hR) (by simp[hOl]) (by simp);rw[hV1]at a;exact a)) ?_;refine AX (by exact HV (l:=V1) rfl gg rfl rfl rfl sizeOf64 (by simp[hOl]) hV1l) ?_;iterate 2 refine k_k ?_
 refine ZS ?_;iterate 2 refine Aa ?_
 refine Ea (fun i=>decide (i<12)||i==25) [32,35,39] (fun f=>by simp[B0];exact rfl) (by simp[BQ];exact rfl) fun f=> ?_
 iterate 2 refine k_k ?_
 refine M2 ?_;iterate 13 refine Aa ?_
 iterate 2 refine F9 ?_
 refine Aa ?_;refine AX (by first|exact B1 rfl gg rfl ay|exact B1 rfl gg rfl aw) ?_;refine AX (by exact BL rfl rfl gg rfl (e:=5) (l:=[1].map b8) rfl (by decide) (fun _=>by kernel_rfl)) ?_;iterate 2 refine F9 ?_
 refine ZN ?_;refine AX (by exact Aj (v:= .agg (K2.map b8).toArray) [8,9,32,2,7,35] rfl gg rfl (eo func158) (fun ρ S w' hb hR=>by have a:=Me (key:=K1) (ls:=[V1,[1],D,M]) w' (hK.bw hb) (hH.bw hb) (Nat.lt_of_lt_of_le hb1 hb.size) (EI (rd:=[8,9,32,2,7,35]) (id:=8) (len:=32) (cap:=32) (by simp) rfl hK1l (by decide) ρ S w' hb hR) (by rw[hK1l];decide) hK18 (H4 (id:=35) (n:=4) (by simp) (by rfl) rfl (by exact⟨⟨EI (id:=9) (len:=32) (cap:=32) (by simp) rfl hV1l (by decide),hV18⟩,⟨WT (id:=32) (by simp) rfl rfl,(by decide)⟩,⟨EI (id:=2) (len:=32) (cap:=32) (by simp) rfl hDl (by decide),hD8⟩,⟨EI (id:=7) (len:=32) (cap:=32) (by simp) rfl hMl (by decide),hM8⟩,trivial⟩) ρ S w' hb hR) (Ja hb hR) (by simp[hV1l,hDl,hMl]) (by simp);rw[hK2]at a;exact a)) ?_;refine AX (by exact HV (l:=K2) rfl gg rfl rfl rfl sizeOf64 (by simp[hK1l]) hK2l) ?_;iterate 2 refine k_k ?_
 iterate 2 refine F9 ?_
 refine TG ?_;refine AX (by exact Aj (v:= .agg (V2.map b8).toArray) [8,9,39] rfl gg rfl (eo func158) (fun ρ S w' hb hR=>by have a:=Me (key:=K2) (ls:=[V1]) w' (hK.bw hb) (hH.bw hb) (Nat.lt_of_lt_of_le hb1 hb.size) (EI (rd:=[8,9,39]) (id:=8) (len:=32) (cap:=32) (by simp) rfl hK2l (by decide) ρ S w' hb hR) (by rw[hK2l];decide) hK28 (H4 (id:=39) (n:=1) (by simp) (by rfl) rfl (by exact⟨⟨EI (id:=9) (len:=32) (cap:=32) (by simp) rfl hV1l (by decide),hV18⟩,trivial⟩) ρ S w' hb hR) (Ja hb hR) (by simp[hV1l]) (by simp);rw[hV2]at a;exact a)) ?_;refine AX (by exact HV (l:=V2) rfl gg rfl rfl rfl sizeOf64 (by simp[hV1l]) hV2l) ?_;iterate 2 refine k_k ?_
 refine ZS ?_;iterate 2 refine Aa ?_
 refine Ea (fun i=>decide (i<12)||i==25) [32,35,39] (fun f=>by simp[B0];exact rfl) (by simp[BQ];exact rfl) fun f=> ?_
 iterate 2 refine k_k ?_
 refine M2 ?_;iterate 3 refine k_k ?_
 refine As ?_;change VOk _ _ _ _ _;refine k_k ?_;refine Br 1 ?_;refine ZF ?_
 iterate 2 refine F9 ?_
 refine TG ?_;refine AX (by exact Aj (v:= .agg (V3.map b8).toArray) [8,9,44] rfl gg rfl (eo func158) (fun ρ S w' hb hR=>by have a:=Me (key:=K2) (ls:=[V2]) w' (hK.bw hb) (hH.bw hb) (Nat.lt_of_lt_of_le hb1 hb.size) (EI (rd:=[8,9,44]) (id:=8) (len:=32) (cap:=32) (by simp) rfl hK2l (by decide) ρ S w' hb hR) (by rw[hK2l];decide) hK28 (H4 (id:=44) (n:=1) (by simp) (by rfl) rfl (by exact⟨⟨EI (id:=9) (len:=32) (cap:=32) (by simp) rfl hV2l (by decide),hV28⟩,trivial⟩) ρ S w' hb hR) (Ja hb hR) (by simp[hV2l]) (by simp);rw[hV3]at a;exact a)) ?_;refine AX (by exact HV (l:=V3) rfl gg rfl rfl rfl sizeOf64 (by simp[hV2l]) hV3l) ?_;iterate 4 refine k_k ?_
 refine AX (by exact aU (l:=V3) rfl gg rfl rfl underlying64 rfl sizeOf64 hV3l) ?_;refine AX (by exact Ad (v:= .bool true) rfl gg rfl (eo func79) (fun w' hw'=>by have a:=LC hk w' (hL.bw hw');rw[hs,Qq,←hVk]at a;exact a)) ?_;iterate 4 refine k_k ?_
 refine AX (by exact aU (l:=V3) rfl gg rfl rfl underlying64 rfl sizeOf64 hV3l) ?_;refine AX (by exact HV (l:=V3) rfl gg rfl rfl rfl sizeOf64 (by simp) hV3l) ?_;refine EP ?_;refine AD (AH results105 (KC (vs:=V3.map b8) rfl rfl underlying64 rfl sizeOf64 (List.take_of_length_le (by simp[hV3l])) (by simp[hV3l]))) ?_;intro ρ w' hr;exact⟨by rw[hVk];rfl,hr.1⟩
theorem o3{p:Pt}(_hp:p.on)(h:p= .inf)(a b:Operand)(w:World):(do eqGuard .eql 141 a b (PV p) (.agg #[.int .u8 0,.int .u8 0,.int .u8 0,.int .u8 0,.int .u8 0,.int .u8 0,.int .u8 0,.int .u8 0,.int .u8 0,.int .u8 0,.int .u8 0,.int .u8 0,.int .u8 0,.int .u8 0,.int .u8 0,.int .u8 0,.int .u8 0,.int .u8 0,.int .u8 0,.int .u8 0,.int .u8 0,.int .u8 0,.int .u8 0,.int .u8 0,.int .u8 0,.int .u8 0,.int .u8 0,.int .u8 0,.int .u8 0,.int .u8 0,.int .u8 0,.int .u8 0,.int .u8 0,.int .u8 0,.int .u8 0,.int .u8 0,.int .u8 0,.int .u8 0,.int .u8 0,.int .u8 0,.int .u8 0,.int .u8 0,.int .u8 0,.int .u8 0,.int .u8 0,.int .u8 0,.int .u8 0,.int .u8 0,.int .u8 0,.int .u8 0,.int .u8 0,.int .u8 0,.int .u8 0,.int .u8 0,.int .u8 0,.int .u8 0,.int .u8 0,.int .u8 0,.int .u8 0,.int .u8 0,.int .u8 0,.int .u8 0,.int .u8 0,.int .u8 0]);binOp .eql 141 (PV p) (.agg #[.int .u8 0,.int .u8 0,.int .u8 0,.int .u8 0,.int .u8 0,.int .u8 0,.int .u8 0,.int .u8 0,.int .u8 0,.int .u8 0,.int .u8 0,.int .u8 0,.int .u8 0,.int .u8 0,.int .u8 0,.int .u8 0,.int .u8 0,.int .u8 0,.int .u8 0,.int .u8 0,.int .u8 0,.int .u8 0,.int .u8 0,.int .u8 0,.int .u8 0,.int .u8 0,.int .u8 0,.int .u8 0,.int .u8 0,.int .u8 0,.int .u8 0,.int .u8 0,.int .u8 0,.int .u8 0,.int .u8 0,.int .u8 0,.int .u8 0,.int .u8 0,.int .u8 0,.int .u8 0,.int .u8 0,.int .u8 0,.int .u8 0,.int .u8 0,.int .u8 0,.int .u8 0,.int .u8 0,.int .u8 0,.int .u8 0,.int .u8 0,.int .u8 0,.int .u8 0,.int .u8 0,.int .u8 0,.int .u8 0,.int .u8 0,.int .u8 0,.int .u8 0,.int .u8 0,.int .u8 0,.int .u8 0,.int .u8 0,.int .u8 0,.int .u8 0]):Sem Value).run prog w= .ok (.bool true) w:=by
 subst h;exact o4 a b w
theorem LD{x:Operand}{b:Nat}(ho:o.op= .slice ty x lo hi none)(hgd:AQ ops o s)(hx:AE s x= .p id off)
 (hu:P.underlying ty=some (.array n el))(hs: ∀w,(Go.sizeOf el).run P w= .ok 1 w)(hlo:(match lo with|none=>SV.v (.int .i64 (0:Nat))|some z=>AE s z)= .v (.int .i64 (a:Nat)))(hhi:(match hi with|none=>SV.v (.int .i64 (n:Nat))|some z=>AE s z)= .v (.int .i64 (b:Nat)))(h1:a≤b)(h2:b≤n)(h3:a<n):
 Ev P ops w0 o s ⟨.s id (off+a) (b-a) (n-a),[],[],[],[]⟩:=
 Ev.run _ _ hgd fun ρ S w hb hR=>by
  have e1:=AI s ρ x;rw[hx]at e1
  have hbd: ∀(k m:Nat) (c:BoundsCode),k≤m→(Instr.sliceBound (.int .i64 (k:Nat)) m c).run P w= .ok k w:=by
   intro k m c hk;unfold Instr.sliceBound;rw[Sem.run_bind];simp only[asIntOf,Sem.run_pure,Result.andThen_ok];rw[if_pos ⟨by omega,by omega⟩];rfl
  have e2: ∀z,lo=some z→(s.act ρ).eval z= .int .i64 (a:Nat):=fun z hz=>by rw[AI];rw[hz]at hlo;simp only at hlo;rw[hlo];simp[SV.c]
  have e3: ∀z,hi=some z→(s.act ρ).eval z= .int .i64 (b:Nat):=fun z hz=>by rw[AI];rw[hz]at hhi;simp only at hhi;rw[hhi];simp[SV.c]
  have ea:lo=none→a=0:=fun hz=>by
   rw[hz]at hlo;simp only[SV.v.injEq,Value.int.injEq,true_and]at hlo;omega
  have eb:hi=none→b=n:=fun hz=>by
   rw[hz]at hhi;simp only[SV.v.injEq,Value.int.injEq,true_and]at hhi;omega
  have key: ∀t:Bool,(Instr.sliceBounds t n n (lo.map (s.act ρ).eval) (hi.map (s.act ρ).eval) none).run P w= .ok (a,b,n) w:=by
   intro t;unfold Instr.sliceBounds;cases hi with
   |none=>
    have:=eb rfl;subst this;cases lo with
    |none=>have:=ea rfl;subst this;simp
    |some z=>simp[e2 z rfl,hbd a b _ h1]
   |some y'=>
    cases lo with
    |none=>have:=ea rfl;subst this;simp[e3 y' rfl,hbd b n _ (by omega)]
    |some z=>simp[e2 z rfl,e3 y' rfl,hbd a b _ h1,hbd b n _ (by omega)]
  simp[execOp,ho,e1,SV.c,Instr.sliceAt,run_underlying hu,Instr.sureAddr,key,hs,Bd];omega
theorem PD{w:World}{base:Nat}{m:Mem}(hR:RelOn base ρ S w (restr rd m))(hid:id∈rd)(hm:m id=some (.dat (HY n))): ∃g,(ρ id).val=ptr g∧At w g n:=by
 obtain⟨g,e1,_,e3⟩:=Gc hR hid hm;exact⟨g,by simpa using e1,av e3⟩
section
variable{ρ:Nat→Nm}{S:Nat→Nat→Prop}{w:World}{base:Nat}{m:Mem}{rd:List Nat}{id:Nat}{x y:Nat}
theorem QP(hR:RelOn base ρ S w (restr rd m))(hid:id∈rd)(hm:m id=some (.dat (HY nn)))(hx:x<R)(hy:y<R):Calls prog 83 #[(ρ id).val,N x,N y] w fun e w'=>e= .returned (N (x*y %nn))∧Bw w w':=by
 obtain⟨g,e,h⟩:=PD hR hid hm;rw[e];exact(Yd mdn hx hy w h).mono fun _ _ q=>⟨q.1,q.2.b⟩
theorem qD(hR:RelOn base ρ S w (restr rd m))(hid:id∈rd)(hm:m id=some (.dat (HY nn)))(hx:x<R)(hy:y<R):Calls prog 106 #[(ρ id).val,N x,N y] w fun e w'=>e= .returned (N ((x+y) %nn))∧Bw w w':=by
 obtain⟨g,e,h⟩:=PD hR hid hm;rw[e];exact(Yn mdn hx hy w h).mono fun _ _ q=>⟨q.1,q.2.b⟩
theorem bI(hR:RelOn base ρ S w (restr rd m))(hid:id∈rd)(hm:m id=some (.dat (HY nn)))(hx:x<R):Calls prog 88 #[(ρ id).val,N x] w fun e w'=>e= .returned (N (x %nn))∧Bw w w':=by
 obtain⟨g,e,h⟩:=PD hR hid hm;rw[e];exact(Hu mdn hx w h).mono fun _ _ q=>⟨q.1,q.2.b⟩
theorem bM(hR:RelOn base ρ S w (restr rd m))(hid:id∈rd)(hm:m id=some (.dat (HY nn)))(hx:x<R)(hi:i<nn)(hv:i*x %nn=1):Calls prog 81 #[(ρ id).val,N x] w fun e w'=>e= .returned (.tuple #[N i,.int .i64 0])∧Bw w w':=by
 obtain⟨g,e,h⟩:=PD hR hid hm;have a:=Tj mdn hx w h
 rw[if_pos (by
  have h1:Nat.gcd x nn∣i*x %nn:=(Nat.dvd_mod_iff (Nat.gcd_dvd_right _ _)).2 (Nat.dvd_trans (Nat.gcd_dvd_left _ _) ⟨i,Nat.mul_comm _ _⟩);rw[hv]at h1;exact Nat.dvd_one.1 h1),Sv hi hv]at a
 rw[e];exact a.mono fun _ _ q=>⟨q.1,q.2.b⟩
end
theorem PR(h:x<nn):x<R:=Nat.lt_trans h (by decide)
theorem IB(x:Nat):x %nn<R:=PR (Nat.mod_lt _ (by decide))
theorem eqN(hx:x<R)(hy:y<R)(p q:Operand)(w:World):(do eqGuard .eql 147 p q (N x) (N y);binOp .eql 147 (N x) (N y):Sem Value).run prog w= .ok (.bool (decide (x=y))) w:=by
 have:=NX 147 (.inl rfl) (lim x 0) (lim x 1) (lim x 2) (lim x 3) (lim y 0) (lim y 1) (lim y 2) (lim y 3) p q w;have e:decide (lim x 0=lim y 0∧lim x 1=lim y 1∧lim x 2=lim y 2∧lim x 3=lim y 3)=decide (x=y):=decide_eq_decide.2 ⟨fun⟨a,b,c,d⟩=>JI hx hy a b c d,fun h=>by rw[h];exact⟨rfl,rfl,rfl,rfl⟩⟩;rw[e]at this;exact this
theorem neN(hx:x<R)(hy:y<R)(p q:Operand)(w:World):(do eqGuard .neq 147 p q (N x) (N y);binOp .neq 147 (N x) (N y):Sem Value).run prog w= .ok (.bool (!decide (x=y))) w:=by
 have:=Sl (lim x 0) (lim x 1) (lim x 2) (lim x 3) (lim y 0) (lim y 1) (lim y 2) (lim y 3) p q w;have e:decide (lim x 0=lim y 0∧lim x 1=lim y 1∧lim x 2=lim y 2∧lim x 3=lim y 3)=decide (x=y):=decide_eq_decide.2 ⟨fun⟨a,b,c,d⟩=>JI hx hy a b c d,fun h=>by rw[h];exact⟨rfl,rfl,rfl,rfl⟩⟩;rw[e]at this;exact this
theorem Ya{b:Bool}(hx:x<R)(hy:y<R)(h:decide (x=y)= !b)(p q:Operand)(w:World):(do eqGuard .neq 147 p q (N x) (N y);binOp .neq 147 (N x) (N y):Sem Value).run prog w= .ok (.bool b) w:=by
 rw[neN hx hy,h,Bool.not_not]
theorem ai(hx:x<R)(h:x≠0)(p q:Operand)(w:World):(do eqGuard .eql 147 p q (N x) (.agg #[.int .u64 0,.int .u64 0,.int .u64 0,.int .u64 0]);binOp .eql 147 (N x) (.agg #[.int .u64 0,.int .u64 0,.int .u64 0,.int .u64 0]):Sem Value).run prog w= .ok (.bool false) w:=by
 have:=eqN hx (by decide:0<R) p q w;rw[decide_eq_false h,dA]at this;exact this
theorem bi:prog.built 147 []=some #[.int .u64 0,.int .u64 0,.int .u64 0,.int .u64 0]:=by kernel_rfl
theorem sU{d:Nat}{Q:Pt}(hd:d<R)(hh:h<R)(hk:k<R)(w:World)(hL:Laid w)(hK:B6 w)(hH:CQ w)(hb1:7<w.heap.size)(sd:sec d=true)(hn:nV3 d (h %nn)=bl k)(hs:sec k=true)(hQ:Au k base=Q)(hr:xv Q %nn=r)(hi:i<nn)(hv:i*k %nn=1)(ht:i*((h+r*d %nn) %nn) %nn=t)(hr0:r≠0)(ht0:t≠0):Calls prog 58 #[B32 d,B32 h] w fun e w'=>e= .returned (.tuple #[PT r t,.int .i64 0])∧Bw w w':=by
 have hrR:r<R:=by rw[←hr];exact IB _
 have htR:t<R:=by rw[←ht];exact IB _
 go_enter func58,ntmps58
 refine A4 ?_;iterate 4 refine Aa ?_
 refine AX (by exact BZ rfl rfl gg zeroValue22) ?_;iterate 4 refine Aa ?_
 refine AX (by exact BZ rfl rfl gg zeroValue22) ?_;iterate 4 refine k_k ?_
 refine k_2 ?_;refine AX (by exact Ad (v:= .bool true) rfl gg rfl (eo func79) (fun w' hw'=>by have a:=LC hd w' (hL.bw hw');rw[sd]at a;exact a)) ?_;refine II ?_
 refine JL ?_
 refine FT ?_;refine E5 ?_;iterate 3 refine k_k ?_
 iterate 2 refine k_2 ?_
 refine AX (by exact Ad rfl gg rfl (eo func105) (fun w' hw'=>sQ hd hh hk w' (hL.bw hw') (hK.bw hw') (hH.bw hw') (Nat.lt_of_lt_of_le hb1 hw'.size) hn hs)) ?_;refine JS ?_;refine TE ?_;iterate 4 refine Aa ?_
 refine k_2 ?_;refine NC ?_;refine AX (by exact AM rfl gg rfl (eo func85) (fun w' hw'=>Ui hk hQ TollEc.base_on w' (hL.bw hw'))) ?_;refine AX (by exact oO rfl gg rfl underlying141 rfl underlying64 rfl sizeOf64 (vs:=l32 (xv Q)) rfl) ?_;refine AX (by exact AM rfl gg rfl (eo func82) (fun w' hw'=>ofN (xv Q) (Hd Q) w')) ?_;refine AX (by exact Aj (v:=N r) [21] rfl gg rfl (eo func88) (fun ρ S w' hb hR=>hr▸bI (id:=21) hR (by simp) rfl (Hd Q))) ?_;refine Fo ?_;iterate 4 refine Aa ?_
 refine k_2 ?_;refine AX (by exact AM rfl gg rfl (eo func82) (fun w' hw'=>ofN k hk w')) ?_;refine AX (by exact Aj (v:= .tuple #[N i,.int .i64 0]) [21] rfl gg rfl (eo func81) (fun ρ S w' hb hR=>bM (id:=21) hR (by simp) rfl hk hi hv)) ?_;iterate 3 refine Aa ?_
 refine Fo ?_;iterate 5 refine Aa ?_
 refine k_5 ?_;refine Aa ?_;refine k_2 ?_;refine NB ?_;refine Aa ?_;refine k_5 ?_;refine k_2 ?_;refine AX (by exact AM rfl gg rfl (eo func82) (fun w' hw'=>ofN d hd w')) ?_;refine AX (by exact Aj (v:=N (r*d %nn)) [21] rfl gg rfl (eo func83) (fun ρ S w' hb hR=>QP (id:=21) hR (by simp) rfl hrR hd)) ?_;refine AX (by exact Aj (v:=N ((h+r*d %nn) %nn)) [21] rfl gg rfl (eo func106) (fun ρ S w' hb hR=>qD (id:=21) hR (by simp) rfl hh (IB _))) ?_;refine AX (by exact Aj (v:=N t) [21] rfl gg rfl (eo func83) (fun ρ S w' hb hR=>ht▸QP (id:=21) hR (by simp) rfl (PR hi) (IB _))) ?_;refine Fo ?_;iterate 5 refine Aa ?_
 refine IM ?_;refine Aa ?_;refine M5 ?_;refine AX (by first|exact Ev.skip (fun _=>rfl)|exact A6 rfl (fun _=>rfl) rfl bi) ?_;refine AX (by first|exact Ev.skip (fun _=>rfl)|exact AK (c:= .bool false) rfl (fun _=>rfl) rfl rfl (fun w=>ai hrR hr0 _ _ w)) ?_;refine Mp ?_;refine M5 ?_;refine AX (by first|exact Ev.skip (fun _=>rfl)|exact A6 rfl (fun _=>rfl) rfl bi) ?_;refine AX (by first|exact Ev.skip (fun _=>rfl)|exact AK (c:= .bool false) rfl (fun _=>rfl) rfl rfl (fun w=>ai htR ht0 _ _ w)) ?_;refine II ?_
 refine k_5 ?_;refine AX (by exact AM rfl gg rfl (eo func86) (fun w' hw'=>LO r w')) ?_;refine k_5 ?_;refine AX (by exact AM rfl gg rfl (eo func86) (fun w' hw'=>LO t w')) ?_;iterate 2 refine JS ?_
 iterate 2 refine TE ?_
 iterate 3 refine k_k ?_
 refine Ks ?_;refine F9 ?_;refine AX (by exact aY (news:=l32 r) (len:=32) (k:=32) rfl gg rfl rfl rfl (Hw rfl rfl rfl (by decide)) underlying23 Er rfl rfl (by first|decide|simp[l32]) rfl (by decide)) ?_;iterate 3 refine k_k ?_
 refine Kt ?_;refine F9 ?_;refine AX (by exact aY (news:=l32 t) (len:=32) (k:=32) rfl gg rfl rfl rfl (Hw rfl rfl rfl (by decide)) underlying23 Er rfl rfl (by first|decide|simp[l32]) rfl (by decide)) ?_;iterate 3 refine k_k ?_
 refine AX (by first|exact BD rfl gg rfl rfl underlying22 rfl sizeOf22 rfl rfl|exact A2 rfl gg rfl underlying22 rfl sizeOf22 (by assumption) rfl|exact Bi rfl gg rfl rfl underlying22 rfl sizeOf22 rfl) ?_;refine AX (by exact BA rfl gg rfl rfl rfl sizeOf22 rfl (by simp) rfl) ?_;iterate 2 refine Aa ?_
 exact AG (AD (Av results58 (Ac rfl rfl underlying22 rfl sizeOf22 rfl rfl) (AF rfl)) fun _ _ hr=>⟨rfl,hr.1⟩)
theorem sZ(_hh:h<R)(_hr:r<R)(_ht:t<R)(w:World)(_hL:Laid w)(hrd: ∀w',Bw w w'→Calls prog 78 #[v] w' fun e w''=>e= .returned (.tuple #[.agg #[.int .u8 0,.int .u8 0,.int .u8 0,.int .u8 0,.int .u8 0,.int .u8 0,.int .u8 0,.int .u8 0,.int .u8 0,.int .u8 0,.int .u8 0,.int .u8 0,.int .u8 0,.int .u8 0,.int .u8 0,.int .u8 0,.int .u8 0,.int .u8 0,.int .u8 0,.int .u8 0,.int .u8 0,.int .u8 0,.int .u8 0,.int .u8 0,.int .u8 0,.int .u8 0,.int .u8 0,.int .u8 0,.int .u8 0,.int .u8 0,.int .u8 0,.int .u8 0,.int .u8 0,.int .u8 0,.int .u8 0,.int .u8 0,.int .u8 0,.int .u8 0,.int .u8 0,.int .u8 0,.int .u8 0,.int .u8 0,.int .u8 0,.int .u8 0,.int .u8 0,.int .u8 0,.int .u8 0,.int .u8 0,.int .u8 0,.int .u8 0,.int .u8 0,.int .u8 0,.int .u8 0,.int .u8 0,.int .u8 0,.int .u8 0,.int .u8 0,.int .u8 0,.int .u8 0,.int .u8 0,.int .u8 0,.int .u8 0,.int .u8 0,.int .u8 0],.int .i64 15])∧Bw w' w''):Calls prog 46 #[v,B32 h,PT r t] w fun e w'=>e= .returned (.int .i64 15)∧Bw w w':=by
 go_enter func46,ntmps46
 refine FI ?_
 refine AX (by exact Ad (v:= .tuple #[.agg #[.int .u8 0,.int .u8 0,.int .u8 0,.int .u8 0,.int .u8 0,.int .u8 0,.int .u8 0,.int .u8 0,.int .u8 0,.int .u8 0,.int .u8 0,.int .u8 0,.int .u8 0,.int .u8 0,.int .u8 0,.int .u8 0,.int .u8 0,.int .u8 0,.int .u8 0,.int .u8 0,.int .u8 0,.int .u8 0,.int .u8 0,.int .u8 0,.int .u8 0,.int .u8 0,.int .u8 0,.int .u8 0,.int .u8 0,.int .u8 0,.int .u8 0,.int .u8 0,.int .u8 0,.int .u8 0,.int .u8 0,.int .u8 0,.int .u8 0,.int .u8 0,.int .u8 0,.int .u8 0,.int .u8 0,.int .u8 0,.int .u8 0,.int .u8 0,.int .u8 0,.int .u8 0,.int .u8 0,.int .u8 0,.int .u8 0,.int .u8 0,.int .u8 0,.int .u8 0,.int .u8 0,.int .u8 0,.int .u8 0,.int .u8 0,.int .u8 0,.int .u8 0,.int .u8 0,.int .u8 0,.int .u8 0,.int .u8 0,.int .u8 0,.int .u8 0],.int .i64 15]) rfl gg rfl (eo func78) (fun w' hw'=>hrd w' hw')) ?_;iterate 3 refine Aa ?_
 refine Fz ?_
 refine AX (by exact BB (p:=true) rfl gg rfl rfl (by decide)) ?_;iterate 7 refine Aa ?_
 exact AG (AD (AH results46 (AF rfl)) fun _ _ hr=>⟨rfl,hr.1⟩)
theorem sn(_hh:h<R)(hr:r<R)(_ht:t<R)(w:World)(hL:Laid w)(hrd: ∀w',Bw w w'→Calls prog 78 #[v] w' fun e w''=>e= .returned (.tuple #[PT x y,.int .i64 0])∧Bw w' w'')(sr:sec r=false):Calls prog 46 #[v,B32 h,PT r t] w fun e w'=>e= .returned (.int .i64 6)∧Bw w w':=by
 go_enter func46,ntmps46
 refine FI ?_
 refine Kd ?_
 refine Fz ?_
 refine Km ?_
 refine Ks ?_;refine Gx ?_;refine k_2 ?_;refine Kt ?_;refine Gx ?_;refine k_2 ?_;iterate 2 refine JS ?_
 refine Gs ?_
 refine k_2 ?_;refine AX (by exact Ad (v:= .bool false) rfl gg rfl (eo func79) (fun w' hw'=>by have a:=LC hr w' (hL.bw hw');rw[sr]at a;exact a)) ?_;refine Mp ?_;refine k_7 ?_;iterate 2 refine FX ?_
 refine F5 ?_
 exact AG (AD (AH results46 (AF rfl)) fun _ _ hr=>⟨rfl,hr.1⟩)
theorem sj(_hh:h<R)(hr:r<R)(ht:t<R)(w:World)(hL:Laid w)(hrd: ∀w',Bw w w'→Calls prog 78 #[v] w' fun e w''=>e= .returned (.tuple #[PT x y,.int .i64 0])∧Bw w' w'')(sr:sec r=true)(st:sec t=false):Calls prog 46 #[v,B32 h,PT r t] w fun e w'=>e= .returned (.int .i64 6)∧Bw w w':=by
 go_enter func46,ntmps46
 refine FI ?_
 refine Kd ?_
 refine Fz ?_
 refine Km ?_
 refine Ks ?_;refine Gx ?_;refine k_2 ?_;refine Kt ?_;refine Gx ?_;refine k_2 ?_;iterate 2 refine JS ?_
 refine Gs ?_
 refine k_2 ?_;refine PX ?_;refine Mp ?_;refine k_7 ?_;refine AX (by first|exact Ev.skip (fun _=>rfl)|exact Ad (v:= .bool false) rfl (fun _=>rfl) rfl (eo func79) (fun w' hw'=>by have a:=LC ht w' (hL.bw hw');rw[st]at a;exact a)) ?_;refine FX ?_;refine F5 ?_
 exact AG (AD (AH results46 (AF rfl)) fun _ _ hr=>⟨rfl,hr.1⟩)
theorem sf(hh:h<R)(hr:r<R)(ht:t<R)(w:World)(hL:Laid w){A B X:Pt}(hx:x<R)(hy:y<R)(hrd: ∀w',Bw w w'→Calls prog 78 #[v] w' fun e w''=>e= .returned (.tuple #[PT x y,.int .i64 0])∧Bw w' w'')(sr:sec r=true)(st:sec t=true)(hi:i<nn)(hv:i*t %nn=1)(hA:Au (i*h %nn) base=A)(hB:Au (i*r %nn) (toP x y)=B)(oA:A.on)(oB:B.on)(hX:add A B=X)(oX:X.on)(hi0:X= .inf):Calls prog 46 #[v,B32 h,PT r t] w fun e w'=>e= .returned (.int .i64 6)∧Bw w w':=by
 go_enter func46,ntmps46
 refine FI ?_
 refine Kd ?_
 refine Fz ?_
 refine Km ?_
 refine Ks ?_;refine Gx ?_;refine k_2 ?_;refine Kt ?_;refine Gx ?_;refine k_2 ?_;iterate 2 refine JS ?_
 refine Gs ?_
 refine k_2 ?_;refine PX ?_;refine Mp ?_;refine k_7 ?_;refine TA ?_;refine FX ?_;refine II ?_
 refine JL ?_
 refine FT ?_;refine E5 ?_;iterate 4 refine Aa ?_
 refine k_2 ?_;refine TL ?_;refine Td ?_;iterate 3 refine Aa ?_
 refine Fo ?_;iterate 6 refine Aa ?_
 refine IM ?_;iterate 6 refine Aa ?_
 refine k_5 ?_;refine k_2 ?_;refine NB ?_;refine Tc ?_;refine Aa ?_;refine k_5 ?_;refine k_2 ?_;refine TK ?_;refine Tb ?_;iterate 2 refine FT ?_
 iterate 2 refine M3 ?_
 iterate 3 refine k_k ?_
 refine k_5 ?_;refine TR ?_;refine NC ?_;refine TW ?_;refine k_5 ?_;refine TQ ?_;refine GA ?_;refine TU ?_;refine TT ?_;refine Mq ?_
 refine GA ?_;refine AX (by exact A6 rfl gg rfl Jn) ?_;refine AX (by exact AK (c:= .bool true) rfl gg rfl rfl (fun w=>o3 oX hi0 _ _ w)) ?_;refine E8 ?_;refine Te ?_;refine k_7 ?_;iterate 2 refine FX ?_
 refine k_7 ?_;iterate 2 refine FX ?_
 refine F5 ?_
 exact AG (AD (AH results46 (AF rfl)) fun _ _ hr=>⟨rfl,hr.1⟩)
theorem so(hh:h<R)(hr:r<R)(ht:t<R)(w:World)(hL:Laid w){A B X:Pt}(hx:x<R)(hy:y<R)(hrd: ∀w',Bw w w'→Calls prog 78 #[v] w' fun e w''=>e= .returned (.tuple #[PT x y,.int .i64 0])∧Bw w' w'')(sr:sec r=true)(st:sec t=true)(hi:i<nn)(hv:i*t %nn=1)(hA:Au (i*h %nn) base=A)(hB:Au (i*r %nn) (toP x y)=B)(oA:A.on)(oB:B.on)(hX:add A B=X)(oX:X.on)(hi0:X≠ .inf)(hne:xv X %nn≠r):Calls prog 46 #[v,B32 h,PT r t] w fun e w'=>e= .returned (.int .i64 6)∧Bw w w':=by
 go_enter func46,ntmps46
 refine FI ?_
 refine Kd ?_
 refine Fz ?_
 refine Km ?_
 refine Ks ?_;refine Gx ?_;refine k_2 ?_;refine Kt ?_;refine Gx ?_;refine k_2 ?_;iterate 2 refine JS ?_
 refine Gs ?_
 refine k_2 ?_;refine PX ?_;refine Mp ?_;refine k_7 ?_;refine TA ?_;refine FX ?_;refine II ?_
 refine JL ?_
 refine FT ?_;refine E5 ?_;iterate 4 refine Aa ?_
 refine k_2 ?_;refine TL ?_;refine Td ?_;iterate 3 refine Aa ?_
 refine Fo ?_;iterate 6 refine Aa ?_
 refine IM ?_;iterate 6 refine Aa ?_
 refine k_5 ?_;refine k_2 ?_;refine NB ?_;refine Tc ?_;refine Aa ?_;refine k_5 ?_;refine k_2 ?_;refine TK ?_;refine Tb ?_;iterate 2 refine FT ?_
 iterate 2 refine M3 ?_
 iterate 3 refine k_k ?_
 refine k_5 ?_;refine TR ?_;refine NC ?_;refine TW ?_;refine k_5 ?_;refine TQ ?_;refine GA ?_;refine TU ?_;refine TT ?_;refine Mq ?_
 refine GA ?_;refine AX (by exact A6 rfl gg rfl Jn) ?_;refine AX (by exact AK (c:= .bool false) rfl gg rfl rfl (fun w=>ah oX hi0 _ _ w)) ?_;refine E8 ?_;refine Te ?_;refine k_7 ?_;refine ZR ?_;refine Zk ?_;refine k_7 ?_;refine AX (by first|exact Ev.skip (fun _=>rfl)|exact AM rfl (fun _=>rfl) rfl (eo func82) (fun w' hw'=>ofN r hr w')) ?_;refine AX (by first|exact Ev.skip (fun _=>rfl)|exact AK (c:= .bool true) rfl (fun _=>rfl) rfl rfl (fun w=>Ya (IB _) hr (decide_eq_false hne) _ _ w)) ?_;refine F5 ?_
 exact AG (AD (AH results46 (AF rfl)) fun _ _ hr=>⟨rfl,hr.1⟩)
theorem si(hh:h<R)(hr:r<R)(ht:t<R)(w:World)(hL:Laid w){A B X:Pt}(hx:x<R)(hy:y<R)(hrd: ∀w',Bw w w'→Calls prog 78 #[v] w' fun e w''=>e= .returned (.tuple #[PT x y,.int .i64 0])∧Bw w' w'')(sr:sec r=true)(st:sec t=true)(hi:i<nn)(hv:i*t %nn=1)(hA:Au (i*h %nn) base=A)(hB:Au (i*r %nn) (toP x y)=B)(oA:A.on)(oB:B.on)(hX:add A B=X)(oX:X.on)(hi0:X≠ .inf)(hne:xv X %nn=r):Calls prog 46 #[v,B32 h,PT r t] w fun e w'=>e= .returned (.int .i64 0)∧Bw w w':=by
 go_enter func46,ntmps46
 refine FI ?_
 refine Kd ?_
 refine Fz ?_
 refine Km ?_
 refine Ks ?_;refine Gx ?_;refine k_2 ?_;refine Kt ?_;refine Gx ?_;refine k_2 ?_;iterate 2 refine JS ?_
 refine Gs ?_
 refine k_2 ?_;refine PX ?_;refine Mp ?_;refine k_7 ?_;refine TA ?_;refine FX ?_;refine II ?_
 refine JL ?_
 refine FT ?_;refine E5 ?_;iterate 4 refine Aa ?_
 refine k_2 ?_;refine TL ?_;refine Td ?_;iterate 3 refine Aa ?_
 refine Fo ?_;iterate 6 refine Aa ?_
 refine IM ?_;iterate 6 refine Aa ?_
 refine k_5 ?_;refine k_2 ?_;refine NB ?_;refine Tc ?_;refine Aa ?_;refine k_5 ?_;refine k_2 ?_;refine TK ?_;refine Tb ?_;iterate 2 refine FT ?_
 iterate 2 refine M3 ?_
 iterate 3 refine k_k ?_
 refine k_5 ?_;refine TR ?_;refine NC ?_;refine TW ?_;refine k_5 ?_;refine TQ ?_;refine GA ?_;refine TU ?_;refine TT ?_;refine Mq ?_
 refine GA ?_;refine AX (by exact A6 rfl gg rfl Jn) ?_;refine AX (by exact AK (c:= .bool false) rfl gg rfl rfl (fun w=>ah oX hi0 _ _ w)) ?_;refine E8 ?_;refine Te ?_;refine k_7 ?_;refine ZR ?_;refine Zk ?_;refine k_7 ?_;refine AX (by first|exact Ev.skip (fun _=>rfl)|exact AM rfl (fun _=>rfl) rfl (eo func82) (fun w' hw'=>ofN r hr w')) ?_;refine AX (by first|exact Ev.skip (fun _=>rfl)|exact AK (c:= .bool false) rfl (fun _=>rfl) rfl rfl (fun w=>Ya (IB _) hr (decide_eq_true hne) _ _ w)) ?_;refine k_9 ?_;iterate 7 refine Aa ?_
 exact AG (AD (AH results46 (AF rfl)) fun _ _ hr=>⟨rfl,hr.1⟩)
end Go.Proofs.YtafbhakmkbehiaaGreatDoor
