import Derived.ProofKit
import Derived.OpenShut
import Derived.Lib.LaidTab
import Derived.Test.YtefpajmkaaielaaGreatDoorRows
import Derived.LaidMore
import Derived.Lay
import Derived.Stop.Joined
import Derived.ChangeSlices
import Derived.Test.YtefpajmkaaielaaGreatDoorW11
open Go.Proofs.Tryz
set_option maxHeartbeats 4000000
set_option maxRecDepth 100000
namespace Go.Proofs.YtefpajmkaaielaaGreatDoor
open Go.RowKit Go.Vx Go.ChangeShapes Go.WideShapes Go.ChangeAt Go.Lib
variable(w:World){ops:Array Oper}{held:Bool}{p:List MemPlace}{rd:List Nat}{l0 xs:List Value}{a cap fuel g h i id k len n off r t x y:Nat}{sp:Nat→Bool}{S:Nat→Nat→Prop}{ρ:Nat→Nm}{o:Oper}{hi lo:Option Operand}{P:Program}{A B:Prop}{name:String}{H:Type}{d:TypeDesc}{bt e el:TypeId}{s:VS}{v:Value}{w0:World}
open TollMont
open Go.Toll (Gw)
open TollEc (F pp cb Jp Pt AZ add base nn neg)
open TollSha (sha Ap)
def Fu(n:Nat):Dat:=⟨fun xs w S=> ∃g,xs=[ptr g]∧S g∧w.heap[g]? =some (.cells (Cc n).toArray 150 (0,0)),fun⟨g,h1,h2,h3⟩ hk=>⟨g,h1,h2,by rw[hk g h2];exact h3⟩⟩
theorem cu{w:World}{D:Dat}(hr:Rel w0 ρ s w)(hm:s.mem id=some (.dat D)):BO w0 w (ρ id).val D:=by
 obtain⟨hb,S,hR⟩:=hr;have h0:=hR.good id _ hm;exact⟨S id,h0,fun k hk=>⟨hR.fr id k (by rw[hm];rfl) hk,hR.lt id k (by rw[hm];rfl) hk⟩⟩
theorem Xq{w:World}(h:w.heap[g]? =some (.cells (Cc n).toArray 150 (0,0))):At w g n:=fun j v hj=>by
 rw[Nat.zero_add];exact Hr (l:=Cc n) (ty:=150) h hj
theorem fx(h:Md n)(w:World):Calls prog 69 #[N n] w fun e w'=> ∃v,e= .returned (.tuple (v::[.int .i64 0]).toArray)∧BO w w' v (Fu n)∧Bw w w':=
 (UX h w).mono fun e w' ⟨g,h1,h2,h3,h4⟩=>⟨ptr g,h2,⟨fun k=>k=g,⟨g,rfl,rfl,h3⟩,fun k hk=>by subst hk;exact⟨h1,(Array.getElem?_eq_some_iff.1 h3).1⟩⟩,h4.b⟩
theorem fP(hL:Laid w):Calls prog 38 #[] w fun e w'=> ∃v,e= .returned (.tuple (v::[N nn]).toArray)∧BO w w' v (Fu nn)∧Bw w w':=by
 go_enter func38,ntmps38
 refine AO ?_;iterate 4 refine AA ?_
 iterate 3 refine k_g ?_
 refine AB (by exact AS rfl gg rfl (eo func68) (fun w' hw'=>fO w' (hL.bw hw'))) ?_;refine AB (by exact AS rfl gg rfl (eo func41) (fun w' hw'=>ofN nn (by decide) w')) ?_;iterate 2 refine AA ?_
 iterate 3 refine k_g ?_
 refine AA ?_;refine AB (by exact Cg (D:=Fu nn) (ys:=[.int .i64 0]) [] rfl rfl gg rfl (eo func69) (fun ρ S w' hb hR=>fx mdn w')) ?_;iterate 12 refine AA ?_
 refine k_g ?_;refine AG ?_;refine AD (Av results38 (AE rfl) (Ad rfl rfl underlying96 rfl sizeOf96 rfl rfl)) ?_;intro ρ w' hr;exact⟨_,rfl,cu hr rfl,hr.1⟩
theorem nY(ha:a<R)(w:World)(hL:Laid w)(h:a=0):CBy 37 #[B32 a] w (.bool false):=by
 go_enter func37,ntmps37
 refine AO ?_;iterate 7 refine AA ?_
 refine Ha ?_;iterate 6 refine AA ?_
 iterate 3 refine k_g ?_
 refine AA ?_;refine k_9 ?_;refine AB (by exact AN (c:= .bool false) rfl gg rfl rfl (fun w=>UY ha h _ _ w)) ?_;iterate 2 refine AA ?_
 refine DW ?_;refine AA ?_;refine CW ?_;iterate 2 refine AA ?_
 exact AG (AD (AM results37 (AE rfl)) fun _ _ hr=>⟨rfl,hr.1⟩)
theorem nZ(ha:a<R)(w:World)(hL:Laid w)(h:a≠0):CBy 37 #[B32 a] w (.bool (decide (a<nn))):=by
 go_enter func37,ntmps37
 refine AO ?_;iterate 7 refine AA ?_
 refine Ha ?_;iterate 6 refine AA ?_
 iterate 3 refine k_g ?_
 refine AA ?_;refine k_9 ?_;refine AB (by exact AN (c:= .bool true) rfl gg rfl rfl (fun w=>UZ ha h _ _ w)) ?_;iterate 2 refine AA ?_
 refine AB (by first|exact Ev.skip (fun _=>rfl)|exact AS rfl (fun _=>rfl) rfl (eo func41) (fun w' hw'=>ofN a ha w')) ?_;refine AA ?_;refine WF ?_;refine k_9 ?_;iterate 2 refine AA ?_
 exact AG (AD (AM results37 (AE rfl)) fun _ _ hr=>⟨rfl,hr.1⟩)
theorem I6(ha:a<R)(w:World)(hL:Laid w):CBy 37 #[B32 a] w (.bool (sec a)):=by
 by_cases h:a=0
 ·have e:sec a=false:=decide_eq_false (fun c=>c.1 h)
  rw[e];exact nY ha w hL h
 ·have e:sec a=decide (a<nn):=by unfold sec;simp[h]
  rw[e];exact nZ ha w hL h
theorem mnz(n:Nat)(hn:n≤140737488355328)(w:World): ∃cs:Array Value,(callFunc 103 #[.int .i64 (n:Nat)]).run prog w= .ok (.value (.slice (some ⟨w.heap.size,0,none⟩) n cs.size)) (w.drew.drew.alloc (.cells cs 5))∧n≤cs.size∧cs.size≤maxLen:=by
 obtain⟨cs,h1,h2,h3⟩:=Go.Lib.run_makeNoZero (P:=prog) w f103.params 26 5 underlying26 n (by omega);refine⟨cs,?_,h2,h3 (by simp only[maxLen];omega)⟩;rw[run_callFunc_extern (fn:=f103) (e:=Extern.BytealgMakeNoZero.makeNoZero f103.params #[26]) func103 (by kernel_rfl) (by kernel_rfl) (by kernel_rfl) (by kernel_rfl),h1];rfl
theorem FI:(prog.info? 5).map (·.size)=some 1:=by kernel_rfl
theorem gP:CBy 102 #[.int .u64 1,.int .u64 32] w (.tuple #[.int .u64 0,.int .u64 32]):=by
 go_enter func102,ntmps102
 refine AO ?_;iterate 12 refine AA ?_
 refine AB (by exact AS (v:= .tuple #[.int .u64 0,.int .u64 32]) rfl gg rfl (eo func105) (fun w' hw'=>Ui 1 32 (by decide) (by decide) w')) ?_;iterate 13 refine AA ?_
 exact AG (AD (Av results102 (AE rfl) (AE rfl)) fun _ _ hr=>⟨rfl,hr.1⟩)
theorem K3(_hk:2*k≤xs.length)(h:xs.take k=List.replicate k v):(xs.take k++List.replicate k v++xs.drop (k+k)).take (2*k)=List.replicate (2*k) v:=by
 rw[h,List.take_append_of_le_length (by simp;omega),List.take_of_length_le (by simp;omega),show 2*k=k+k by omega,List.replicate_append_replicate]
theorem dE{S:Nat→Prop}(hv:AJ w v 1 1 [.int .u8 1] S):CRy 70 #[v,.int .i64 32] w (32) (List.replicate 32 (.int .u8 1)):=by
 go_enter func70,ntmps70
 refine AO ?_;iterate 8 refine AA ?_
 refine AB (by exact Ax (p:=false) rfl gg rfl rfl (by decide)) ?_;iterate 7 refine AA ?_
 refine AB (by exact A4 (p:=false) rfl gg rfl rfl (by decide)) ?_;iterate 6 refine AA ?_
 refine Iz ?_;refine k_9 ?_;refine AA ?_;refine k_9 ?_;refine AB (by exact Ah (v:= .tuple #[.int .u64 0,.int .u64 32]) rfl gg rfl (eo func102) (fun w' hw'=>gP w')) ?_;iterate 10 refine AA ?_
 refine AB (by exact Bf (p:=false) rfl gg rfl rfl (by decide)) ?_;iterate 2 refine AA ?_
 refine AB (by first|exact Ev.skip (fun _=>rfl)|exact Bf (p:=false) rfl (fun _=>rfl) rfl rfl (by decide)) ?_;refine k_9 ?_;iterate 6 refine AA ?_
 refine k_9 ?_;iterate 6 refine AA ?_
 refine Iz ?_;refine AB (by exact Ax (p:=false) rfl gg rfl rfl (by decide)) ?_;iterate 12 refine AA ?_
 refine AB (by exact Bf (p:=false) rfl gg rfl rfl (by decide)) ?_;iterate 6 refine AA ?_
 refine AB (by exact nl rfl rfl gg rfl (by decide) (fun w=>mnz 32 (by decide) w)) ?_;iterate 2 refine AA ?_
 refine AB (by exact oK rfl rfl gg rfl rfl underlying26 sizeOf5 rfl rfl (by decide)) ?_;iterate 6 refine AA ?_
 refine AB (by exact JF (a:=0) (k:=1) (p:=fun _=>True) (q:=fun xs=>xs.take 1=List.replicate 1 (Value.int .u8 1)) rfl gg rfl (.inl ⟨rfl,rfl⟩) rfl rfl (AW hv) underlying26 FI (by decide) (by decide) rfl (fun xs _ hx=>by rw[List.take_zero,List.nil_append,List.take_append_of_le_length (by simp)];rfl)) ?_;iterate 4 refine AA ?_
 refine Ce 6 ?_;change VOk _ _ _ _ _;iterate 5 refine AA ?_
 refine Fi ?_;iterate 8 refine AA ?_
 refine Kk ?_;iterate 6 refine AA ?_
 refine Kt ?_;iterate 2 refine AA ?_
 refine Ks ?_;refine k_1 ?_;refine Kl ?_;iterate 7 refine AA ?_
 refine Fi ?_;iterate 8 refine AA ?_
 refine Kk ?_;iterate 6 refine AA ?_
 refine Kt ?_;iterate 2 refine AA ?_
 refine Ks ?_;refine k_1 ?_;refine Kl ?_;iterate 7 refine AA ?_
 refine Fi ?_;iterate 8 refine AA ?_
 refine Kk ?_;iterate 6 refine AA ?_
 refine Kt ?_;iterate 2 refine AA ?_
 refine Ks ?_;refine k_1 ?_;refine Kl ?_;iterate 7 refine AA ?_
 refine Fi ?_;iterate 8 refine AA ?_
 refine Kk ?_;iterate 6 refine AA ?_
 refine Kt ?_;iterate 2 refine AA ?_
 refine Ks ?_;refine k_1 ?_;refine Kl ?_;iterate 7 refine AA ?_
 refine Fi ?_;iterate 8 refine AA ?_
 refine Kk ?_;iterate 6 refine AA ?_
 refine Kt ?_;iterate 2 refine AA ?_
 refine Ks ?_;refine k_1 ?_;refine Kl ?_;iterate 7 refine AA ?_
 refine Fi ?_;iterate 2 refine k_g ?_
 refine Aq ?_;change VOk _ _ _ _ _;iterate 5 refine AA ?_
 refine AG ?_;refine AD (AM results70 (AE rfl)) ?_;intro ρ w' hr;exact⟨_,rfl,cn hr rfl (fun xs h hx=>by have h2:xs.take 32=_:=h;rw[List.take_of_length_le (by omega)]at h2;exact h2),hr.1⟩
def bl(n:Nat):List Nat:=[byt n 0,byt n 1,byt n 2,byt n 3,byt n 4,byt n 5,byt n 6,byt n 7,byt n 8,byt n 9,byt n 10,byt n 11,byt n 12,byt n 13,byt n 14,byt n 15,byt n 16,byt n 17,byt n 18,byt n 19,byt n 20,byt n 21,byt n 22,byt n 23,byt n 24,byt n 25,byt n 26,byt n 27,byt n 28,byt n 29,byt n 30,byt n 31]
theorem OB(n:Nat):B32 n= .agg ((bl n).map b8).toArray:=rfl
theorem Es(n:Nat):(bl n).length=32:=rfl
theorem Gr(n:Nat): ∀x∈bl n,x<256:=fun x hx=>by
 simp only[bl,List.mem_cons,List.not_mem_nil,or_false]at hx;rcases hx with rfl|rfl|rfl|rfl|rfl|rfl|rfl|rfl|rfl|rfl|rfl|rfl|rfl|rfl|rfl|rfl|rfl|rfl|rfl|rfl|rfl|rfl|rfl|rfl|rfl|rfl|rfl|rfl|rfl|rfl|rfl|rfl<;>exact Nat.mod_lt _ (by decide)
theorem qo(hi:i<32):byt n i=n/256^(31-i) %256:=by
 unfold byt lim;obtain⟨q,r,hr,rfl⟩: ∃q r,r<8∧i=8*q+r:=⟨i/8,i %8,Nat.mod_lt _ (by decide),by omega⟩
 have hq:q<4:=by omega
 rw[show(8*q+r)/8=q by omega,show(8*q+r) %8=r by omega];have e0:(W:Nat)=256^8:=by decide
 rw[e0,←Nat.pow_mul,show(2:Nat)^(56-8*r)=256^(7-r) by rw[show(256:Nat)=2^8 by decide,←Nat.pow_mul];congr 1;omega];have e1:(256:Nat)^8=256^(7-r)*(256*256^r):=by rw[←Nat.pow_succ',←Nat.pow_add];congr 1;omega
 rw[e1,Nat.mod_mul_right_div_self,Nat.mod_mul_right_mod,Nat.div_div_eq_div_mul,←Nat.pow_add,show 8*(3-q)+(7-r)=31-(8*q+r) by omega]
theorem Hv{l:List Nat}(hl:l.length=32)(h8: ∀x∈l,x<256):bl (TollBy.beV l 0)=l:=by
 apply List.ext_getElem?;intro i;by_cases hi:i<32
 ·have h1:=TollBy.beV_get l h8 i (by omega)
  rw[hl]at h1
  have h2:(bl (TollBy.beV l 0))[i]? =some (byt (TollBy.beV l 0) i):=by
   have h3:bl (TollBy.beV l 0)=(List.range 32).map (byt (TollBy.beV l 0)):=rfl;rw[h3,List.getElem?_map,List.getElem?_range hi];rfl
  rw[h2,qo hi,h1,List.getD_eq_getElem?_getD,List.getElem?_eq_getElem (by omega)];rfl
 ·rw[List.getElem?_eq_none (by rw[Es];omega),List.getElem?_eq_none (by omega)]
theorem Ny{l:List Nat}(hl:l.length=32)(h8: ∀x∈l,x<256):TollBy.beV l 0<R:=by
 have:=TollBy.beV_lt l h8;rw[hl]at this;exact Nat.lt_of_lt_of_le this (by decide)
theorem oT{ty:TypeId}{x:Operand}{l:List Nat}(hd:o.dst=some id)(ho:o.op= .box ty x)(hgd:AR ops o s)(hx:AC s x= .v v)(hv:v= .agg (l.map b8).toArray):Ev P ops w0 o s ⟨.p id 0,[(id,.arr (l.map b8) ty)],[],[id],[]⟩:=
 XU hd ho hgd hx (by rw[hv];rfl)
theorem Fp{ty:TypeId}{x y:Operand}{l:List Nat}(ho:o.op= .store ty x y)(hgd:AR ops o s)(hx:AC s x= .p id 0)(hm:s.mem id=some (.arr l0 bt))(hy:AC s y= .v (.agg (l.map b8).toArray))
 (hs: ∀w,(Go.sizeOf ty).run P w= .ok n w)(h0:l0.length=n)(hl:l.length=n):Ev P ops w0 o s ⟨.v undef,[(id,.arr (l.map b8) bt)],[id],[],[id]⟩:=
 EA ho hgd hx hm hy hs (by simp[Value.cells,hl]) (by omega) (by show(l.map b8).all _=true;exact DG _) (by rw[List.take_zero,List.nil_append,List.drop_of_length_le (by omega),List.append_nil];simp[Value.cells])
theorem XJ{ty:TypeId}{x:Operand}{l:List Nat}(ho:o.op= .load ty x)(hgd:AR ops o s)(hx:AC s x= .p id 0)(hm:s.mem id=some (.arr (l.map b8) bt))
 (hu:P.underlying ty=some d)(hd:Bc d=true)(hs: ∀w,(Go.sizeOf ty).run P w= .ok n w)(hl:l.length=n):Ev P ops w0 o s ⟨.v (.agg (l.map b8).toArray),[],[],[],[id]⟩:=
 XG ho hgd hx hm hu hd hs (List.take_of_length_le (by simp[hl])) (by simp[hl])
theorem nf{ty:TypeId}{l:List Nat}(ho:o.op= .build ty #[])(hgd:AR ops o s)(h:P.built ty []=some (l.map b8).toArray):Ev P ops w0 o s ⟨.v (.agg (l.map b8).toArray),[],[],[],[]⟩:=
 Ar ho hgd rfl h
theorem Dq{base:Nat}{w:World}{m:Mem}{size:Nat}{ty:TypeId}{l:List Value}(hR:RelOn base ρ S w (restr rd m))(hid:id∈rd)(hm:m id=some (.row n size ty (.exact l))):AJ w (SV.c ρ (.d id)) n size l (fun k=>k=(ρ id).g):=by
 obtain⟨xs,x1,x2,x3⟩:=A6 hR hm hid;have x2':xs=l:=x2;subst x2';exact DL x3 x1
theorem TU{m:Mem}{l:List Nat}(hid:id∈rd)(hm:m id=some (.row n 1 e (.exact (l.map b8))))(hn:l.length=n):JY w0 m rd (.d id) l.length (l.map b8):=by rw[hn];exact MJ hid hm
theorem Dr{m:Mem}{l:List Nat}{ty:TypeId}(hid:id∈rd)(hm:m id=some (.arr (l.map b8) ty))(hn:l.length=len)(hc:len≤cap):JY w0 m rd (.s id 0 len cap) l.length (l.map b8):=by
 rw[hn];exact TV hid hm (by rw[List.length_map];exact hn) hc
theorem UG:(SV.c ρ (.s id off len cap)).cells.toList=SV.cs ρ [.s id off len cap]:=rfl
theorem YI:(convert 3 5 (.int .i64 0)).run prog w= .ok (.int .u8 0) w:=by go_simp;rfl
theorem YH:(convert 3 5 (.int .i64 1)).run prog w= .ok (.int .u8 1) w:=by go_simp;rfl
theorem Zf:prog.built 46 []=some #[.int .u8 0,.int .u8 0,.int .u8 0,.int .u8 0,.int .u8 0,.int .u8 0,.int .u8 0,.int .u8 0,.int .u8 0,.int .u8 0,.int .u8 0,.int .u8 0,.int .u8 0,.int .u8 0,.int .u8 0,.int .u8 0,.int .u8 0,.int .u8 0,.int .u8 0,.int .u8 0,.int .u8 0,.int .u8 0,.int .u8 0,.int .u8 0,.int .u8 0,.int .u8 0,.int .u8 0,.int .u8 0,.int .u8 0,.int .u8 0,.int .u8 0,.int .u8 0]:=by kernel_rfl
def nK1(d h:Nat):List Nat:=Ap (List.replicate 32 0) [List.replicate 32 1,[0],bl d,bl h].flatten
def nV1(d h:Nat):List Nat:=Ap (nK1 d h) [List.replicate 32 1].flatten
def nK2(d h:Nat):List Nat:=Ap (nK1 d h) [nV1 d h,[1],bl d,bl h].flatten
def nV2(d h:Nat):List Nat:=Ap (nK2 d h) [nV1 d h].flatten
def nV3(d h:Nat):List Nat:=Ap (nK2 d h) [nV2 d h].flatten
theorem ug{d:Nat}(_hd:d<R)(hh:h<R)(hk:k<R)(w:World)(hL:Laid w)(hK:Au w)(hH:BD w)(hb1:8<w.heap.size)(hn:nV3 d (h %nn)=bl k)(hs:sec k=true):CBy 39 #[B32 d,B32 h] w (B32 k):=by
 obtain⟨D,hD⟩: ∃x,bl d=x:=⟨_,rfl⟩
 have hDl:D.length=32:=by rw[←hD];rfl
 have hD8: ∀x∈D,x<256:=by rw[←hD];exact Gr d
 obtain⟨M,hM⟩: ∃x,bl (h %nn)=x:=⟨_,rfl⟩
 have hMl:M.length=32:=by rw[←hM];rfl
 have hM8: ∀x∈M,x<256:=by rw[←hM];exact Gr _
 obtain⟨Z,hZ⟩: ∃x,(List.replicate 32 0:List Nat)=x:=⟨_,rfl⟩
 have hZl:Z.length=32:=by rw[←hZ];simp
 have hZ8: ∀x∈Z,x<256:=by rw[←hZ];decide
 obtain⟨O,hO⟩: ∃x,(List.replicate 32 1:List Nat)=x:=⟨_,rfl⟩
 have hOl:O.length=32:=by rw[←hO];simp
 have hO8: ∀x∈O,x<256:=by rw[←hO];decide
 obtain⟨K1,hK1⟩: ∃x,Ap Z [O,[0],D,M].flatten=x:=⟨_,rfl⟩
 have hK1l:K1.length=32:=by rw[←hK1];exact hmac_len _ _
 have hK18: ∀x∈K1,x<256:=by rw[←hK1];exact I4 _ _
 obtain⟨V1,hV1⟩: ∃x,Ap K1 [O].flatten=x:=⟨_,rfl⟩
 have hV1l:V1.length=32:=by rw[←hV1];exact hmac_len _ _
 have hV18: ∀x∈V1,x<256:=by rw[←hV1];exact I4 _ _
 obtain⟨K2,hK2⟩: ∃x,Ap K1 [V1,[1],D,M].flatten=x:=⟨_,rfl⟩
 have hK2l:K2.length=32:=by rw[←hK2];exact hmac_len _ _
 have hK28: ∀x∈K2,x<256:=by rw[←hK2];exact I4 _ _
 obtain⟨V2,hV2⟩: ∃x,Ap K2 [V1].flatten=x:=⟨_,rfl⟩
 have hV2l:V2.length=32:=by rw[←hV2];exact hmac_len _ _
 have hV28: ∀x∈V2,x<256:=by rw[←hV2];exact I4 _ _
 obtain⟨V3,hV3⟩: ∃x,Ap K2 [V2].flatten=x:=⟨_,rfl⟩
 have hV3l:V3.length=32:=by rw[←hV3];exact hmac_len _ _
 have hV38: ∀x∈V3,x<256:=by rw[←hV3];exact I4 _ _
 have hVk:V3=bl k:=by rw[←hn,←hV3,←hV2,←hK2,←hV1,←hK1,←hZ,←hO,←hD,←hM];rfl
 go_enter func39,ntmps39
 refine AO ?_;iterate 2 refine k_g ?_
 refine AB (by exact oT (l:=D) rfl rfl gg rfl (by rw[←hD];rfl)) ?_;refine AA ?_;refine P9 ?_;iterate 3 refine k_g ?_
 refine Ha ?_;iterate 11 refine AA ?_
 refine Kp ?_;refine AB (by exact Aj (v:=N (h %nn)) [12] rfl gg rfl (eo func40) (fun ρ S w' hb hR=>by obtain⟨g,e1,_,e3⟩:=Fb (id:=12) hR (by simp) rfl;have e1':(ρ 12).val=ptr g:=(by simpa using e1);have a:=GJ mdn hh w' (Xq e3);show Calls prog 40 #[(ρ 12).val,N h] w' _;rw[e1'];exact a.mono fun _ _ q=>⟨q.1,q.2.b⟩)) ?_;refine AB (by exact AS (v:= .agg (M.map b8).toArray) rfl gg rfl (eo func45) (fun w' hw'=>by have a:=JS (h %nn) w';rw[OB,hM]at a;exact a)) ?_;refine P9 ?_;refine AB (by exact Fp (l:=M) rfl gg rfl rfl rfl sizeOf46 (by simp) hMl) ?_;iterate 3 refine k_g ?_
 refine AB (by exact nf (l:=Z) rfl gg (by rw[←hZ];exact Zf)) ?_;refine AB (by exact BV rfl rfl gg rfl (e:=5) (l:=[.int .u8 1]) rfl (by decide) (fun _=>by kernel_rfl)) ?_;refine AB (by exact Cs [21] rfl rfl gg rfl (eo func70) (n:=32) (size:=1) (l:=List.replicate 32 (.int .u8 1)) (by simp) (fun ρ S w' hb hR=>dE w' (Dq (id:=21) hR (by simp) rfl))) ?_;refine AB (by exact JK rfl gg rfl underlying46 (BI rfl) (by decide)) ?_;refine AB (by exact NO (vs:=O.map b8) rfl gg rfl underlying46 rfl sizeOf46 (BI rfl) (by rw[←hO];rfl) (by simp[hOl]) (by decide)) ?_;iterate 2 refine P9 ?_
 refine AB (by exact Fp (l:=Z) rfl gg rfl rfl rfl sizeOf46 (by simp) hZl) ?_;refine AB (by exact Fp (l:=O) rfl gg rfl rfl rfl sizeOf46 (by simp) hOl) ?_;iterate 7 refine AA ?_
 refine Ce 3 ?_;change VOk _ _ _ _ _;iterate 2 refine k_g ?_
 refine Fi ?_;iterate 13 refine AA ?_
 iterate 2 refine D8 ?_
 refine AA ?_;refine AB (by first|exact A5 rfl gg rfl YI|exact A5 rfl gg rfl YH) ?_;refine AB (by exact BV rfl rfl gg rfl (e:=5) (l:=[0].map b8) rfl (by decide) (fun _=>by kernel_rfl)) ?_;iterate 2 refine D8 ?_
 refine Vw ?_;refine AB (by exact Aj (v:= .agg (K1.map b8).toArray) [8,9,32,2,7,35] rfl gg rfl (eo func71) (fun ρ S w' hb hR=>by have a:=Ka (key:=Z) (ls:=[O,[0],D,M]) w' (hK.bw hb) (hH.bw hb) (Nat.lt_of_lt_of_le hb1 hb.size) (Dr (rd:=[8,9,32,2,7,35]) (id:=8) (len:=32) (cap:=32) (by simp) rfl hZl (by decide) ρ S w' hb hR) (by rw[hZl];decide) hZ8 (GN (id:=35) (n:=4) (by simp) (by rfl) rfl (by exact⟨⟨Dr (id:=9) (len:=32) (cap:=32) (by simp) rfl hOl (by decide),hO8⟩,⟨TU (id:=32) (by simp) rfl rfl,(by decide)⟩,⟨Dr (id:=2) (len:=32) (cap:=32) (by simp) rfl hDl (by decide),hD8⟩,⟨Dr (id:=7) (len:=32) (cap:=32) (by simp) rfl hMl (by decide),hM8⟩,trivial⟩) ρ S w' hb hR) (He hb hR) (by simp[hOl,hDl,hMl]) (by simp);rw[hK1]at a;exact a)) ?_;refine AB (by exact Fp (l:=K1) rfl gg rfl rfl rfl sizeOf46 (by simp[hZl]) hK1l) ?_;iterate 2 refine k_g ?_
 iterate 2 refine D8 ?_
 refine P8 ?_;refine AB (by exact Aj (v:= .agg (V1.map b8).toArray) [8,9,39] rfl gg rfl (eo func71) (fun ρ S w' hb hR=>by have a:=Ka (key:=K1) (ls:=[O]) w' (hK.bw hb) (hH.bw hb) (Nat.lt_of_lt_of_le hb1 hb.size) (Dr (rd:=[8,9,39]) (id:=8) (len:=32) (cap:=32) (by simp) rfl hK1l (by decide) ρ S w' hb hR) (by rw[hK1l];decide) hK18 (GN (id:=39) (n:=1) (by simp) (by rfl) rfl (by exact⟨⟨Dr (id:=9) (len:=32) (cap:=32) (by simp) rfl hOl (by decide),hO8⟩,trivial⟩) ρ S w' hb hR) (He hb hR) (by simp[hOl]) (by simp);rw[hV1]at a;exact a)) ?_;refine AB (by exact Fp (l:=V1) rfl gg rfl rfl rfl sizeOf46 (by simp[hOl]) hV1l) ?_;iterate 2 refine k_g ?_
 refine WA ?_;iterate 2 refine AA ?_
 refine F5 (fun i=>decide (i<12)||i==25) [32,35,39] (fun f=>by simp[CC];exact rfl) (by simp[BS];exact rfl) fun f=> ?_
 iterate 2 refine k_g ?_
 refine Fi ?_;iterate 13 refine AA ?_
 iterate 2 refine D8 ?_
 refine AA ?_;refine AB (by first|exact A5 rfl gg rfl YI|exact A5 rfl gg rfl YH) ?_;refine AB (by exact BV rfl rfl gg rfl (e:=5) (l:=[1].map b8) rfl (by decide) (fun _=>by kernel_rfl)) ?_;iterate 2 refine D8 ?_
 refine Vw ?_;refine AB (by exact Aj (v:= .agg (K2.map b8).toArray) [8,9,32,2,7,35] rfl gg rfl (eo func71) (fun ρ S w' hb hR=>by have a:=Ka (key:=K1) (ls:=[V1,[1],D,M]) w' (hK.bw hb) (hH.bw hb) (Nat.lt_of_lt_of_le hb1 hb.size) (Dr (rd:=[8,9,32,2,7,35]) (id:=8) (len:=32) (cap:=32) (by simp) rfl hK1l (by decide) ρ S w' hb hR) (by rw[hK1l];decide) hK18 (GN (id:=35) (n:=4) (by simp) (by rfl) rfl (by exact⟨⟨Dr (id:=9) (len:=32) (cap:=32) (by simp) rfl hV1l (by decide),hV18⟩,⟨TU (id:=32) (by simp) rfl rfl,(by decide)⟩,⟨Dr (id:=2) (len:=32) (cap:=32) (by simp) rfl hDl (by decide),hD8⟩,⟨Dr (id:=7) (len:=32) (cap:=32) (by simp) rfl hMl (by decide),hM8⟩,trivial⟩) ρ S w' hb hR) (He hb hR) (by simp[hV1l,hDl,hMl]) (by simp);rw[hK2]at a;exact a)) ?_;refine AB (by exact Fp (l:=K2) rfl gg rfl rfl rfl sizeOf46 (by simp[hK1l]) hK2l) ?_;iterate 2 refine k_g ?_
 iterate 2 refine D8 ?_
 refine P8 ?_;refine AB (by exact Aj (v:= .agg (V2.map b8).toArray) [8,9,39] rfl gg rfl (eo func71) (fun ρ S w' hb hR=>by have a:=Ka (key:=K2) (ls:=[V1]) w' (hK.bw hb) (hH.bw hb) (Nat.lt_of_lt_of_le hb1 hb.size) (Dr (rd:=[8,9,39]) (id:=8) (len:=32) (cap:=32) (by simp) rfl hK2l (by decide) ρ S w' hb hR) (by rw[hK2l];decide) hK28 (GN (id:=39) (n:=1) (by simp) (by rfl) rfl (by exact⟨⟨Dr (id:=9) (len:=32) (cap:=32) (by simp) rfl hV1l (by decide),hV18⟩,trivial⟩) ρ S w' hb hR) (He hb hR) (by simp[hV1l]) (by simp);rw[hV2]at a;exact a)) ?_;refine AB (by exact Fp (l:=V2) rfl gg rfl rfl rfl sizeOf46 (by simp[hV1l]) hV2l) ?_;iterate 2 refine k_g ?_
 refine WA ?_;iterate 2 refine AA ?_
 refine F5 (fun i=>decide (i<12)||i==25) [32,35,39] (fun f=>by simp[CC];exact rfl) (by simp[BS];exact rfl) fun f=> ?_
 iterate 2 refine k_g ?_
 refine Fi ?_;iterate 3 refine k_g ?_
 refine Aq ?_;change VOk _ _ _ _ _;refine k_g ?_;refine Ce 1 ?_;change VOk _ _ _ _ _;iterate 3 refine k_g ?_
 iterate 2 refine D8 ?_
 refine P8 ?_;refine AB (by exact Aj (v:= .agg (V3.map b8).toArray) [8,9,44] rfl gg rfl (eo func71) (fun ρ S w' hb hR=>by have a:=Ka (key:=K2) (ls:=[V2]) w' (hK.bw hb) (hH.bw hb) (Nat.lt_of_lt_of_le hb1 hb.size) (Dr (rd:=[8,9,44]) (id:=8) (len:=32) (cap:=32) (by simp) rfl hK2l (by decide) ρ S w' hb hR) (by rw[hK2l];decide) hK28 (GN (id:=44) (n:=1) (by simp) (by rfl) rfl (by exact⟨⟨Dr (id:=9) (len:=32) (cap:=32) (by simp) rfl hV2l (by decide),hV28⟩,trivial⟩) ρ S w' hb hR) (He hb hR) (by simp[hV2l]) (by simp);rw[hV3]at a;exact a)) ?_;refine AB (by exact Fp (l:=V3) rfl gg rfl rfl rfl sizeOf46 (by simp[hV2l]) hV3l) ?_;iterate 4 refine k_g ?_
 refine AB (by exact XJ (l:=V3) rfl gg rfl rfl underlying46 rfl sizeOf46 hV3l) ?_;refine AB (by exact Ah (v:= .bool true) rfl gg rfl (eo func37) (fun w' hw'=>by have a:=I6 hk w' (hL.bw hw');rw[hs,OB,←hVk]at a;exact a)) ?_;iterate 4 refine k_g ?_
 refine AB (by exact XJ (l:=V3) rfl gg rfl rfl underlying46 rfl sizeOf46 hV3l) ?_;refine AB (by exact Fp (l:=V3) rfl gg rfl rfl rfl sizeOf46 (by simp) hV3l) ?_;refine k_g ?_;refine AG ?_;refine AD (AM results39 (IT (vs:=V3.map b8) rfl rfl underlying46 rfl sizeOf46 (List.take_of_length_le (by simp[hV3l])) (by simp[hV3l]))) ?_;intro ρ w' hr;exact⟨by rw[hVk];rfl,hr.1⟩
theorem ol{p:Pt}(_hp:p.on)(h:p= .inf):BOy .eql 87 (PV p) (.agg #[.int .u8 0,.int .u8 0,.int .u8 0,.int .u8 0,.int .u8 0,.int .u8 0,.int .u8 0,.int .u8 0,.int .u8 0,.int .u8 0,.int .u8 0,.int .u8 0,.int .u8 0,.int .u8 0,.int .u8 0,.int .u8 0,.int .u8 0,.int .u8 0,.int .u8 0,.int .u8 0,.int .u8 0,.int .u8 0,.int .u8 0,.int .u8 0,.int .u8 0,.int .u8 0,.int .u8 0,.int .u8 0,.int .u8 0,.int .u8 0,.int .u8 0,.int .u8 0,.int .u8 0,.int .u8 0,.int .u8 0,.int .u8 0,.int .u8 0,.int .u8 0,.int .u8 0,.int .u8 0,.int .u8 0,.int .u8 0,.int .u8 0,.int .u8 0,.int .u8 0,.int .u8 0,.int .u8 0,.int .u8 0,.int .u8 0,.int .u8 0,.int .u8 0,.int .u8 0,.int .u8 0,.int .u8 0,.int .u8 0,.int .u8 0,.int .u8 0,.int .u8 0,.int .u8 0,.int .u8 0,.int .u8 0,.int .u8 0,.int .u8 0,.int .u8 0]) (.bool true):=by
 intro a b w
 subst h;exact om a b w
theorem NM{ty:TypeId}{x:Operand}{b:Nat}(ho:o.op= .slice ty x lo hi none)(hgd:AR ops o s)(hx:AC s x= .p id off)
 (hu:P.underlying ty=some (.array n el))(hs: ∀w,(Go.sizeOf el).run P w= .ok 1 w)(hlo:(match lo with|none=>SV.v (.int .i64 (0:Nat))|some z=>AC s z)= .v (.int .i64 (a:Nat)))(hhi:(match hi with|none=>SV.v (.int .i64 (n:Nat))|some z=>AC s z)= .v (.int .i64 (b:Nat)))(h1:a≤b)(h2:b≤n)(h3:a<n):
 Ev P ops w0 o s ⟨.s id (off+a) (b-a) (n-a),[],[],[],[]⟩:=
 Ev.run _ _ hgd fun ρ S w hb hR=>by
  have e1:=AH s ρ x;rw[hx]at e1
  have hbd: ∀(k m:Nat) (c:BoundsCode),k≤m→(Instr.sliceBound (.int .i64 (k:Nat)) m c).run P w= .ok k w:=by
   intro k m c hk;unfold Instr.sliceBound;rw[Sem.run_bind];simp only[asIntOf,Sem.run_pure,Result.andThen_ok];rw[if_pos ⟨by omega,by omega⟩];rfl
  have e2: ∀z,lo=some z→(s.act ρ).eval z= .int .i64 (a:Nat):=fun z hz=>by rw[AH];rw[hz]at hlo;simp only at hlo;rw[hlo];simp[SV.c]
  have e3: ∀z,hi=some z→(s.act ρ).eval z= .int .i64 (b:Nat):=fun z hz=>by rw[AH];rw[hz]at hhi;simp only at hhi;rw[hhi];simp[SV.c]
  have ea:lo=none→a=0:=fun hz=>by
   rw[hz]at hlo;simp only[SV.v.injEq,Value.int.injEq,true_and]at hlo;omega
  have eb:hi=none→b=n:=fun hz=>by
   rw[hz]at hhi;simp only[SV.v.injEq,Value.int.injEq,true_and]at hhi;omega
  have key: ∀t:Bool,(Instr.sliceBounds t n n (lo.map (s.act ρ).eval) (hi.map (s.act ρ).eval) none).run P w= .ok (a,b,n) w:=by
   intro t;unfold Instr.sliceBounds;cases hi with
   |none=>
    have:=eb rfl;subst this;cases lo with
    |none=>have:=ea rfl;subst this;simp
    |some z=>simp[e2 z rfl,hbd a b _ h1]
   |some y'=>
    cases lo with
    |none=>have:=ea rfl;subst this;simp[e3 y' rfl,hbd b n _ (by omega)]
    |some z=>simp[e2 z rfl,e3 y' rfl,hbd a b _ h1,hbd b n _ (by omega)]
  simp[execOp,ho,e1,SV.c,Instr.sliceAt,run_underlying hu,Instr.sureAddr,key,hs,BX];omega
theorem MQ{w:World}{base:Nat}{m:Mem}(hR:RelOn base ρ S w (restr rd m))(hid:id∈rd)(hm:m id=some (.dat (Fu n))): ∃g,(ρ id).val=ptr g∧At w g n:=by
 obtain⟨g,e1,_,e3⟩:=Fb hR hid hm;exact⟨g,by simpa using e1,Xq e3⟩
section
variable{ρ:Nat→Nm}{S:Nat→Nat→Prop}{w:World}{base:Nat}{m:Mem}{rd:List Nat}{id:Nat}{x y:Nat}
theorem Nk(hR:RelOn base ρ S w (restr rd m))(hid:id∈rd)(hm:m id=some (.dat (Fu nn)))(hx:x<R)(hy:y<R):CBy 43 #[(ρ id).val,N x,N y] w (N (x*y %nn)):=by
 obtain⟨g,e,h⟩:=MQ hR hid hm;rw[e];exact(Uf mdn hx hy w h).mono fun _ _ q=>⟨q.1,q.2.b⟩
theorem qb(hR:RelOn base ρ S w (restr rd m))(hid:id∈rd)(hm:m id=some (.dat (Fu nn)))(hx:x<R)(hy:y<R):CBy 44 #[(ρ id).val,N x,N y] w (N ((x+y) %nn)):=by
 obtain⟨g,e,h⟩:=MQ hR hid hm;rw[e];exact(Uz mdn hx hy w h).mono fun _ _ q=>⟨q.1,q.2.b⟩
theorem YW(hR:RelOn base ρ S w (restr rd m))(hid:id∈rd)(hm:m id=some (.dat (Fu nn)))(hx:x<R):CBy 40 #[(ρ id).val,N x] w (N (x %nn)):=by
 obtain⟨g,e,h⟩:=MQ hR hid hm;rw[e];exact(GJ mdn hx w h).mono fun _ _ q=>⟨q.1,q.2.b⟩
theorem YY(hR:RelOn base ρ S w (restr rd m))(hid:id∈rd)(hm:m id=some (.dat (Fu nn)))(hx:x<R)(hi:i<nn)(hv:i*x %nn=1):CBy 42 #[(ρ id).val,N x] w (.tuple #[N i,.int .i64 0]):=by
 obtain⟨g,e,h⟩:=MQ hR hid hm;have a:=QZ mdn hx w h
 rw[if_pos (by
  have h1:Nat.gcd x nn∣i*x %nn:=(Nat.dvd_mod_iff (Nat.gcd_dvd_right _ _)).2 (Nat.dvd_trans (Nat.gcd_dvd_left _ _) ⟨i,Nat.mul_comm _ _⟩);rw[hv]at h1;exact Nat.dvd_one.1 h1),Pn hi hv]at a
 rw[e];exact a.mono fun _ _ q=>⟨q.1,q.2.b⟩
end
theorem Mj(h:x<nn):x<R:=Nat.lt_trans h (by decide)
theorem GV(x:Nat):x %nn<R:=Mj (Nat.mod_lt _ (by decide))
theorem eqN(hx:x<R)(hy:y<R):BOy .eql 96 (N x) (N y) (.bool (decide (x=y))):=by
 intro p q w
 have:=NU 96 (.inl rfl) (lim x 0) (lim x 1) (lim x 2) (lim x 3) (lim y 0) (lim y 1) (lim y 2) (lim y 3) p q w;have e:decide (lim x 0=lim y 0∧lim x 1=lim y 1∧lim x 2=lim y 2∧lim x 3=lim y 3)=decide (x=y):=decide_eq_decide.2 ⟨fun⟨a,b,c,d⟩=>Ip hx hy a b c d,fun h=>by rw[h];exact⟨rfl,rfl,rfl,rfl⟩⟩;rw[e]at this;exact this
theorem neN(hx:x<R)(hy:y<R):BOy .neq 96 (N x) (N y) (.bool (!decide (x=y))):=by
 intro p q w
 have:=PY (lim x 0) (lim x 1) (lim x 2) (lim x 3) (lim y 0) (lim y 1) (lim y 2) (lim y 3) p q w;have e:decide (lim x 0=lim y 0∧lim x 1=lim y 1∧lim x 2=lim y 2∧lim x 3=lim y 3)=decide (x=y):=decide_eq_decide.2 ⟨fun⟨a,b,c,d⟩=>Ip hx hy a b c d,fun h=>by rw[h];exact⟨rfl,rfl,rfl,rfl⟩⟩;rw[e]at this;exact this
theorem Ub{b:Bool}(hx:x<R)(hy:y<R)(h:decide (x=y)= !b):BOy .neq 96 (N x) (N y) (.bool b):=by
 intro p q w
 rw[neN hx hy,h,Bool.not_not]
theorem XZ(hx:x<R)(h:x≠0):BOy .eql 96 (N x) (.agg #[.int .u64 0,.int .u64 0,.int .u64 0,.int .u64 0]) (.bool false):=by
 intro p q w
 have:=eqN hx (by decide:0<R) p q w;rw[decide_eq_false h,ZY]at this;exact this
theorem Yi:prog.built 96 []=some #[.int .u64 0,.int .u64 0,.int .u64 0,.int .u64 0]:=by kernel_rfl
theorem Rt{d:Nat}{Q:Pt}(hd:d<R)(hh:h<R)(hk:k<R)(w:World)(hL:Laid w)(hK:Au w)(hH:BD w)(hb1:8<w.heap.size)(sd:sec d=true)(hn:nV3 d (h %nn)=bl k)(hs:sec k=true)(hQ:AZ k base=Q)(hr:xv Q %nn=r)(hi:i<nn)(hv:i*k %nn=1)(ht:i*((h+r*d %nn) %nn) %nn=t)(hr0:r≠0)(ht0:t≠0):CBy 19 #[B32 d,B32 h] w (.tuple #[PT r t,.int .i64 0]):=by
 have hrR:r<R:=by rw[←hr];exact GV _
 have htR:t<R:=by rw[←ht];exact GV _
 go_enter func19,ntmps19
 refine AO ?_;iterate 4 refine AA ?_
 refine AB (by exact Bq rfl rfl gg zeroValue63) ?_;iterate 4 refine AA ?_
 refine AB (by exact Bq rfl rfl gg zeroValue63) ?_;iterate 4 refine k_g ?_
 refine AA ?_;refine AB (by exact Ah (v:= .bool true) rfl gg rfl (eo func37) (fun w' hw'=>by have a:=I6 hd w' (hL.bw hw');rw[sd]at a;exact a)) ?_;refine k_9 ?_;iterate 5 refine k_g ?_
 refine Ha ?_;iterate 6 refine AA ?_
 iterate 3 refine k_g ?_
 iterate 2 refine AA ?_
 refine AB (by exact Ah rfl gg rfl (eo func39) (fun w' hw'=>ug hd hh hk w' (hL.bw hw') (hK.bw hw') (hH.bw hw') (Nat.lt_of_lt_of_le hb1 hw'.size) hn hs)) ?_;iterate 7 refine AA ?_
 refine Kq ?_;refine AB (by exact AS rfl gg rfl (eo func32) (fun w' hw'=>Rl hk hQ TollEc.base_on w' (hL.bw hw'))) ?_;refine AB (by exact oE rfl gg rfl underlying87 rfl underlying46 rfl sizeOf46 (vs:=l32 (xv Q)) rfl) ?_;refine AB (by exact AS rfl gg rfl (eo func41) (fun w' hw'=>ofN (xv Q) (F3 Q) w')) ?_;refine AB (by exact Aj (v:=N r) [21] rfl gg rfl (eo func40) (fun ρ S w' hb hR=>hr▸YW (id:=21) hR (by simp) rfl (F3 Q))) ?_;iterate 7 refine AA ?_
 refine AB (by exact AS rfl gg rfl (eo func41) (fun w' hw'=>ofN k hk w')) ?_;refine AB (by exact Aj (v:= .tuple #[N i,.int .i64 0]) [21] rfl gg rfl (eo func42) (fun ρ S w' hb hR=>YY (id:=21) hR (by simp) rfl hk hi hv)) ?_;iterate 13 refine AA ?_
 refine Kp ?_;iterate 3 refine AA ?_
 refine AB (by exact AS rfl gg rfl (eo func41) (fun w' hw'=>ofN d hd w')) ?_;refine AB (by exact Aj (v:=N (r*d %nn)) [21] rfl gg rfl (eo func43) (fun ρ S w' hb hR=>Nk (id:=21) hR (by simp) rfl hrR hd)) ?_;refine AB (by exact Aj (v:=N ((h+r*d %nn) %nn)) [21] rfl gg rfl (eo func44) (fun ρ S w' hb hR=>qb (id:=21) hR (by simp) rfl hh (GV _))) ?_;refine AB (by exact Aj (v:=N t) [21] rfl gg rfl (eo func43) (fun ρ S w' hb hR=>ht▸Nk (id:=21) hR (by simp) rfl (Mj hi) (GV _))) ?_;iterate 7 refine AA ?_
 refine C9 ?_;iterate 2 refine AA ?_
 refine AB (by first|exact Ev.skip (fun _=>rfl)|exact Ar rfl (fun _=>rfl) rfl Yi) ?_;refine AB (by first|exact Ev.skip (fun _=>rfl)|exact AN (c:= .bool false) rfl (fun _=>rfl) rfl rfl (fun w=>XZ hrR hr0 _ _ w)) ?_;refine k_9 ?_;iterate 2 refine AA ?_
 refine AB (by first|exact Ev.skip (fun _=>rfl)|exact Ar rfl (fun _=>rfl) rfl Yi) ?_;refine AB (by first|exact Ev.skip (fun _=>rfl)|exact AN (c:= .bool false) rfl (fun _=>rfl) rfl rfl (fun w=>XZ htR ht0 _ _ w)) ?_;refine k_9 ?_;iterate 5 refine k_g ?_
 refine AA ?_;refine AB (by exact AS rfl gg rfl (eo func45) (fun w' hw'=>JS r w')) ?_;refine AA ?_;refine AB (by exact AS rfl gg rfl (eo func45) (fun w' hw'=>JS t w')) ?_;iterate 4 refine AA ?_
 iterate 3 refine k_g ?_
 refine Iv ?_;refine D8 ?_;refine AB (by exact XP (news:=l32 r) (len:=32) (k:=32) rfl gg rfl rfl rfl (GK rfl rfl rfl (by decide)) underlying26 FI rfl rfl (by first|decide|simp[l32]) rfl (by decide)) ?_;iterate 3 refine k_g ?_
 refine Gg ?_;refine D8 ?_;refine AB (by exact XP (news:=l32 t) (len:=32) (k:=32) rfl gg rfl rfl rfl (GK rfl rfl rfl (by decide)) underlying26 FI rfl rfl (by first|decide|simp[l32]) rfl (by decide)) ?_;iterate 3 refine k_g ?_
 refine AB (by first|exact Dw rfl gg rfl rfl underlying63 rfl sizeOf63 rfl rfl|exact CS rfl gg rfl underlying63 rfl sizeOf63 (by assumption) rfl|exact NP rfl gg rfl rfl underlying63 rfl sizeOf63 rfl) ?_;refine AB (by exact Be rfl gg rfl rfl rfl sizeOf63 rfl (by simp) rfl) ?_;iterate 2 refine AA ?_
 exact AG (AD (Av results19 (Ad rfl rfl underlying63 rfl sizeOf63 rfl rfl) (AE rfl)) fun _ _ hr=>⟨rfl,hr.1⟩)
theorem uw(_hh:h<R)(_hr:r<R)(_ht:t<R)(w:World)(_hL:Laid w)(hrd: ∀w',Bw w w'→CBy 34 #[v] w' (.tuple #[Gz,.int .i64 15])):CBy 54 #[v,B32 h,PT r t] w (.int .i64 15):=by
 go_enter func54,ntmps54
 refine AO ?_;iterate 9 refine AA ?_
 refine AB (by exact Ah (v:= .tuple #[.agg #[.int .u8 0,.int .u8 0,.int .u8 0,.int .u8 0,.int .u8 0,.int .u8 0,.int .u8 0,.int .u8 0,.int .u8 0,.int .u8 0,.int .u8 0,.int .u8 0,.int .u8 0,.int .u8 0,.int .u8 0,.int .u8 0,.int .u8 0,.int .u8 0,.int .u8 0,.int .u8 0,.int .u8 0,.int .u8 0,.int .u8 0,.int .u8 0,.int .u8 0,.int .u8 0,.int .u8 0,.int .u8 0,.int .u8 0,.int .u8 0,.int .u8 0,.int .u8 0,.int .u8 0,.int .u8 0,.int .u8 0,.int .u8 0,.int .u8 0,.int .u8 0,.int .u8 0,.int .u8 0,.int .u8 0,.int .u8 0,.int .u8 0,.int .u8 0,.int .u8 0,.int .u8 0,.int .u8 0,.int .u8 0,.int .u8 0,.int .u8 0,.int .u8 0,.int .u8 0,.int .u8 0,.int .u8 0,.int .u8 0,.int .u8 0,.int .u8 0,.int .u8 0,.int .u8 0,.int .u8 0,.int .u8 0,.int .u8 0,.int .u8 0,.int .u8 0],.int .i64 15]) rfl gg rfl (eo func34) (fun w' hw'=>hrd w' hw')) ?_;iterate 11 refine AA ?_
 refine AB (by exact A0 (p:=true) rfl gg rfl rfl (by decide)) ?_;iterate 7 refine AA ?_
 exact AG (AD (AM results54 (AE rfl)) fun _ _ hr=>⟨rfl,hr.1⟩)
theorem u9(_hh:h<R)(hr:r<R)(_ht:t<R)(w:World)(hL:Laid w)(hrd: ∀w',Bw w w'→CBy 34 #[v] w' (.tuple #[PT x y,.int .i64 0]))(sr:sec r=false):CBy 54 #[v,B32 h,PT r t] w (.int .i64 6):=by
 go_enter func54,ntmps54
 refine AO ?_;iterate 9 refine AA ?_
 refine Kg ?_;iterate 11 refine AA ?_
 refine C9 ?_;iterate 5 refine k_g ?_
 refine Iv ?_;refine FH ?_;refine AA ?_;refine Gg ?_;refine FH ?_;iterate 5 refine AA ?_
 iterate 4 refine k_g ?_
 refine AA ?_;refine AB (by exact Ah (v:= .bool false) rfl gg rfl (eo func37) (fun w' hw'=>by have a:=I6 hr w' (hL.bw hw');rw[sr]at a;exact a)) ?_;refine k_9 ?_;iterate 2 refine AA ?_
 iterate 2 refine DW ?_
 refine k_9 ?_;iterate 6 refine AA ?_
 exact AG (AD (AM results54 (AE rfl)) fun _ _ hr=>⟨rfl,hr.1⟩)
theorem u7(_hh:h<R)(hr:r<R)(ht:t<R)(w:World)(hL:Laid w)(hrd: ∀w',Bw w w'→CBy 34 #[v] w' (.tuple #[PT x y,.int .i64 0]))(sr:sec r=true)(st:sec t=false):CBy 54 #[v,B32 h,PT r t] w (.int .i64 6):=by
 go_enter func54,ntmps54
 refine AO ?_;iterate 9 refine AA ?_
 refine Kg ?_;iterate 11 refine AA ?_
 refine C9 ?_;iterate 5 refine k_g ?_
 refine Iv ?_;refine FH ?_;refine AA ?_;refine Gg ?_;refine FH ?_;iterate 5 refine AA ?_
 iterate 4 refine k_g ?_
 refine AA ?_;refine Ms ?_;refine k_9 ?_;iterate 2 refine AA ?_
 refine AB (by first|exact Ev.skip (fun _=>rfl)|exact Ah (v:= .bool false) rfl (fun _=>rfl) rfl (eo func37) (fun w' hw'=>by have a:=I6 ht w' (hL.bw hw');rw[st]at a;exact a)) ?_;refine CW ?_;iterate 6 refine AA ?_
 exact AG (AD (AM results54 (AE rfl)) fun _ _ hr=>⟨rfl,hr.1⟩)
theorem uz(hh:h<R)(hr:r<R)(ht:t<R)(w:World)(hL:Laid w){A B X:Pt}(hx:x<R)(hy:y<R)(hrd: ∀w',Bw w w'→CBy 34 #[v] w' (.tuple #[PT x y,.int .i64 0]))(sr:sec r=true)(st:sec t=true)(hi:i<nn)(hv:i*t %nn=1)(hA:AZ (i*h %nn) base=A)(hB:AZ (i*r %nn) (toP x y)=B)(oA:A.on)(oB:B.on)(hX:add A B=X)(oX:X.on)(hi0:X= .inf):CBy 54 #[v,B32 h,PT r t] w (.int .i64 6):=by
 go_enter func54,ntmps54
 refine AO ?_;iterate 9 refine AA ?_
 refine Kg ?_;iterate 11 refine AA ?_
 refine C9 ?_;iterate 5 refine k_g ?_
 refine Iv ?_;refine FH ?_;refine AA ?_;refine Gg ?_;refine FH ?_;iterate 5 refine AA ?_
 iterate 4 refine k_g ?_
 refine AA ?_;refine Ms ?_;refine k_9 ?_;iterate 2 refine AA ?_
 refine P5 ?_;refine CW ?_;iterate 5 refine k_g ?_
 refine Ha ?_;iterate 11 refine AA ?_
 refine QD ?_;refine QS ?_;iterate 11 refine AA ?_
 refine C9 ?_;iterate 8 refine AA ?_
 refine Kp ?_;refine QR ?_;iterate 3 refine AA ?_
 refine QC ?_;refine QQ ?_;iterate 4 refine AA ?_
 iterate 3 refine k_g ?_
 refine AA ?_;refine QG ?_;refine Kq ?_;refine QL ?_;refine AA ?_;refine QF ?_;refine AA ?_;refine QK ?_;refine QJ ?_;iterate 2 refine AA ?_
 iterate 4 refine k_g ?_
 refine AA ?_;refine AB (by exact Ar rfl gg rfl Ht) ?_;refine AB (by exact AN (c:= .bool true) rfl gg rfl rfl (fun w=>ol oX hi0 _ _ w)) ?_;iterate 4 refine AA ?_
 iterate 2 refine DW ?_
 refine AA ?_;iterate 2 refine DW ?_
 refine k_9 ?_;iterate 6 refine AA ?_
 exact AG (AD (AM results54 (AE rfl)) fun _ _ hr=>⟨rfl,hr.1⟩)
theorem vA(hh:h<R)(hr:r<R)(ht:t<R)(w:World)(hL:Laid w){A B X:Pt}(hx:x<R)(hy:y<R)(hrd: ∀w',Bw w w'→CBy 34 #[v] w' (.tuple #[PT x y,.int .i64 0]))(sr:sec r=true)(st:sec t=true)(hi:i<nn)(hv:i*t %nn=1)(hA:AZ (i*h %nn) base=A)(hB:AZ (i*r %nn) (toP x y)=B)(oA:A.on)(oB:B.on)(hX:add A B=X)(oX:X.on)(hi0:X≠ .inf)(hne:xv X %nn≠r):CBy 54 #[v,B32 h,PT r t] w (.int .i64 6):=by
 go_enter func54,ntmps54
 refine AO ?_;iterate 9 refine AA ?_
 refine Kg ?_;iterate 11 refine AA ?_
 refine C9 ?_;iterate 5 refine k_g ?_
 refine Iv ?_;refine FH ?_;refine AA ?_;refine Gg ?_;refine FH ?_;iterate 5 refine AA ?_
 iterate 4 refine k_g ?_
 refine AA ?_;refine Ms ?_;refine k_9 ?_;iterate 2 refine AA ?_
 refine P5 ?_;refine CW ?_;iterate 5 refine k_g ?_
 refine Ha ?_;iterate 11 refine AA ?_
 refine QD ?_;refine QS ?_;iterate 11 refine AA ?_
 refine C9 ?_;iterate 8 refine AA ?_
 refine Kp ?_;refine QR ?_;iterate 3 refine AA ?_
 refine QC ?_;refine QQ ?_;iterate 4 refine AA ?_
 iterate 3 refine k_g ?_
 refine AA ?_;refine QG ?_;refine Kq ?_;refine QL ?_;refine AA ?_;refine QF ?_;refine AA ?_;refine QK ?_;refine QJ ?_;iterate 2 refine AA ?_
 iterate 4 refine k_g ?_
 refine AA ?_;refine AB (by exact Ar rfl gg rfl Ht) ?_;refine AB (by exact AN (c:= .bool false) rfl gg rfl rfl (fun w=>XY oX hi0 _ _ w)) ?_;iterate 4 refine AA ?_
 refine V9 ?_;refine WU ?_;refine AA ?_;refine AB (by first|exact Ev.skip (fun _=>rfl)|exact AS rfl (fun _=>rfl) rfl (eo func41) (fun w' hw'=>ofN r hr w')) ?_;refine AB (by first|exact Ev.skip (fun _=>rfl)|exact AN (c:= .bool true) rfl (fun _=>rfl) rfl rfl (fun w=>Ub (GV _) hr (decide_eq_false hne) _ _ w)) ?_;refine k_9 ?_;iterate 6 refine AA ?_
 exact AG (AD (AM results54 (AE rfl)) fun _ _ hr=>⟨rfl,hr.1⟩)
theorem u6(hh:h<R)(hr:r<R)(ht:t<R)(w:World)(hL:Laid w){A B X:Pt}(hx:x<R)(hy:y<R)(hrd: ∀w',Bw w w'→CBy 34 #[v] w' (.tuple #[PT x y,.int .i64 0]))(sr:sec r=true)(st:sec t=true)(hi:i<nn)(hv:i*t %nn=1)(hA:AZ (i*h %nn) base=A)(hB:AZ (i*r %nn) (toP x y)=B)(oA:A.on)(oB:B.on)(hX:add A B=X)(oX:X.on)(hi0:X≠ .inf)(hne:xv X %nn=r):CBy 54 #[v,B32 h,PT r t] w (.int .i64 0):=by
 go_enter func54,ntmps54
 refine AO ?_;iterate 9 refine AA ?_
 refine Kg ?_;iterate 11 refine AA ?_
 refine C9 ?_;iterate 5 refine k_g ?_
 refine Iv ?_;refine FH ?_;refine AA ?_;refine Gg ?_;refine FH ?_;iterate 5 refine AA ?_
 iterate 4 refine k_g ?_
 refine AA ?_;refine Ms ?_;refine k_9 ?_;iterate 2 refine AA ?_
 refine P5 ?_;refine CW ?_;iterate 5 refine k_g ?_
 refine Ha ?_;iterate 11 refine AA ?_
 refine QD ?_;refine QS ?_;iterate 11 refine AA ?_
 refine C9 ?_;iterate 8 refine AA ?_
 refine Kp ?_;refine QR ?_;iterate 3 refine AA ?_
 refine QC ?_;refine QQ ?_;iterate 4 refine AA ?_
 iterate 3 refine k_g ?_
 refine AA ?_;refine QG ?_;refine Kq ?_;refine QL ?_;refine AA ?_;refine QF ?_;refine AA ?_;refine QK ?_;refine QJ ?_;iterate 2 refine AA ?_
 iterate 4 refine k_g ?_
 refine AA ?_;refine AB (by exact Ar rfl gg rfl Ht) ?_;refine AB (by exact AN (c:= .bool false) rfl gg rfl rfl (fun w=>XY oX hi0 _ _ w)) ?_;iterate 4 refine AA ?_
 refine V9 ?_;refine WU ?_;refine AA ?_;refine AB (by first|exact Ev.skip (fun _=>rfl)|exact AS rfl (fun _=>rfl) rfl (eo func41) (fun w' hw'=>ofN r hr w')) ?_;refine AB (by first|exact Ev.skip (fun _=>rfl)|exact AN (c:= .bool false) rfl (fun _=>rfl) rfl rfl (fun w=>Ub (GV _) hr (decide_eq_true hne) _ _ w)) ?_;refine k_9 ?_;iterate 7 refine AA ?_
 exact AG (AD (AM results54 (AE rfl)) fun _ _ hr=>⟨rfl,hr.1⟩)
theorem fp:TollNt.Prm nn:=TollNt.prm_115792089210356248762697446949407573529996955224135760342422259061068512044369
theorem Qh(h:sec t=true):t^(nn-2) %nn*t %nn=1∧t^(nn-2) %nn<nn:=by
 have h1:=of_decide_eq_true h;refine⟨?_,Nat.mod_lt _ (by decide)⟩;rw[Nat.mod_mul_mod,←Nat.pow_succ];have e:(nn-2).succ=nn-1:=by decide
 rw[e];exact TollNt.fermat fp fun c=>by have:=Nat.le_of_dvd (by omega) c;omega
def JE(w:World)(v:Value):Prop:= ∀w',Bw w w'→CBy 34 #[v] w' (.tuple #[Gz,.int .i64 15])
def JO(w:World)(v:Value)(x y:Nat):Prop:=x<R∧y<R∧ ∀w',Bw w w'→CBy 34 #[v] w' (.tuple #[PT x y,.int .i64 0])
theorem Mp(n:Nat):l32 n=(bl n).map b8:=rfl
theorem cS(h:sec a=true):AZ a base≠ .inf:=fun c=>by
 have h1:=of_decide_eq_true h;have h2:=TollEc.smul_eq_inf c;have:=Nat.le_of_dvd (by omega) h2;omega
open TollSha (H0)
open TollMont (R)
theorem Tryz.own:ownKnob prog.godebug=none:=by kernel_rfl
theorem eW:Plain prog:=⟨by kernel_rfl,by kernel_rfl,by kernel_rfl⟩
theorem qQ:prog.cellsOf 187=1:=by kernel_rfl
theorem qN:prog.cellsOf 188=8:=by kernel_rfl
theorem qO:prog.cellsOf 203=64:=by kernel_rfl
theorem qP:prog.cellsOf 96=4:=by kernel_rfl
theorem qM:prog.cellsOf 22=1:=by kernel_rfl
theorem Wz:prog.globalNamed "tollgate/hash.start" =some 6:=by kernel_rfl
theorem aj:(prog.globals[6]?).map (·.type)=some 188:=by kernel_rfl
theorem W0:prog.globalNamed "tollgate/hash.rounds" =some 8:=by kernel_rfl
theorem ak:(prog.globals[8]?).map (·.type)=some 203:=by kernel_rfl
theorem W1:prog.globalNamed "tollgate/curve.prime" =some 4:=by kernel_rfl
theorem ar:(prog.globals[4]?).map (·.type)=some 96:=by kernel_rfl
theorem kh:Bt (pp)=[18446744073709551615,4294967295,0,18446744069414584321].map (Value.int .u64):=by
 obtain⟨e0,e1,e2,e3⟩:=j9;unfold Bt;rw[e0,e1,e2,e3];rfl
theorem W2:prog.globalNamed "tollgate/curve.order" =some 1:=by kernel_rfl
theorem au:(prog.globals[1]?).map (·.type)=some 96:=by kernel_rfl
theorem kj:Bt (nn)=[17562291160714782033,13611842547513532036,18446744073709551615,18446744069414584320].map (Value.int .u64):=by
 obtain⟨e0,e1,e2,e3⟩:=kA;unfold Bt;rw[e0,e1,e2,e3];rfl
theorem W3:prog.globalNamed "tollgate/curve.coeff" =some 5:=by kernel_rfl
theorem av:(prog.globals[5]?).map (·.type)=some 96:=by kernel_rfl
theorem km:Bt (cb.val)=[4309448131093880907,7285987128567378166,12964664127075681980,6540974713487397863].map (Value.int .u64):=by
 obtain⟨e0,e1,e2,e3⟩:=j8;unfold Bt;rw[e0,e1,e2,e3];rfl
theorem W5:prog.globalNamed "tollgate/curve.baseX" =some 2:=by kernel_rfl
theorem ay:(prog.globals[2]?).map (·.type)=some 96:=by kernel_rfl
theorem kp:Bt (TollEc.bx.val)=[17627433388654248598,8575836109218198432,17923454489921339634,7716867327612699207].map (Value.int .u64):=by
 obtain⟨e0,e1,e2,e3⟩:=kD;unfold Bt;rw[e0,e1,e2,e3];rfl
theorem W4:prog.globalNamed "tollgate/curve.baseY" =some 3:=by kernel_rfl
theorem aw:(prog.globals[3]?).map (·.type)=some 96:=by kernel_rfl
theorem ko:Bt (TollEc.bY.val)=[14678990851816772085,3156516839386865358,10297457778147434006,5756518291402817435].map (Value.int .u64):=by
 obtain⟨e0,e1,e2,e3⟩:=kC;unfold Bt;rw[e0,e1,e2,e3];rfl
theorem LP{enc:TypeId×Value→H}{W:World}{base:Nat}{zs:List Int}{cs:Array Value}(hg:prog.globalNamed name=some g)(hv:W.var? prog name=some cs)
 (hd:DataW.trod enc prog W base sp held fuel 96 cs.toList=some (tabData .u64 zs,p))(hl:Bt n=zs.map (Value.int .u64)): ∀(j:Nat) (v:Value),(Bt n)[j]? =some v→W.cell? ⟨g,0+j,none⟩=some v:=fun j v hj=>by
 have h1:=cells_of_tab underlying96 underlying22 qM qP hd;have h2:=World.var?_cell hg hv (0+j);rw[h2,Nat.zero_add];rw[hl,←h1]at hj;simpa using hj
theorem YS{enc:TypeId×Value→H}{W:World}{T base:Nat}{zs:List Int}{cs:Array Value}(hu:prog.underlying T=some (.array n 187))(hc:prog.cellsOf T=n)(hg:prog.globalNamed name=some g)(hv:W.var? prog name=some cs)
 (hd:DataW.trod enc prog W base sp held fuel T cs.toList=some (tabData .u32 zs,p)): ∀(j:Nat) (z:Int),zs[j]? =some z→W.cell? ⟨g,j,none⟩=some (.int .u32 z):=fun j z hj=>by
 have h1:=cells_of_tab hu underlying187 qQ hc hd;have h2:=World.var?_cell hg hv j;rw[h2];have:(zs.map (Value.int .u32))[j]? =some (.int .u32 z):=by rw[List.getElem?_map,hj];rfl
 rw[←h1]at this;simpa using this
def NH:List Int:=[1779033703,3144134277,1013904242,2773480762,1359893119,2600822924,528734635,1541459225]
def Ku:List Int:=[1116352408,1899447441,3049323471,3921009573,961987163,1508970993,2453635748,2870763221,3624381080,310598401,607225278,1426881987,1925078388,2162078206,2614888103,3248222580,3835390401,4022224774,264347078,604807628,770255983,1249150122,1555081692,1996064986,2554220882,2821834349,2952996808,3210313671,3336571891,3584528711,113926993,338241895,666307205,773529912,1294757372,1396182291,1695183700,1986661051,2177026350,2456956037,2730485921,2820302411,3259730800,3345764771,3516065817,3600352804,4094571909,275423344,430227734,506948616,659060556,883997877,958139571,1322822218,1537002063,1747873779,1955562222,2024104815,2227730452,2361852424,2428436474,2756734187,3204031479,3329325298]
theorem nJ:NH.map (Value.int .u32)=[uv H0.a,uv H0.b,uv H0.c,uv H0.d,uv H0.e,uv H0.f,uv H0.g,uv H0.h]:=by kernel_rfl
theorem Wb:NH.length=8∧Ku.length=64∧Ku.map (Value.int .u32)=TollSha.K.map uv:=⟨by kernel_rfl,by kernel_rfl,by kernel_rfl⟩
def D7:List (String×DataW Unit):=[("tollgate/hash.start",Rows.laid_tollgate_hash_start),("tollgate/hash.rounds",Rows.laid_tollgate_hash_rounds),("tollgate/curve.prime",Rows.laid_tollgate_curve_prime),("tollgate/curve.order",Rows.laid_tollgate_curve_order),("tollgate/curve.coeff",Rows.laid_tollgate_curve_coeff),("tollgate/curve.baseX",Rows.laid_tollgate_curve_baseX),("tollgate/curve.baseY",Rows.laid_tollgate_curve_baseY),("unicode/utf8.acceptRanges",Rows.laid_unicode_utf8_acceptRanges),("unicode/utf8.first",Rows.laid_unicode_utf8_first)]
theorem fb{W:World}(h:laidMetH prog D7 W):Laid W∧Au W∧BD W∧8<W.heap.size:=by
 unfold D7 at h;rw[MakeChecks.laidMetH_plain _ _ _ (by kernel_rfl)]at h;obtain⟨ps,⟨g0,t0,cs0,f0,p0,q0,hg0,ht0,hv0,hd0,⟨g1,t1,cs1,f1,p1,q1,hg1,ht1,hv1,hd1,⟨g2,t2,cs2,f2,p2,q2,hg2,ht2,hv2,hd2,⟨g3,t3,cs3,f3,p3,q3,hg3,ht3,hv3,hd3,⟨g4,t4,cs4,f4,p4,q4,hg4,ht4,hv4,hd4,⟨g5,t5,cs5,f5,p5,q5,hg5,ht5,hv5,hd5,⟨g6,t6,cs6,f6,p6,q6,hg6,ht6,hv6,hd6,_,_⟩,_⟩,_⟩,_⟩,_⟩,_⟩,_⟩,_⟩:=h;obtain rfl:=Option.some.inj (Wz.symm.trans hg0);obtain rfl:=Option.some.inj (aj.symm.trans ht0);obtain rfl:=Option.some.inj (W0.symm.trans hg1);obtain rfl:=Option.some.inj (ak.symm.trans ht1);obtain rfl:=Option.some.inj (W1.symm.trans hg2);obtain rfl:=Option.some.inj (ar.symm.trans ht2);obtain rfl:=Option.some.inj (W2.symm.trans hg3);obtain rfl:=Option.some.inj (au.symm.trans ht3);obtain rfl:=Option.some.inj (W3.symm.trans hg4);obtain rfl:=Option.some.inj (av.symm.trans ht4);obtain rfl:=Option.some.inj (W5.symm.trans hg5);obtain rfl:=Option.some.inj (ay.symm.trans ht5);obtain rfl:=Option.some.inj (W4.symm.trans hg6);obtain rfl:=Option.some.inj (aw.symm.trans ht6);have k1: ∀(j:Nat) (z:Int),Ku[j]? =some z→W.cell? ⟨8,j,none⟩=some (.int .u32 z):=YS underlying203 qO W0 hv1 hd1;have k0: ∀(j:Nat) (z:Int),NH[j]? =some z→W.cell? ⟨6,j,none⟩=some (.int .u32 z):=YS underlying188 qN Wz hv0 hd0
 have hK:Au W:=fun i hi=>by
  obtain⟨z,e⟩: ∃z,Ku[i]? =some z:=⟨_,List.getElem?_eq_getElem (by rw[Wb.2.1];exact hi)⟩
  have:=k1 i _ e;rw[this];have e2:(Ku.map (Value.int .u32))[i]? =some (.int .u32 z):=by rw[List.getElem?_map,e];rfl
  rw[Wb.2.2,List.getElem?_map]at e2;cases hq:TollSha.K[i]? with
  |none=>rw[hq]at e2;cases e2
  |some q=>
   rw[hq]at e2;rw[List.getD_eq_getElem?_getD,hq];exact e2.symm
 refine⟨⟨LP W5 hv5 hd5 kp,LP W4 hv6 hd6 ko,LP W2 hv3 hd3 kj,LP W1 hv2 hd2 kh,LP W3 hv4 hd4 km⟩,hK,fun j v hj=> ?_,World.block_lt_of_cell? _ _ (hK 0 (by omega))⟩;rw[←nJ,List.getElem?_map]at hj;cases hq:NH[j]? with
 |none=>rw[hq]at hj;cases hj
 |some z=>
  rw[hq]at hj;obtain rfl:Value.int .u32 z=v:=by simpa using hj
  exact k0 j z hq
theorem HM(b:B)(c:B→A:=by exact AP (by first|exact Be rfl gg rfl rfl rfl sizeOf28 rfl (by simp) rfl|exact Az (vl:=[_,_,_,_,_,.d 55,_,_,_]) [55,9] rfl gg rfl rfl rfl sizeOf28 rfl (fun ρ S w' _ hR=>⟨CG _,by have hh:=CO (id:=55) hR (by simp) rfl;simp only[SV.cs,SV.c,List.all_cons,List.all_nil,hh.2];rfl⟩) rfl (by simp)|exact Az (vl:=[_,_,_,_,_,.d 55,_,_,_]) [55,2] rfl gg rfl rfl rfl sizeOf28 rfl (fun ρ S w' _ hR=>⟨CG _,by have hh:=CO (id:=55) hR (by simp) rfl;simp only[SV.cs,SV.c,List.all_cons,List.all_nil,hh.2];rfl⟩) rfl (by simp)) id):A:=c b
theorem Tl(b:B)(c:B→A:=by exact AP (by first|exact Az (vl:=[.v (.int .i64 c.se),.v (.string (AI c.is)),.v (.string (AI c.su)),.v (.int .i64 c.fr),.v (.int .i64 c.to),.fn (AU 5) (.d 9),.v (.bool c.ca),.v (.int .i64 c.pa),.v (.int .i64 c.us)]) [9,4] rfl gg rfl rfl rfl sizeOf28 rfl (fun ρ S w' _ hR=>by obtain⟨kv,e,h⟩:=Ca (id:=9) hR (by simp) rfl;exact Ch e h) rfl (by simp)|exact Az (vl:=[.v (.int .i64 c.se),.v (.string (AI c.is)),.v (.string (AI c.su)),.v (.int .i64 c.fr),.v (.int .i64 c.to),.fn (AU 5) (.d 9),.v (.bool c.ca),.v (.int .i64 c.pa),.v (.int .i64 c.us)]) [9,2] rfl gg rfl rfl rfl sizeOf28 rfl (fun ρ S w' _ hR=>⟨CG _,by obtain⟨kv,e,h⟩:=Ca (id:=9) hR (by simp) rfl;exact(Ch e h).2⟩) rfl (by simp)) id):A:=c b
theorem Tk(b:B)(c:B→A:=by exact AP (by first|exact Ev.skip (fun _=>rfl)|exact AN rfl (fun _=>rfl) rfl rfl (fun w=>ov _ _ _ _ w)) id):A:=c b
theorem MP(b:B)(c:B→A:=by exact AP (by first|exact Ev.skip (fun _=>rfl)|exact Cs [55] rfl rfl (fun _=>rfl) rfl (eo func21) (n:=(wrT (c.whole r t)).1.length) (size:=1) (l:=(wrT (c.whole r t)).1.map b8) (by simp) (fun ρ S w' hb hR=>SE (c:=c) (r:=r) (t:=t) w' hF (Dq (id:=55) hR (by simp) rfl))) id):A:=c b
theorem MO(b:B)(c:B→A:=by exact AP (by first|exact Ek (did:=16) rfl gg rfl rfl rfl rfl sizeOf108 rfl|exact Ek (did:=25) rfl gg rfl rfl rfl rfl sizeOf108 rfl|exact Ek (did:=28) rfl gg rfl rfl rfl rfl sizeOf108 rfl|exact Ek (did:=60) rfl gg rfl rfl rfl rfl sizeOf108 rfl) id):A:=c b
theorem Tj(b:B)(c:B→A:=by exact AP (by first|exact Aj (v:= .tuple #[ZV,.int .i64 2]) [100] rfl gg rfl (eo func97) (fun ρ S w' hb hR=>by have a:=ZR w' (ES (id:=100) hR (by simp) rfl) (J2 hsg) (by have:=MH hsg;omega);rw[h_s]at a;exact a)|exact Aj (v:= .tuple #[PT r t,.int .i64 0]) [100] rfl gg rfl (eo func97) (fun ρ S w' hb hR=>by have a:=ZR w' (ES (id:=100) hR (by simp) rfl) (J2 hsg) (by have:=MH hsg;omega);rw[h_s]at a;exact a)) id):A:=c b
theorem MN(b:B)(c:B→A:=by exact AP (by first|exact Ev.skip (fun _=>rfl)|exact XR h_e [114] rfl (fun _=>rfl) rfl (eo func98) (fun ρ S w' hb hR=>ut w' (Dq (id:=114) hR (by simp) rfl) (Aa hv hb) (FT (G1 hF r t)) h8)) id):A:=c b
theorem MM(b:B)(c:B→A:=by exact AP (by first|exact Ev.skip (fun _=>rfl)|exact XR h_r [55] rfl (fun _=>rfl) rfl (eo func18) (fun ρ S w' hb hR=>TI (c:=c) w' (hL.bw hb) (Dq (id:=55) hR (by simp) rfl) k8 i8 s8 il sl)) id):A:=c b
theorem IW(b:B)(c:B→A:=by exact AP (by first|exact A0 (p:=true) rfl gg rfl rfl (by decide)|exact A0 (p:=false) rfl gg rfl rfl (by decide)) id):A:=c b
theorem Ti(b:B)(c:B→A:=by exact AP (by first|exact Ek (did:=8) rfl gg rfl rfl rfl rfl sizeOf108 rfl|exact Az (vl:=[.fn (AU 0) (.d 8),.fn (AU 1) (.d 8),.fn (AU 2) (.d 8)]) [2,8] rfl gg rfl rfl rfl sizeOf108 rfl (fun ρ S w' _ hR=>⟨CG _,by obtain⟨c,h1,h2⟩:=CY (id:=8) hR (by simp) rfl;exact(fn3 h1 (CM h2)).2▸FR h2⟩) rfl (by simp)) id):A:=c b
theorem PF(b:B)(c:B→A:=by exact AP (by first|exact Be rfl gg rfl rfl rfl sizeOf108 rfl (by simp) rfl|exact Be rfl gg rfl rfl rfl sizeOf108 rfl (by simp) (UJ hu)|exact Be rfl gg rfl rfl rfl sizeOf108 rfl (by simp) (UJ hd2)) id):A:=c b
theorem Tg(b:B)(c:B→A:=by exact AP (by first|exact Ah (v:= .tuple #[ZV,.int .i64 15]) rfl gg rfl (eo func34) (fun w' hw'=>hj w' hw')|exact Ah (v:= .tuple #[PT (kX c.ky) (kY c.ky),.int .i64 0]) rfl gg rfl (eo func34) (fun w' hw'=>hj w' hw')) id):A:=c b
theorem Tf(b:B)(c:B→A:=by exact AP (by first|exact Ev.skip (fun _=>rfl)|exact Ev.skip (fun _=>rfl)|exact nu (v:= .int .i64 tg) (rd:=[13]) rfl (fun _=>rfl) rfl rfl underlying3 rfl rfl (fun ρ S w' hR=>by obtain⟨c,h1,h2⟩:=CY (id:=13) hR (by simp) rfl;exact qR h1 h2)) id):A:=c b
theorem PE(b:B)(c:B→A:=by exact AP (by first|exact Ek (did:=13) rfl gg rfl rfl rfl rfl sizeOf108 rfl|exact Ek (did:=37) rfl gg rfl rfl rfl rfl sizeOf108 rfl) id):A:=c b
theorem Te(b:B)(c:B→A:=by exact AP (by exact Bp (Dat.sl (Bv (AL [2] n0)).length 1 ((Bv (AL [2] n0)).map b8)) [99] rfl rfl gg rfl (eo func95) (fun ρ S w' hb hR=>Ya 99 (A8 _ (hok)) hR (by simp) rfl)) id):A:=c b
theorem Td(b:B)(c:B→A:=by exact AP (by exact BV rfl rfl gg rfl (e:=3) (l:=DY [1]) rfl (by decide) (fun _=>by kernel_rfl)) id):A:=c b
theorem PD(b:B)(c:B→A:=by exact AP (by exact BG (D:=AQ EV) [] rfl rfl gg rfl (eo func84) (fun ρ S w' hb hR=>Zh w')) id):A:=c b
theorem Tc(b:B)(c:B→A:=by exact AP (by exact Cg (D:=Bg c) (ys:=[PT r t,.int .i64 0]) [] rfl rfl gg rfl (eo func53) (fun ρ S w' hb hR=>dU w' (hL.bw hb) (Aa hv hb) h8 hbl hc)) id):A:=c b
theorem Tq(b:B)(c:B→A:=by exact AP (by exact Bp (AQ (AL [2] n0)) [16,98] rfl rfl gg rfl (eo func92) (fun ρ S w' hb hR=>EC 16 98 [2] hR (by simp) (by simp) rfl rfl)) id):A:=c b
theorem Tp(b:B)(c:B→A:=by exact AP (by exact BG (D:=AQ (B0 E4)) [] rfl rfl gg rfl (eo func50) (fun ρ S w' hb hR=>Hq (b:=E4) w' (by decide) (by decide))) id):A:=c b
theorem To(b:B)(c:B→A:=by exact AP (by exact Ah (v:= .tuple #[CZ,ZV,.int .i64 2]) rfl gg rfl (eo func53) (fun w' hw'=>dP w' (hL.bw hw') (Aa hv hw') h8 hbl hc)) id):A:=c b
theorem Fc(b:B)(c:B→A:=by exact AP (by exact A2 (c:=((i+1:Nat):Int)) rfl gg rfl rfl (by rw[Af (by omega) (by omega)];omega)) id):A:=c b
theorem Tn(b:B)(c:B→A:=by exact AP (by exact BV rfl rfl gg rfl (e:=3) (l:=DY [2]) rfl (by decide) (fun _=>by kernel_rfl)) id):A:=c b
theorem dp(b:B)(c:B→A:=by exact AP (by exact BU (k:=i) rfl gg rfl rfl underlying194 sizeOf3 (AW hp) (hlt) (by decide)) id):A:=c b
theorem Tm(b:B)(c:B→A:=by exact AP (by first|exact Ev.skip (fun _=>rfl)|exact C0 h_f rfl (fun _=>rfl) rfl (eo func36) (fun w' hw'=>Pe w' s8 sl)) id):A:=c b
theorem PG(b:B)(c:B→A:=by exact AP (by first|exact Ev.skip (fun _=>rfl)|exact Ax (p:=true) rfl (fun _=>rfl) rfl rfl (by decide)) id):A:=c b
theorem HL(b:B)(c:B→A:=by exact AP (by exact Ar rfl gg rfl qs) id):A:=c b
theorem dn(b:B)(c:B→A:=by exact AP (by exact B5 rfl gg rfl underlying3 rfl (AW hp) (mg hj)) id):A:=c b
theorem HK(b:B)(c:B→A:=by exact AP (by exact Ar rfl gg rfl Yj) id):A:=c b
theorem GM(b:B)(c:B→A:=by intro b;refine PG ?_;refine k_9 ?_;exact b):A:=c b
theorem d_4(b:B)(c:B→A:=by exact AP (by first|exact Az (vl:=[.v (.int .i64 c.se),.v (.string (AI c.is)),.v (.string (AI c.su)),.v (.int .i64 c.fr),.v (.int .i64 c.to),.fn (AU 5) (.d 17),.v (.bool c.ca),.v (.int .i64 c.pa),.v (.int .i64 c.us)]) [17,6] rfl gg rfl rfl rfl sizeOf28 rfl (fun ρ S w' _ hR=>by obtain⟨kv,e,h⟩:=Ca (id:=17) hR (by simp) rfl;exact Ch e h) rfl (by simp)|exact Az (vl:=[.v (.int .i64 c.se),.v (.string (AI c.is)),.v (.string (AI c.su)),.v (.int .i64 c.fr),.v (.int .i64 c.to),.fn (AU 5) (.d 17),.v (.bool c.ca),.v (.int .i64 c.pa),.v (.int .i64 c.us)]) [17,4] rfl gg rfl rfl rfl sizeOf28 rfl (fun ρ S w' _ hR=>⟨CG _,by obtain⟨kv,e,h⟩:=Ca (id:=17) hR (by simp) rfl;exact(Ch e h).2⟩) rfl (by simp)|exact Az (vl:=[.v (.int .i64 c.se),.v (.string (AI c.is)),.v (.string (AI c.su)),.v (.int .i64 c.fr),.v (.int .i64 c.to),.fn (AU 5) (.d 17),.v (.bool c.ca),.v (.int .i64 c.pa),.v (.int .i64 c.us)]) [17,2] rfl gg rfl rfl rfl sizeOf28 rfl (fun ρ S w' _ hR=>⟨CG _,by obtain⟨kv,e,h⟩:=Ca (id:=17) hR (by simp) rfl;exact(Ch e h).2⟩) rfl (by simp)|exact Be rfl gg rfl rfl rfl sizeOf28 rfl (by simp) rfl) id):A:=c b
theorem d_5(b:B)(c:B→A:=by exact AP (by first|exact Az (vl:=[.v (.int .i64 c.se),.v (.string (AI c.is)),.v (.string (AI c.su)),.v (.int .i64 c.fr),.v (.int .i64 c.to),.fn (AU 5) (.d 38),.v (.bool c.ca),.v (.int .i64 c.pa),.v (.int .i64 c.us)]) [38,11] rfl gg rfl rfl rfl sizeOf28 rfl (fun ρ S w' _ hR=>by obtain⟨kv,e,h⟩:=Ca (id:=38) hR (by simp) rfl;exact Ch e h) rfl (by simp)|exact Az (vl:=[.v (.int .i64 c.se),.v (.string (AI c.is)),.v (.string (AI c.su)),.v (.int .i64 c.fr),.v (.int .i64 c.to),.fn (AU 5) (.d 38),.v (.bool c.ca),.v (.int .i64 c.pa),.v (.int .i64 c.us)]) [38,8] rfl gg rfl rfl rfl sizeOf28 rfl (fun ρ S w' _ hR=>⟨CG _,by obtain⟨kv,e,h⟩:=Ca (id:=38) hR (by simp) rfl;exact(Ch e h).2⟩) rfl (by simp)|exact Be rfl gg rfl rfl rfl sizeOf28 rfl (by simp) rfl) id):A:=c b
theorem Q0(b:B)(c:B→A:=by exact AP (by exact NS [] rfl rfl gg rfl (eo func11) (n:=65) (size:=1) (l:=Ao.map b8) (y:=B32 904625697166532776746648320380374280103671755200316906558262375061821325313) (by rfl) (fun ρ S w' hb hR=>Vj w' (hL.bw hb))) id):A:=c b
theorem pT(b:B)(c:B→A:=by exact AP (by exact NS [] rfl rfl gg rfl (eo func11) (n:=65) (size:=1) (l:=Ay.map b8) (y:=B32 904625697166532776746648320380374280103671755200316906558262375061821325314) (by rfl) (fun ρ S w' hb hR=>Vi w' (hL.bw hb))) id):A:=c b
theorem X4(b:B)(c:B→A:=by exact AP (by first|exact Az (vl:=[.v (.int .i64 c.se),.v (.string (AI c.is)),.v (.string (AI c.su)),.v (.int .i64 c.fr),.v (.int .i64 c.to),.fn (AU 5) (.d 14),.v (.bool c.ca),.v (.int .i64 c.pa),.v (.int .i64 c.us)]) [14,6] rfl gg rfl rfl rfl sizeOf28 rfl (fun ρ S w' _ hR=>by obtain⟨kv,e,h⟩:=Ca (id:=14) hR (by simp) rfl;exact Ch e h) rfl (by simp)|exact Az (vl:=[.v (.int .i64 c.se),.v (.string (AI c.is)),.v (.string (AI c.su)),.v (.int .i64 c.fr),.v (.int .i64 c.to),.fn (AU 5) (.d 14),.v (.bool c.ca),.v (.int .i64 c.pa),.v (.int .i64 c.us)]) [14,4] rfl gg rfl rfl rfl sizeOf28 rfl (fun ρ S w' _ hR=>⟨CG _,by obtain⟨kv,e,h⟩:=Ca (id:=14) hR (by simp) rfl;exact(Ch e h).2⟩) rfl (by simp)) id):A:=c b
theorem Qz(b:B)(c:B→A:=by exact AP (by exact Ah (v:= .string (AI [110,98])) rfl gg rfl (eo func8) (fun w' hw'=>Uc w')) id):A:=c b
theorem pS(b:B)(c:B→A:=by exact AP (by exact XV (id:=900) (ys:=24) (n:=i) (k:=1) (k':=1) (size:=1) (LD (Bs.take i++[b])) [900,24,23] rfl rfl gg rfl rfl rfl rfl rfl (Nat.le_refl _) underlying32 oz (by decide) (by simp only[maxLen];omega) (by omega) (by simp) (by simp) (fun ρ S w' hR=>by have hd:=ES (id:=23) hR (by simp) rfl;show((SV.c ρ (.d 23)).oneCell' && true)=true;rw[(Jw hd).2];rfl) (fun ρ S w' xs hb' hR hxs=>by have hd:=ES (id:=23) hR (by simp) rfl;exact BZ.snoc (Fa (fun k hk=>⟨23,by simp,rfl,hk⟩) hd) (BZ.sub (fun k hk=>⟨900,by simp,rfl,hk⟩) hxs))) id):A:=c b
theorem X3(b:B)(c:B→A:=by exact AP (by exact AN (c:= .int .i64 0) rfl gg rfl rfl (fun w=>by kernel_rfl)) id):A:=c b
theorem pQ(b:B)(c:B→A:=by exact AP (by first|exact Ev.skip (fun _=>rfl)|exact CF (c:=i-1) rfl (fun _=>rfl) rfl rfl (by rw[Af (by omega) (by omega)])) id):A:=c b
theorem Qy(b:B)(c:B→A:=by exact AP (by exact A4 (p:=false) rfl gg rfl rfl (by decide)) id):A:=c b
theorem JL(b:B)(c:B→A:=by exact AP (by exact Ax (p:=true) rfl gg rfl rfl (by decide)) id):A:=c b
theorem pP(b:B)(c:B→A:=by exact AP (by exact A2 (c:=1) rfl gg rfl rfl (by decide)) id):A:=c b
theorem X0(b:B)(c:B→A:=by exact AP (by first|exact Az (vl:=[.v (.int .i64 tG.se),.v (.string (AI tG.is)),.v (.string (AI tG.su)),.v (.int .i64 tG.fr),.v (.int .i64 tG.to),.fn (AU 5) (.d 18),.v (.bool tG.ca),.v (.int .i64 tG.pa),.v (.int .i64 tG.us)]) [18,3] rfl gg rfl rfl rfl sizeOf28 rfl (fun ρ S w' _ hR=>by obtain⟨kv,e,h⟩:=Ca (id:=18) hR (by simp) rfl;exact Ch e h) rfl (by simp)|exact Be rfl gg rfl rfl rfl sizeOf28 rfl (by simp) rfl) id):A:=c b
theorem Qx(b:B)(c:B→A:=by exact AP (by exact BM rfl gg rfl underlying32 (AW hc)) id):A:=c b
theorem Xz(b:B)(c:B→A:=by exact AP (by exact Qo rfl gg rfl rfl rfl rfl rfl rfl rfl rfl (BI (id:=13) rfl)) id):A:=c b
theorem Xy(b:B)(c:B→A:=by exact AP (by first|exact Ev.skip (fun _=>rfl)|exact A0 (p:=false) rfl (fun _=>rfl) rfl rfl (by decide)) id):A:=c b
theorem Xx(b:B)(c:B→A:=by exact AP (by exact A4 (p:=true) rfl gg rfl rfl (by decide)) id):A:=c b
theorem pO(b:B)(c:B→A:=by exact AP (by exact Ah (v:= .string (AI [110,99])) rfl gg rfl (eo func8) (fun w' hw'=>Pg w')) id):A:=c b
theorem pN(b:B)(c:B→A:=by exact AP (by exact AN (c:= .int .u64 0) rfl gg rfl rfl (fun w=>by kernel_rfl)) id):A:=c b
theorem pM(b:B)(c:B→A:=by exact AP (by exact A5 (c:= .int .u64 0) rfl gg rfl (fun w=>by kernel_rfl)) id):A:=c b
theorem pL(b:B)(c:B→A:=by exact AP (by exact A5 (c:= .int .i64 0) rfl gg rfl (fun w=>by kernel_rfl)) id):A:=c b
theorem Xw(b:B)(c:B→A:=by exact AP (by first|exact Ev.skip (fun _=>rfl)|exact Bf (p:=false) rfl (fun _=>rfl) rfl rfl (by decide)) id):A:=c b
theorem Xv(b:B)(c:B→A:=by exact AP (by first|exact Ev.skip (fun _=>rfl)|exact A4 (p:=true) rfl (fun _=>rfl) rfl rfl (decide_eq_true (by omega))) id):A:=c b
theorem Ho(b:B)(c:B→A:=by exact AP (by exact AN (c:= .bool true) rfl gg rfl rfl (fun w=>ft _ w)) id):A:=c b
theorem Qw(b:B)(c:B→A:=by exact AP (by first|exact Ev.skip (fun _=>rfl)|exact Bf (p:=false) rfl (fun _=>rfl) rfl rfl ht2) id):A:=c b
theorem Xu(b:B)(c:B→A:=by exact AP (by exact Cg (D:=Bg c) (ys:=[.nilIface]) [] rfl rfl gg rfl (eo func13) (fun ρ S w' hb hR=>Lk (i:=0) w' (hL.bw hb) (Aa hc hb) (by decide) rfl (Aa hv hb) h8 hbl hrd)) id):A:=c b
theorem LF(b:B)(c:B→A:=by exact AP (by exact A4 (p:=false) rfl gg rfl rfl ht1) id):A:=c b
theorem pK(b:B)(c:B→A:=by exact AP (by exact Aj (v:= .nilIface) [17] rfl gg rfl (eo func14) (fun ρ S w' hb hR=>YZ 17 _ hR (by simp) rfl (fun kv ca hca=>by cases ca with|true=>exact XA w' hx1 hx2 hn1 hn2 ht1 ht2|false=>exact XB w' hx1 hx2 hn1 hn2 ht1 ht2))) id):A:=c b
theorem pJ(b:B)(c:B→A:=by exact AP (by exact Ax (p:=false) rfl gg rfl rfl (by simp;omega)) id):A:=c b
theorem Xt(b:B)(c:B→A:=by exact AP (by first|exact Ev.skip (fun _=>rfl)|exact Bf (p:=true) rfl (fun _=>rfl) rfl rfl ht2) id):A:=c b
theorem Xs(b:B)(c:B→A:=by exact AP (by exact BG (D:=EB 0 7) [] rfl rfl gg rfl (eo func23) (fun ρ S w' hb hR=>R2 _ _ w')) id):A:=c b
theorem Xr(b:B)(c:B→A:=by exact AP (by first|exact Ev.skip (fun _=>rfl)|exact A0 (p:=true) rfl (fun _=>rfl) rfl rfl (by decide)) id):A:=c b
theorem Ng(b:B)(c:B→A:=by exact AP (by first|exact Ev.skip (fun _=>rfl)|exact AN (c:= .int .i64 x2) rfl (fun _=>rfl) rfl rfl (fun w=>hx2 _ _ w)) id):A:=c b
theorem YF(b:B)(c:B→A:=by exact AP (by exact AN (c:= .int .i64 9) rfl gg rfl rfl (fun w=>by kernel_rfl)) id):A:=c b
theorem Hp(b:B)(c:B→A:=by exact AP (by exact AN (c:= .bool false) rfl gg rfl rfl (fun w=>fq _ w)) id):A:=c b
theorem pe(b:B)(c:B→A:=by exact AP (by exact BG (D:= .sl b.length 1 (b.map b8)) [] rfl rfl gg rfl (eo func6) (fun ρ S w' hb' hR=>((hB i b hb).2 w' hb').mono fun e w2 ⟨v,h1,h2,h3⟩=>⟨v,h1,O5 (by simp) h2,h3⟩)) id):A:=c b
theorem YE(b:B)(c:B→A:=by exact AP (by exact JC (a:=0) rfl gg rfl rfl) id):A:=c b
theorem Nf(b:B)(c:B→A:=by exact AP (by first|exact Ev.skip (fun _=>rfl)|exact Dh (p:=decide (pa≥ -1)) rfl (fun _=>rfl) rfl rfl rfl) id):A:=c b
theorem YD(b:B)(c:B→A:=by exact AP (by first|exact Ev.skip (fun _=>rfl)|exact BM rfl (fun _=>rfl) rfl underlying32 (AW hc')) id):A:=c b
theorem Nc(b:B)(c:B→A:=by exact AP (by first|exact Ev.skip (fun _=>rfl)|exact CF (c:= -1) rfl (fun _=>rfl) rfl rfl (by decide)) id):A:=c b
theorem pd(b:B)(c:B→A:=by exact AP (by exact JG (n:=1) (l:=[.d 23]) [23] rfl rfl gg rfl (fun ρ S w' hR=>by have hd:=ES (id:=23) hR (by simp) rfl;exact congrArg Array.toList (Jw hd).1) rfl rfl Nw) id):A:=c b
theorem YC(b:B)(c:B→A:=by exact AP (by exact JG (n:=1) (l:=[.d 12]) [12] rfl rfl gg rfl (fun ρ S w' hR=>by have hd:=ES (id:=12) hR (by simp) rfl;exact congrArg Array.toList (Jw hd).1) rfl rfl Nw) id):A:=c b
theorem YB(b:B)(c:B→A:=by exact AP (by exact JG (n:=1) (l:=[.d 10]) [10] rfl rfl gg rfl (fun ρ S w' hR=>by have hd:=ES (id:=10) hR (by simp) rfl;exact congrArg Array.toList (Jw hd).1) rfl rfl Nw) id):A:=c b
theorem Nb(b:B)(c:B→A:=by exact AP (by first|exact Ev.skip (fun _=>rfl)|exact A0 (p:=true) rfl (fun _=>rfl) rfl rfl hn2) id):A:=c b
theorem YA(b:B)(c:B→A:=by exact AP (by exact oH rfl gg rfl rfl) id):A:=c b
theorem X9(b:B)(c:B→A:=by exact AP (by exact BM rfl gg rfl underlying23 (AW hv)) id):A:=c b
theorem Q2(b:B)(c:B→A:=by exact AP (by exact A4 rfl gg rfl rfl h_q) id):A:=c b
theorem Q1(b:B)(c:B→A:=by exact AP (by exact A2 (c:=((k+1:Nat):Int)) rfl gg rfl rfl (by rw[Af (by omega) (by omega)];omega)) id):A:=c b
theorem pc(b:B)(c:B→A:=by exact AP (by exact BU (k:=i) rfl gg rfl rfl underlying23 sizeOf25 (AW hv) (hlt) (by decide)) id):A:=c b
theorem X8(b:B)(c:B→A:=by exact AP (by exact BU (k:=i) rfl gg rfl rfl underlying32 sizeOf26 (AW hc) (hi) (by decide)) id):A:=c b
theorem Na(b:B)(c:B→A:=by exact AP (by exact AN (c:= .int .i64 x1) rfl gg rfl rfl (fun w=>hx1 _ _ w)) id):A:=c b
theorem X7(b:B)(c:B→A:=by exact AP (by exact Ar rfl gg rfl (RF _ _ _ _ _ _ _ _)) id):A:=c b
theorem pb(b:B)(c:B→A:=by exact AP (by first|exact Ev.skip (fun _=>rfl)|exact Dh (p:=true) rfl (fun _=>rfl) rfl rfl hp) id):A:=c b
theorem X6(b:B)(c:B→A:=by exact AP (by exact JC (a:=9) rfl gg rfl rfl) id):A:=c b
theorem pZ(b:B)(c:B→A:=by exact AP (by exact BM rfl gg rfl underlying32 (AW hr1)) id):A:=c b
theorem X5(b:B)(c:B→A:=by exact AP (by exact BM rfl gg rfl underlying32 (AW hc')) id):A:=c b
theorem pY(b:B)(c:B→A:=by exact AP (by exact AN (c:= .int .u64 5) rfl gg rfl rfl (fun w=>by kernel_rfl)) id):A:=c b
theorem pX(b:B)(c:B→A:=by exact AP (by exact AN (c:= .int .i64 5) rfl gg rfl rfl (fun w=>by kernel_rfl)) id):A:=c b
theorem pW(b:B)(c:B→A:=by exact AP (by exact AN (c:= .int .i64 3) rfl gg rfl rfl (fun w=>by kernel_rfl)) id):A:=c b
theorem pV(b:B)(c:B→A:=by exact AP (by exact AN (c:= .int .u64 1) rfl gg rfl rfl (fun w=>by kernel_rfl)) id):A:=c b
theorem pU(b:B)(c:B→A:=by exact AP (by exact A0 (p:=true) rfl gg rfl rfl (by decide)) id):A:=c b
end Go.Proofs.YtefpajmkaaielaaGreatDoor
