import Derived.ProofKit
import Derived.OpenShut
import Derived.Lib.LaidTab
import Derived.Test.YtafbhakmkbehiaaGreatDoorRows
import Derived.LaidMore
import Derived.Lay
import Derived.Stop.Joined
import Derived.ChangeSlices
import Derived.Test.YtafbhakmkbehiaaGreatDoorW11
open Go.Proofs.Tryz
set_option maxHeartbeats 4000000
set_option maxRecDepth 100000
namespace Go.Proofs.YtafbhakmkbehiaaGreatDoor
open Go.RowKit Go.Vx Go.ChangeShapes Go.WideShapes Go.ChangeAt Go.Lib
variable(w:World){ops:Array Oper}{held:Bool}{p:List MemPlace}{rd:List Nat}{l0 xs:List Value}{a cap fuel g h i id k len n off r t x y:Nat}{sp:Nat->Bool}{S:Nat->Nat->Prop}{ρ:Nat->Nm}{o:Oper}{hi lo:Option Operand}{P:Program}{A B:Prop}{name:String}{H:Type}{d:TypeDesc}{bt e el ty:TypeId}{s:VS}{v:Value}{w0:World}
open TollMont
open TollEc (pp cb Pt Au add base nn)
open TollSha (CH)
def HY(n:Nat):Dat:=⟨λxs w S=> ∃g,xs=[ptr g]/\S g/\w.heap[g]? =some (.cells (Ck n).toArray 199 (0,0)),λ⟨g,h1,h2,h3⟩ hk=>⟨g,h1,h2,by rw[hk g h2];exact h3⟩⟩
theorem gS{w:World}{D:Dat}(q:Rel w0 ρ s w)(f:s.mem id=some (.dat D)):Ae w0 w (ρ id).val D:=by
 obtain⟨u,S,c⟩:=q;have l:=c.good id _ f;exact⟨S id,l,λk j=>⟨c.fr id k (by rw[f];rfl) j,c.lt id k (by rw[f];rfl) j⟩⟩
theorem av{w:World}(h:w.heap[g]? =some (.cells (Ck n).toArray 199 (0,0))):At w g n:=λj v c=>by
 rw[zW];exact Jl (l:=Ck n) (ty:=199) h c
theorem lN(h:Md n)(w:World):Calls prog 126 #[N n] w λe c=> ∃v,e=.returned (.tuple (v::[.int .i64 0]).toArray)/\Ae w c v (HY n)/\Bw w c:=
 (YW h w).mono λe c ⟨g,h1,h2,h3,h4⟩=>⟨ptr g,h2,⟨λk=>k=g,⟨g,rfl,rfl,h3⟩,λk f=>by subst f;exact⟨h1,(z8.1 h3).1⟩⟩,h4.b⟩
theorem kb(q:Laid w):Calls prog 80 #[] w λe c=> ∃v,e=.returned (.tuple (v::[N nn]).toArray)/\Ae w c v (HY nn)/\Bw w c:=by
 go_enter func80,ntmps80
 refine A4 ?_;iterate 4 refine AA ?_
 iterate 3 refine aT ?_
 refine AX (by exact AM rfl gg rfl (eo func125) (λc j=>kZ c (q.bw j))) ?_;refine AX (by exact AM rfl gg rfl (eo zZ) (λc j=>ofN nn (by decide) c)) ?_;iterate 2 refine AA ?_
 iterate 3 refine aT ?_
 refine AA ?_;refine AX (by exact DL (D:=HY nn) (ys:=[.int .i64 0]) [] rfl rfl gg rfl (eo func126) (λρ S c z u=>lN mdn c)) ?_;iterate 12 refine AA ?_
 refine aT ?_;refine AG ?_;refine AD (Av results80 (AF rfl) (Ac rfl rfl y8 rfl zD rfl rfl)) ?_;intro ρ c l;exact⟨_,rfl,gS l rfl,l.1⟩
theorem nu(j:a<R)(w:World)(hL:Laid w)(h:a=0):CBy 79 #[B32 a] w (.bool false):=by
 go_enter func79,ntmps79
 refine A4 ?_;iterate 7 refine AA ?_
 refine mb ?_;iterate 6 refine AA ?_
 iterate 3 refine aT ?_
 refine AA ?_;refine k_9 ?_;refine AX (by exact AK (c:=.bool false) rfl gg rfl rfl (λw=>YX j h _ _ w)) ?_;iterate 2 refine AA ?_
 refine FX ?_;refine AA ?_;refine Bz ?_;iterate 2 refine AA ?_
 exact AG (AD (AH results79 (AF rfl)) λ_ _ l=>⟨rfl,l.1⟩)
theorem nv(ha:a<R)(w:World)(hL:Laid w)(h:a≠0):CBy 79 #[B32 a] w (.bool (decide (a<nn))):=by
 go_enter func79,ntmps79
 refine A4 ?_;iterate 7 refine AA ?_
 refine mb ?_;iterate 6 refine AA ?_
 iterate 3 refine aT ?_
 refine AA ?_;refine k_9 ?_;refine AX (by exact AK (c:=.bool true) rfl gg rfl rfl (λw=>YY ha h _ _ w)) ?_;iterate 2 refine AA ?_
 refine AX (by first|exact Ev.skip (λ_=>rfl)|exact AM rfl (λ_=>rfl) rfl (eo zZ) (λq l=>ofN a ha q)) ?_;refine AA ?_;refine ZX ?_;refine k_9 ?_;iterate 2 refine AA ?_
 exact AG (AD (AH results79 (AF rfl)) λ_ _ j=>⟨rfl,j.1⟩)
theorem LC(j:a<R)(w:World)(f:Laid w):CBy 79 #[B32 a] w (.bool (sec a)):=by
 by_cases h:a=0
 .have e:sec a=false:=yB (λc=>c.1 h)
  rw[e];exact nu j w f h
 .have e:sec a=decide (a<nn):=by unfold sec;simp[h]
  rw[e];exact nv j w f h
theorem mnz(n:Nat)(q:n<=140737488355328)(w:World):∃c:Array Value,(callFunc 183 #[.int .i64 (n:Nat)]).run prog w=.ok (.value (.slice (some ⟨w.heap.size,0,none⟩) n c.size)) (w.drew.drew.alloc (.cells c 5))/\n<=c.size/\c.size<=maxLen:=by
 obtain⟨c,f,j,l⟩:=Go.Lib.run_makeNoZero (P:=prog) w f183.params 23 5 x7 n (by omega);refine⟨c,?_,j,l (by simp only[maxLen];omega)⟩;rw[run_callFunc_extern (fn:=f183) (e:=Extern.BytealgMakeNoZero.makeNoZero f183.params #[23]) func183 (by kernel_rfl) (by kernel_rfl) (by kernel_rfl) (by kernel_rfl),f];rfl
theorem Er:(prog.info? 5).map (·.size)=some 1:=by kernel_rfl
theorem lb:CBy 182 #[.int .u64 1,.int .u64 32] w (.tuple #[.int .u64 0,.int .u64 32]):=by
 go_enter func182,ntmps182
 refine A4 ?_;iterate 12 refine AA ?_
 refine AX (by exact AM (v:=.tuple #[.int .u64 0,.int .u64 32]) rfl gg rfl (eo func172) (λl j=>Yg 1 32 (by decide) (by decide) l)) ?_;iterate 13 refine AA ?_
 exact AG (AD (Av results182 (AF rfl) (AF rfl)) λ_ _ c=>⟨rfl,c.1⟩)
theorem NQ(_c:2*k<=xs.length)(h:xs.take k=List.replicate k v):(xs.take k++List.replicate k v++xs.drop (k+k)).take (2*k)=List.replicate (2*k) v:=by
 rw[h,uE7 (by simp;omega),zT (by simp;omega),show 2*k=k+k by omega,List.replicate_append_replicate]
theorem gV{S:Nat->Prop}(hv:AO w v 1 1 [.int .u8 1] S):CRy 157 #[v,.int .i64 32] w (32) (List.replicate 32 (.int .u8 1)):=by
 go_enter func157,ntmps157
 refine A4 ?_;iterate 8 refine AA ?_
 refine AX (by exact Ag (p:=false) rfl gg rfl rfl (by decide)) ?_;iterate 7 refine AA ?_
 refine AX (by exact BM (p:=false) rfl gg rfl rfl (by decide)) ?_;iterate 6 refine AA ?_
 refine K4 ?_;refine k_9 ?_;refine AA ?_;refine k_9 ?_;refine AX (by exact Ad (v:=.tuple #[.int .u64 0,.int .u64 32]) rfl gg rfl (eo func182) (λu z=>lb u)) ?_;iterate 10 refine AA ?_
 refine AX (by exact BV (p:=false) rfl gg rfl rfl (by decide)) ?_;iterate 2 refine AA ?_
 refine AX (by first|exact Ev.skip (λ_=>rfl)|exact BV (p:=false) rfl (λ_=>rfl) rfl rfl (by decide)) ?_;refine k_9 ?_;iterate 6 refine AA ?_
 refine k_9 ?_;iterate 6 refine AA ?_
 refine K4 ?_;refine AX (by exact Ag (p:=false) rfl gg rfl rfl (by decide)) ?_;iterate 12 refine AA ?_
 refine AX (by exact BV (p:=false) rfl gg rfl rfl (by decide)) ?_;iterate 6 refine AA ?_
 refine AX (by exact oG rfl rfl gg rfl (by decide) (λw=>mnz 32 (by decide) w)) ?_;iterate 2 refine AA ?_
 refine AX (by exact oT rfl rfl gg rfl rfl x7 yG rfl rfl (by decide)) ?_;iterate 6 refine AA ?_
 refine AX (by exact LI (a:=0) (k:=1) (p:=λ_=>True) (q:=λxs=>xs.take 1=List.replicate 1 (Value.int .u8 1)) rfl gg rfl (.inl ⟨rfl,rfl⟩) rfl rfl (AW hv) x7 Er (by decide) (by decide) rfl (λxs _ C=>by rw[List.take_zero,List.nil_append,uE7 (by simp)];rfl)) ?_;iterate 4 refine AA ?_
 refine Br 6 ?_;change VOk _ _ _ _ _;iterate 5 refine AA ?_
 refine M2 ?_;iterate 8 refine AA ?_
 refine mf ?_;iterate 6 refine AA ?_
 refine mq ?_;iterate 2 refine AA ?_
 refine NE ?_;refine k_1 ?_;refine mg ?_;iterate 7 refine AA ?_
 refine M2 ?_;iterate 8 refine AA ?_
 refine mf ?_;iterate 6 refine AA ?_
 refine mq ?_;iterate 2 refine AA ?_
 refine NE ?_;refine k_1 ?_;refine mg ?_;iterate 7 refine AA ?_
 refine M2 ?_;iterate 8 refine AA ?_
 refine mf ?_;iterate 6 refine AA ?_
 refine mq ?_;iterate 2 refine AA ?_
 refine NE ?_;refine k_1 ?_;refine mg ?_;iterate 7 refine AA ?_
 refine M2 ?_;iterate 8 refine AA ?_
 refine mf ?_;iterate 6 refine AA ?_
 refine mq ?_;iterate 2 refine AA ?_
 refine NE ?_;refine k_1 ?_;refine mg ?_;iterate 7 refine AA ?_
 refine M2 ?_;iterate 8 refine AA ?_
 refine mf ?_;iterate 6 refine AA ?_
 refine mq ?_;iterate 2 refine AA ?_
 refine NE ?_;refine k_1 ?_;refine mg ?_;iterate 7 refine AA ?_
 refine M2 ?_;iterate 2 refine aT ?_
 refine As ?_;change VOk _ _ _ _ _;iterate 5 refine AA ?_
 refine AG ?_;refine AD (AH results157 (AF rfl)) ?_;intro ρ u l;exact⟨_,rfl,gQ l rfl (λxs h C=>by have j:xs.take 32=_:=h;rw[zT (by omega)]at j;exact j),l.1⟩
def bl(n:Nat):List Nat:=[byt n 0,byt n 1,byt n 2,byt n 3,byt n 4,byt n 5,byt n 6,byt n 7,byt n 8,byt n 9,byt n 10,byt n 11,byt n 12,byt n 13,byt n 14,byt n 15,byt n 16,byt n 17,byt n 18,byt n 19,byt n 20,byt n 21,byt n 22,byt n 23,byt n 24,byt n 25,byt n 26,byt n 27,byt n 28,byt n 29,byt n 30,byt n 31]
theorem Qq(n:Nat):B32 n=.agg ((bl n).map b8).toArray:=rfl
theorem EB(n:Nat):(bl n).length=32:=rfl
theorem EZ(n:Nat):∀x∈bl n,x<256:=λx c=>by
 simp only[bl,List.mem_cons,List.not_mem_nil,or_false]at c;rcases c with rfl|rfl|rfl|rfl|rfl|rfl|rfl|rfl|rfl|rfl|rfl|rfl|rfl|rfl|rfl|rfl|rfl|rfl|rfl|rfl|rfl|rfl|rfl|rfl|rfl|rfl|rfl|rfl|rfl|rfl|rfl|rfl<;>exact yJ _ (by decide)
theorem qO(hi:i<32):byt n i=n/256^(31-i) %256:=by
 unfold byt lim;obtain⟨q,r,l,rfl⟩:∃q r,r<8/\i=8*q+r:=⟨i/8,i %8,yJ _ (by decide),by omega⟩
 have j:q<4:=by omega
 rw[show(8*q+r)/8=q by omega,show(8*q+r) %8=r by omega];have c:(W:Nat)=256^8:=by decide
 rw[c,<-Nat.pow_mul,show(2:Nat)^(56-8*r)=256^(7-r) by rw[show(256:Nat)=2^8 by decide,<-Nat.pow_mul];congr 1;omega];have f:(256:Nat)^8=256^(7-r)*(256*256^r):=by rw[<-Nat.pow_succ',<-Nat.pow_add];congr 1;omega
 rw[f,Nat.mod_mul_right_div_self,Nat.mod_mul_right_mod,WD,<-Nat.pow_add,show 8*(3-q)+(7-r)=31-(8*q+r) by omega]
theorem G6{l:List Nat}(u:l.length=32)(q:∀x∈l,x<256):bl (TollBy.beV l 0)=l:=by
 apply uB1;intro i;by_cases hi:i<32
 .have c:=TollBy.beV_get l q i (by omega)
  rw[u]at c
  have f:(bl (TollBy.beV l 0))[i]? =some (byt (TollBy.beV l 0) i):=by
   have j:bl (TollBy.beV l 0)=(List.range 32).map (byt (TollBy.beV l 0)):=rfl;rw[j,zC,List.getElem?_range hi];rfl
  rw[f,qO hi,c,uE4,zK (by omega)];rfl
 .rw[D0 (by rw[EB];omega),D0 (by omega)]
theorem IX{l:List Nat}(f:l.length=32)(c:∀x∈l,x<256):TollBy.beV l 0<R:=by
 have:=TollBy.beV_lt l c;rw[f]at this;exact yK this (by decide)
theorem oc{x:Operand}{l:List Nat}(f:o.dst=some id)(j:o.op=.box ty x)(c:AQ ops o s)(u:AE s x=.v v)(q:v=.agg (l.map b8).toArray):Ev P ops w0 o s ⟨.p id 0,[(id,.arr (l.map b8) ty)],[],[id],[]⟩:=
 ae f j c u (by rw[q];rfl)
theorem HV{x y:Operand}{l:List Nat}(q:o.op=.store ty x y)(c:AQ ops o s)(z:AE s x=.p id 0)(j:s.mem id=some (.arr l0 bt))(C:AE s y=.v (.agg (l.map b8).toArray))
 (u:∀w,(Go.sizeOf ty).run P w=.ok n w)(D:l0.length=n)(f:l.length=n):Ev P ops w0 o s ⟨.v undef,[(id,.arr (l.map b8) bt)],[id],[],[id]⟩:=
 Et q c z j C u (by simp[Value.cells,f]) (by omega) (by show(l.map b8).all _=true;exact DR _) (by rw[List.take_zero,List.nil_append,DB (by omega),List.append_nil];simp[Value.cells])
theorem aU{x:Operand}{l:List Nat}(u:o.op=.load ty x)(c:AQ ops o s)(D:AE s x=.p id 0)(q:s.mem id=some (.arr (l.map b8) bt))
 (C:P.underlying ty=some d)(j:Ba d=true)(z:∀w,(Go.sizeOf ty).run P w=.ok n w)(f:l.length=n):Ev P ops w0 o s ⟨.v (.agg (l.map b8).toArray),[],[],[],[id]⟩:=
 aR u c D q C j z (zT (by simp[f])) (by simp[f])
theorem ny{l:List Nat}(f:o.op=.build ty #[])(c:AQ ops o s)(h:P.built ty []=some (l.map b8).toArray):Ev P ops w0 o s ⟨.v (.agg (l.map b8).toArray),[],[],[],[]⟩:=
 A6 f c rfl h
theorem EH{base:Nat}{w:World}{m:Mem}{f:Nat}{l:List Value}(u:RelOn base ρ S w (restr rd m))(j:id∈rd)(z:m id=some (.row n f ty (.exact l))):AO w (SV.c ρ (.d id)) n f l (λk=>k=(ρ id).g):=by
 obtain⟨xs,C,D,E⟩:=w4 u z j;have q:xs=l:=D;subst q;exact DX E C
theorem WT{m:Mem}{l:List Nat}(c:id∈rd)(f:m id=some (.row n 1 e (.exact (l.map b8))))(j:l.length=n):LV w0 m rd (.d id) l.length (l.map b8):=by rw[j];exact Ol c f
theorem EI{m:Mem}{l:List Nat}(c:id∈rd)(q:m id=some (.arr (l.map b8) ty))(f:l.length=len)(j:len<=cap):LV w0 m rd (.s id 0 len cap) l.length (l.map b8):=by
 rw[f];exact WU c q (by rw[DE];exact f) j
theorem X5:(SV.c ρ (.s id off len cap)).cells.toList=SV.cs ρ [.s id off len cap]:=rfl
theorem ay:(convert 3 5 (.int .i64 0)).run prog w=.ok (.int .u8 0) w:=by go_simp;rfl
theorem aw:(convert 3 5 (.int .i64 1)).run prog w=.ok (.int .u8 1) w:=by go_simp;rfl
theorem dG:prog.built 64 []=some #[.int .u8 0,.int .u8 0,.int .u8 0,.int .u8 0,.int .u8 0,.int .u8 0,.int .u8 0,.int .u8 0,.int .u8 0,.int .u8 0,.int .u8 0,.int .u8 0,.int .u8 0,.int .u8 0,.int .u8 0,.int .u8 0,.int .u8 0,.int .u8 0,.int .u8 0,.int .u8 0,.int .u8 0,.int .u8 0,.int .u8 0,.int .u8 0,.int .u8 0,.int .u8 0,.int .u8 0,.int .u8 0,.int .u8 0,.int .u8 0,.int .u8 0,.int .u8 0]:=by kernel_rfl
def nK1(d h:Nat):List Nat:=CH (List.replicate 32 0) [List.replicate 32 1,[0],bl d,bl h].flatten
def nV1(d h:Nat):List Nat:=CH (nK1 d h) [List.replicate 32 1].flatten
def nK2(d h:Nat):List Nat:=CH (nK1 d h) [nV1 d h,[1],bl d,bl h].flatten
def nV2(d h:Nat):List Nat:=CH (nK2 d h) [nV1 d h].flatten
def nV3(d h:Nat):List Nat:=CH (nK2 d h) [nV2 d h].flatten
theorem sQ{d:Nat}(_hd:d<R)(hh:h<R)(hk:k<R)(w:World)(hL:Laid w)(hK:B6 w)(hH:CQ w)(Q:7<w.heap.size)(hn:nV3 d (h %nn)=bl k)(hs:sec k=true):CBy 105 #[B32 d,B32 h] w (B32 k):=by
 obtain⟨D,hD⟩:∃x,bl d=x:=⟨_,rfl⟩
 have U:D.length=32:=by rw[<-hD];rfl
 have a4:∀x∈D,x<256:=by rw[<-hD];exact EZ d
 obtain⟨M,hM⟩:∃x,bl (h %nn)=x:=⟨_,rfl⟩
 have L:M.length=32:=by rw[<-hM];rfl
 have a5:∀x∈M,x<256:=by rw[<-hM];exact EZ _
 obtain⟨Z,hZ⟩:∃x,(List.replicate 32 0:List Nat)=x:=⟨_,rfl⟩
 have I:Z.length=32:=by rw[<-hZ];simp
 have b1:∀x∈Z,x<256:=by rw[<-hZ];decide
 obtain⟨O,hO⟩:∃x,(List.replicate 32 1:List Nat)=x:=⟨_,rfl⟩
 have F:O.length=32:=by rw[<-hO];simp
 have a6:∀x∈O,x<256:=by rw[<-hO];decide
 obtain⟨K1,V⟩:∃x,CH Z [O,[0],D,M].flatten=x:=⟨_,rfl⟩
 have j:K1.length=32:=by rw[<-V];exact NJ _ _
 have a1:∀x∈K1,x<256:=by rw[<-V];exact NI _ _
 obtain⟨V1,X⟩:∃x,CH K1 [O].flatten=x:=⟨_,rfl⟩
 have z:V1.length=32:=by rw[<-X];exact NJ _ _
 have a3:∀x∈V1,x<256:=by rw[<-X];exact NI _ _
 obtain⟨K2,W⟩:∃x,CH K1 [V1,[1],D,M].flatten=x:=⟨_,rfl⟩
 have u:K2.length=32:=by rw[<-W];exact NJ _ _
 have a2:∀x∈K2,x<256:=by rw[<-W];exact NI _ _
 obtain⟨V2,Y⟩:∃x,CH K2 [V1].flatten=x:=⟨_,rfl⟩
 have C:V2.length=32:=by rw[<-Y];exact NJ _ _
 have a7:∀x∈V2,x<256:=by rw[<-Y];exact NI _ _
 obtain⟨T,a0⟩:∃x,CH K2 [V2].flatten=x:=⟨_,rfl⟩
 have K:T.length=32:=by rw[<-a0];exact NJ _ _
 have b2:∀x∈T,x<256:=by rw[<-a0];exact NI _ _
 have a8:T=bl k:=by rw[<-hn,<-a0,<-Y,<-W,<-X,<-V,<-hZ,<-hO,<-hD,<-hM];rfl
 go_enter func105,ntmps105
 refine A4 ?_;iterate 2 refine aT ?_
 refine AX (by exact oc (l:=D) rfl rfl gg rfl (by rw[<-hD];rfl)) ?_;refine AA ?_;refine TI ?_;iterate 3 refine aT ?_
 refine mb ?_;iterate 11 refine AA ?_
 refine NB ?_;refine AX (by exact Aj (v:=N (h %nn)) [12] rfl gg rfl (eo func88) (λρ S G E J=>by obtain⟨g,e1,_,e3⟩:=Gc (id:=12) J (by simp) rfl;have b0:(ρ 12).val=ptr g:=(by simpa using e1);have a:=Hu mdn hh G (av e3);show Calls prog 88 #[(ρ 12).val,N h] G _;rw[b0];exact a.mono λ_ _ q=>⟨q.1,q.2.b⟩)) ?_;refine AX (by exact AM (v:=.agg (M.map b8).toArray) rfl gg rfl (eo func86) (λG a9=>by have a:=LO (h %nn) G;rw[Qq,hM]at a;exact a)) ?_;refine TI ?_;refine AX (by exact HV (l:=M) rfl gg rfl rfl rfl yR (by simp) L) ?_;iterate 3 refine aT ?_
 refine AX (by exact ny (l:=Z) rfl gg (by rw[<-hZ];exact dG)) ?_;refine AX (by exact BL rfl rfl gg rfl (e:=5) (l:=[.int .u8 1]) rfl (by decide) (λ_=>by kernel_rfl)) ?_;refine AX (by exact Cs [21] rfl rfl gg rfl (eo func157) (n:=32) (size:=1) (l:=List.replicate 32 (.int .u8 1)) (by simp) (λρ S G E J=>gV G (EH (id:=21) J (by simp) rfl))) ?_;refine AX (by exact LJ rfl gg rfl yY (BI rfl) (by decide)) ?_;refine AX (by exact P8 (vs:=O.map b8) rfl gg rfl yY rfl yR (BI rfl) (by rw[<-hO];rfl) (by simp[F]) (by decide)) ?_;iterate 2 refine TI ?_
 refine AX (by exact HV (l:=Z) rfl gg rfl rfl rfl yR (by simp) I) ?_;refine AX (by exact HV (l:=O) rfl gg rfl rfl rfl yR (by simp) F) ?_;iterate 7 refine AA ?_
 refine Br 3 ?_;change VOk _ _ _ _ _;iterate 2 refine aT ?_
 refine M2 ?_;iterate 13 refine AA ?_
 iterate 2 refine F9 ?_
 refine AA ?_;refine AX (by first|exact B1 rfl gg rfl ay|exact B1 rfl gg rfl aw) ?_;refine AX (by exact BL rfl rfl gg rfl (e:=5) (l:=[0].map b8) rfl (by decide) (λ_=>by kernel_rfl)) ?_;iterate 2 refine F9 ?_
 refine ZN ?_;refine AX (by exact Aj (v:=.agg (K1.map b8).toArray) [8,9,32,2,7,35] rfl gg rfl (eo func158) (λρ S G E J=>by have a:=Me (key:=Z) (ls:=[O,[0],D,M]) G (hK.bw E) (hH.bw E) (yK Q E.size) (EI (rd:=[8,9,32,2,7,35]) (id:=8) (len:=32) (cap:=32) (by simp) rfl I (by decide) ρ S G E J) (by rw[I];decide) b1 (H4 (id:=35) (n:=4) (by simp) (by rfl) rfl (by exact⟨⟨EI (id:=9) (len:=32) (cap:=32) (by simp) rfl F (by decide),a6⟩,⟨WT (id:=32) (by simp) rfl rfl,(by decide)⟩,⟨EI (id:=2) (len:=32) (cap:=32) (by simp) rfl U (by decide),a4⟩,⟨EI (id:=7) (len:=32) (cap:=32) (by simp) rfl L (by decide),a5⟩,trivial⟩) ρ S G E J) (Ja E J) (by simp[F,U,L]) (by simp);rw[V]at a;exact a)) ?_;refine AX (by exact HV (l:=K1) rfl gg rfl rfl rfl yR (by simp[I]) j) ?_;iterate 2 refine aT ?_
 iterate 2 refine F9 ?_
 refine TG ?_;refine AX (by exact Aj (v:=.agg (V1.map b8).toArray) [8,9,39] rfl gg rfl (eo func158) (λρ S G E J=>by have a:=Me (key:=K1) (ls:=[O]) G (hK.bw E) (hH.bw E) (yK Q E.size) (EI (rd:=[8,9,39]) (id:=8) (len:=32) (cap:=32) (by simp) rfl j (by decide) ρ S G E J) (by rw[j];decide) a1 (H4 (id:=39) (n:=1) (by simp) (by rfl) rfl (by exact⟨⟨EI (id:=9) (len:=32) (cap:=32) (by simp) rfl F (by decide),a6⟩,trivial⟩) ρ S G E J) (Ja E J) (by simp[F]) (by simp);rw[X]at a;exact a)) ?_;refine AX (by exact HV (l:=V1) rfl gg rfl rfl rfl yR (by simp[F]) z) ?_;iterate 2 refine aT ?_
 refine ZS ?_;iterate 2 refine AA ?_
 refine Ea (λi=>decide (i<12)||i==25) [32,35,39] (λf=>by simp[B0];exact rfl) (by simp[BQ];exact rfl) λf=> ?_
 iterate 2 refine aT ?_
 refine M2 ?_;iterate 13 refine AA ?_
 iterate 2 refine F9 ?_
 refine AA ?_;refine AX (by first|exact B1 rfl gg rfl ay|exact B1 rfl gg rfl aw) ?_;refine AX (by exact BL rfl rfl gg rfl (e:=5) (l:=[1].map b8) rfl (by decide) (λ_=>by kernel_rfl)) ?_;iterate 2 refine F9 ?_
 refine ZN ?_;refine AX (by exact Aj (v:=.agg (K2.map b8).toArray) [8,9,32,2,7,35] rfl gg rfl (eo func158) (λρ S G E J=>by have a:=Me (key:=K1) (ls:=[V1,[1],D,M]) G (hK.bw E) (hH.bw E) (yK Q E.size) (EI (rd:=[8,9,32,2,7,35]) (id:=8) (len:=32) (cap:=32) (by simp) rfl j (by decide) ρ S G E J) (by rw[j];decide) a1 (H4 (id:=35) (n:=4) (by simp) (by rfl) rfl (by exact⟨⟨EI (id:=9) (len:=32) (cap:=32) (by simp) rfl z (by decide),a3⟩,⟨WT (id:=32) (by simp) rfl rfl,(by decide)⟩,⟨EI (id:=2) (len:=32) (cap:=32) (by simp) rfl U (by decide),a4⟩,⟨EI (id:=7) (len:=32) (cap:=32) (by simp) rfl L (by decide),a5⟩,trivial⟩) ρ S G E J) (Ja E J) (by simp[z,U,L]) (by simp);rw[W]at a;exact a)) ?_;refine AX (by exact HV (l:=K2) rfl gg rfl rfl rfl yR (by simp[j]) u) ?_;iterate 2 refine aT ?_
 iterate 2 refine F9 ?_
 refine TG ?_;refine AX (by exact Aj (v:=.agg (V2.map b8).toArray) [8,9,39] rfl gg rfl (eo func158) (λρ S G E J=>by have a:=Me (key:=K2) (ls:=[V1]) G (hK.bw E) (hH.bw E) (yK Q E.size) (EI (rd:=[8,9,39]) (id:=8) (len:=32) (cap:=32) (by simp) rfl u (by decide) ρ S G E J) (by rw[u];decide) a2 (H4 (id:=39) (n:=1) (by simp) (by rfl) rfl (by exact⟨⟨EI (id:=9) (len:=32) (cap:=32) (by simp) rfl z (by decide),a3⟩,trivial⟩) ρ S G E J) (Ja E J) (by simp[z]) (by simp);rw[Y]at a;exact a)) ?_;refine AX (by exact HV (l:=V2) rfl gg rfl rfl rfl yR (by simp[z]) C) ?_;iterate 2 refine aT ?_
 refine ZS ?_;iterate 2 refine AA ?_
 refine Ea (λi=>decide (i<12)||i==25) [32,35,39] (λf=>by simp[B0];exact rfl) (by simp[BQ];exact rfl) λf=> ?_
 iterate 2 refine aT ?_
 refine M2 ?_;iterate 3 refine aT ?_
 refine As ?_;change VOk _ _ _ _ _;refine aT ?_;refine Br 1 ?_;change VOk _ _ _ _ _;iterate 3 refine aT ?_
 iterate 2 refine F9 ?_
 refine TG ?_;refine AX (by exact Aj (v:=.agg (T.map b8).toArray) [8,9,44] rfl gg rfl (eo func158) (λρ S G E J=>by have a:=Me (key:=K2) (ls:=[V2]) G (hK.bw E) (hH.bw E) (yK Q E.size) (EI (rd:=[8,9,44]) (id:=8) (len:=32) (cap:=32) (by simp) rfl u (by decide) ρ S G E J) (by rw[u];decide) a2 (H4 (id:=44) (n:=1) (by simp) (by rfl) rfl (by exact⟨⟨EI (id:=9) (len:=32) (cap:=32) (by simp) rfl C (by decide),a7⟩,trivial⟩) ρ S G E J) (Ja E J) (by simp[C]) (by simp);rw[a0]at a;exact a)) ?_;refine AX (by exact HV (l:=T) rfl gg rfl rfl rfl yR (by simp[C]) K) ?_;iterate 4 refine aT ?_
 refine AX (by exact aU (l:=T) rfl gg rfl rfl yY rfl yR K) ?_;refine AX (by exact Ad (v:=.bool true) rfl gg rfl (eo func79) (λG a9=>by have a:=LC hk G (hL.bw a9);rw[hs,Qq,<-a8]at a;exact a)) ?_;iterate 4 refine aT ?_
 refine AX (by exact aU (l:=T) rfl gg rfl rfl yY rfl yR K) ?_;refine AX (by exact HV (l:=T) rfl gg rfl rfl rfl yR (by simp) K) ?_;refine aT ?_;refine AG ?_;refine AD (AH results105 (KC (vs:=T.map b8) rfl rfl yY rfl yR (zT (by simp[K])) (by simp[K]))) ?_;intro ρ G hr;exact⟨by rw[a8];rfl,hr.1⟩
theorem o3{p:Pt}(_hp:p.on)(h:p=.inf):BOy .eql 141 (PV p) (.agg #[.int .u8 0,.int .u8 0,.int .u8 0,.int .u8 0,.int .u8 0,.int .u8 0,.int .u8 0,.int .u8 0,.int .u8 0,.int .u8 0,.int .u8 0,.int .u8 0,.int .u8 0,.int .u8 0,.int .u8 0,.int .u8 0,.int .u8 0,.int .u8 0,.int .u8 0,.int .u8 0,.int .u8 0,.int .u8 0,.int .u8 0,.int .u8 0,.int .u8 0,.int .u8 0,.int .u8 0,.int .u8 0,.int .u8 0,.int .u8 0,.int .u8 0,.int .u8 0,.int .u8 0,.int .u8 0,.int .u8 0,.int .u8 0,.int .u8 0,.int .u8 0,.int .u8 0,.int .u8 0,.int .u8 0,.int .u8 0,.int .u8 0,.int .u8 0,.int .u8 0,.int .u8 0,.int .u8 0,.int .u8 0,.int .u8 0,.int .u8 0,.int .u8 0,.int .u8 0,.int .u8 0,.int .u8 0,.int .u8 0,.int .u8 0,.int .u8 0,.int .u8 0,.int .u8 0,.int .u8 0,.int .u8 0,.int .u8 0,.int .u8 0,.int .u8 0]) (.bool true):=by
 intro a b w
 subst h;exact o4 a b w
theorem LD{x:Operand}{b:Nat}(K:o.op=.slice ty x lo hi none)(u:AQ ops o s)(N:AE s x=.p id off)
 (M:P.underlying ty=some (.array n el))(L:∀w,(Go.sizeOf el).run P w=.ok 1 w)(j:(match lo with|none=>SV.v (.int .i64 (0:Nat))|some z=>AE s z)=.v (.int .i64 (a:Nat)))(f:(match hi with|none=>SV.v (.int .i64 (n:Nat))|some z=>AE s z)=.v (.int .i64 (b:Nat)))(I:a<=b)(O:b<=n)(Q:a<n):
 Ev P ops w0 o s ⟨.s id (off+a) (b-a) (n-a),[],[],[],[]⟩:=
 Ev.run _ _ u λρ S w T R=>by
  have D:=AI s ρ x;rw[N]at D
  have l:∀(k m:Nat) (c:BoundsCode),k<=m->(Instr.sliceBound (.int .i64 (k:Nat)) m c).run P w=.ok k w:=by
   intro k m c U;unfold Instr.sliceBound;rw[Sem.run_bind];simp only[asIntOf,Sem.run_pure,Result.andThen_ok];rw[x9 ⟨by omega,by omega⟩];rfl
  have E:∀z,lo=some z->(s.act ρ).eval z=.int .i64 (a:Nat):=λz q=>by rw[AI];rw[q]at j;simp only at j;rw[j];simp[SV.c]
  have F:∀z,hi=some z->(s.act ρ).eval z=.int .i64 (b:Nat):=λz q=>by rw[AI];rw[q]at f;simp only at f;rw[f];simp[SV.c]
  have G:lo=none->a=0:=λq=>by
   rw[q]at j;simp only[SV.v.injEq,uE1,true_and]at j;omega
  have J:hi=none->b=n:=λq=>by
   rw[q]at f;simp only[SV.v.injEq,uE1,true_and]at f;omega
  have C:∀t:Bool,(Instr.sliceBounds t n n (lo.map (s.act ρ).eval) (hi.map (s.act ρ).eval) none).run P w=.ok (a,b,n) w:=by
   intro t;unfold Instr.sliceBounds;cases hi with
   |none=>
    have:=J rfl;subst this;cases lo with
    |none=>have:=G rfl;subst this;simp
    |some z=>simp[E z rfl,l a b _ I]
   |some y'=>
    cases lo with
    |none=>have:=G rfl;subst this;simp[F y' rfl,l b n _ (by omega)]
    |some z=>simp[E z rfl,F y' rfl,l a b _ I,l b n _ (by omega)]
  simp[execOp,K,D,SV.c,Instr.sliceAt,yU M,Instr.sureAddr,C,L,Bd];omega
theorem PD{w:World}{base:Nat}{m:Mem}(l:RelOn base ρ S w (restr rd m))(c:id∈rd)(q:m id=some (.dat (HY n))):∃g,(ρ id).val=ptr g/\At w g n:=by
 obtain⟨g,f,_,j⟩:=Gc l c q;exact⟨g,by simpa using f,av j⟩
section
variable{ρ:Nat->Nm}{S:Nat->Nat->Prop}{w:World}{base:Nat}{m:Mem}{rd:List Nat}{id:Nat}{x y:Nat}
theorem QP(f:RelOn base ρ S w (restr rd m))(c:id∈rd)(j:m id=some (.dat (HY nn)))(l:x<R)(u:y<R):CBy 83 #[(ρ id).val,N x,N y] w (N (x*y %nn)):=by
 obtain⟨g,e,h⟩:=PD f c j;rw[e];exact(Yd mdn l u w h).mono λ_ _ q=>⟨q.1,q.2.b⟩
theorem qD(f:RelOn base ρ S w (restr rd m))(c:id∈rd)(j:m id=some (.dat (HY nn)))(l:x<R)(u:y<R):CBy 106 #[(ρ id).val,N x,N y] w (N ((x+y) %nn)):=by
 obtain⟨g,e,h⟩:=PD f c j;rw[e];exact(Yn mdn l u w h).mono λ_ _ q=>⟨q.1,q.2.b⟩
theorem bI(f:RelOn base ρ S w (restr rd m))(c:id∈rd)(j:m id=some (.dat (HY nn)))(l:x<R):CBy 88 #[(ρ id).val,N x] w (N (x %nn)):=by
 obtain⟨g,e,h⟩:=PD f c j;rw[e];exact(Hu mdn l w h).mono λ_ _ q=>⟨q.1,q.2.b⟩
theorem bM(l:RelOn base ρ S w (restr rd m))(c:id∈rd)(u:m id=some (.dat (HY nn)))(z:x<R)(hi:i<nn)(j:i*x %nn=1):CBy 81 #[(ρ id).val,N x] w (.tuple #[N i,.int .i64 0]):=by
 obtain⟨g,e,h⟩:=PD l c u;have a:=Tj mdn z w h
 rw[x9 (by
  have f:Nat.gcd x nn∣i*x %nn:=(Nat.dvd_mod_iff (Nat.gcd_dvd_right _ _)).2 (uD2 (Nat.gcd_dvd_left _ _) ⟨i,zE _ _⟩);rw[j]at f;exact Nat.dvd_one.1 f),Sv hi j]at a
 rw[e];exact a.mono λ_ _ q=>⟨q.1,q.2.b⟩
end
theorem PR(h:x<nn):x<R:=Nat.lt_trans h (by decide)
theorem IB(x:Nat):x %nn<R:=PR (yJ _ (by decide))
theorem eqN(f:x<R)(j:y<R):BOy .eql 147 (N x) (N y) (.bool (decide (x=y))):=by
 intro p q w
 have:=NX 147 (.inl rfl) (lim x 0) (lim x 1) (lim x 2) (lim x 3) (lim y 0) (lim y 1) (lim y 2) (lim y 3) p q w;have e:decide (lim x 0=lim y 0/\lim x 1=lim y 1/\lim x 2=lim y 2/\lim x 3=lim y 3)=decide (x=y):=zM.2 ⟨λ⟨a,b,c,d⟩=>JI f j a b c d,λh=>by rw[h];exact⟨rfl,rfl,rfl,rfl⟩⟩;rw[e]at this;exact this
theorem neN(f:x<R)(j:y<R):BOy .neq 147 (N x) (N y) (.bool (!decide (x=y))):=by
 intro p q w
 have:=Sl (lim x 0) (lim x 1) (lim x 2) (lim x 3) (lim y 0) (lim y 1) (lim y 2) (lim y 3) p q w;have e:decide (lim x 0=lim y 0/\lim x 1=lim y 1/\lim x 2=lim y 2/\lim x 3=lim y 3)=decide (x=y):=zM.2 ⟨λ⟨a,b,c,d⟩=>JI f j a b c d,λh=>by rw[h];exact⟨rfl,rfl,rfl,rfl⟩⟩;rw[e]at this;exact this
theorem Ya{b:Bool}(c:x<R)(f:y<R)(h:decide (x=y)= !b):BOy .neq 147 (N x) (N y) (.bool b):=by
 intro p q w
 rw[neN c f,h,Bool.not_not]
theorem ai(c:x<R)(h:x≠0):BOy .eql 147 (N x) (.agg #[.int .u64 0,.int .u64 0,.int .u64 0,.int .u64 0]) (.bool false):=by
 intro p q w
 have:=eqN c (by decide:0<R) p q w;rw[yB h,dA]at this;exact this
theorem bi:prog.built 147 []=some #[.int .u64 0,.int .u64 0,.int .u64 0,.int .u64 0]:=by kernel_rfl
theorem sU{d:Nat}{Q:Pt}(C:d<R)(hh:h<R)(E:k<R)(w:World)(hL:Laid w)(O:B6 w)(M:CQ w)(G:7<w.heap.size)(X:sec d=true)(U:nV3 d (h %nn)=bl k)(V:sec k=true)(T:Au k base=Q)(F:xv Q %nn=r)(hi:i<nn)(W:i*k %nn=1)(L:i*((h+r*d %nn) %nn) %nn=t)(I:r≠0)(J:t≠0):CBy 58 #[B32 d,B32 h] w (.tuple #[PT r t,.int .i64 0]):=by
 have u:r<R:=by rw[<-F];exact IB _
 have K:t<R:=by rw[<-L];exact IB _
 go_enter func58,ntmps58
 refine A4 ?_;iterate 4 refine AA ?_
 refine AX (by exact BZ rfl rfl gg zeroValue22) ?_;iterate 4 refine AA ?_
 refine AX (by exact BZ rfl rfl gg zeroValue22) ?_;iterate 4 refine aT ?_
 refine AA ?_;refine AX (by exact Ad (v:=.bool true) rfl gg rfl (eo func79) (λl j=>by have a:=LC C l (hL.bw j);rw[X]at a;exact a)) ?_;refine k_9 ?_;iterate 5 refine aT ?_
 refine mb ?_;iterate 6 refine AA ?_
 iterate 3 refine aT ?_
 iterate 2 refine AA ?_
 refine AX (by exact Ad rfl gg rfl (eo func105) (λl j=>sQ C hh E l (hL.bw j) (O.bw j) (M.bw j) (yK G j.size) U V)) ?_;iterate 7 refine AA ?_
 refine NC ?_;refine AX (by exact AM rfl gg rfl (eo func85) (λl j=>Ui E T TollEc.base_on l (hL.bw j))) ?_;refine AX (by exact oO rfl gg rfl DQ rfl yY rfl yR (vs:=l32 (xv Q)) rfl) ?_;refine AX (by exact AM rfl gg rfl (eo zZ) (λl j=>ofN (xv Q) (Hd Q) l)) ?_;refine AX (by exact Aj (v:=N r) [21] rfl gg rfl (eo func88) (λρ S l z q=>F▸bI (id:=21) q (by simp) rfl (Hd Q))) ?_;iterate 7 refine AA ?_
 refine AX (by exact AM rfl gg rfl (eo zZ) (λl j=>ofN k E l)) ?_;refine AX (by exact Aj (v:=.tuple #[N i,.int .i64 0]) [21] rfl gg rfl (eo func81) (λρ S l z q=>bM (id:=21) q (by simp) rfl E hi W)) ?_;iterate 13 refine AA ?_
 refine NB ?_;iterate 3 refine AA ?_
 refine AX (by exact AM rfl gg rfl (eo zZ) (λl j=>ofN d C l)) ?_;refine AX (by exact Aj (v:=N (r*d %nn)) [21] rfl gg rfl (eo zO) (λρ S l z q=>QP (id:=21) q (by simp) rfl u C)) ?_;refine AX (by exact Aj (v:=N ((h+r*d %nn) %nn)) [21] rfl gg rfl (eo func106) (λρ S l z q=>qD (id:=21) q (by simp) rfl hh (IB _))) ?_;refine AX (by exact Aj (v:=N t) [21] rfl gg rfl (eo zO) (λρ S l z q=>L▸QP (id:=21) q (by simp) rfl (PR hi) (IB _))) ?_;iterate 7 refine AA ?_
 refine IM ?_;iterate 2 refine AA ?_
 refine AX (by first|exact Ev.skip (λ_=>rfl)|exact A6 rfl (λ_=>rfl) rfl bi) ?_;refine AX (by first|exact Ev.skip (λ_=>rfl)|exact AK (c:=.bool false) rfl (λ_=>rfl) rfl rfl (λw=>ai u I _ _ w)) ?_;refine k_9 ?_;iterate 2 refine AA ?_
 refine AX (by first|exact Ev.skip (λ_=>rfl)|exact A6 rfl (λ_=>rfl) rfl bi) ?_;refine AX (by first|exact Ev.skip (λ_=>rfl)|exact AK (c:=.bool false) rfl (λ_=>rfl) rfl rfl (λw=>ai K J _ _ w)) ?_;refine k_9 ?_;iterate 5 refine aT ?_
 refine AA ?_;refine AX (by exact AM rfl gg rfl (eo func86) (λl j=>LO r l)) ?_;refine AA ?_;refine AX (by exact AM rfl gg rfl (eo func86) (λl j=>LO t l)) ?_;iterate 4 refine AA ?_
 iterate 3 refine aT ?_
 refine Ks ?_;refine F9 ?_;refine AX (by exact aY (news:=l32 r) (len:=32) (k:=32) rfl gg rfl rfl rfl (Hw rfl rfl rfl (by decide)) x7 Er rfl rfl (by first|decide|simp[l32]) rfl (by decide)) ?_;iterate 3 refine aT ?_
 refine Kt ?_;refine F9 ?_;refine AX (by exact aY (news:=l32 t) (len:=32) (k:=32) rfl gg rfl rfl rfl (Hw rfl rfl rfl (by decide)) x7 Er rfl rfl (by first|decide|simp[l32]) rfl (by decide)) ?_;iterate 3 refine aT ?_
 refine AX (by first|exact BD rfl gg rfl rfl y9 rfl zI rfl rfl|exact A2 rfl gg rfl y9 rfl zI (by assumption) rfl|exact Bi rfl gg rfl rfl y9 rfl zI rfl) ?_;refine AX (by exact BA rfl gg rfl rfl rfl zI rfl (by simp) rfl) ?_;iterate 2 refine AA ?_
 exact AG (AD (Av results58 (Ac rfl rfl y9 rfl zI rfl rfl) (AF rfl)) λ_ _ F=>⟨rfl,F.1⟩)
theorem sZ(_z:h<R)(_q:r<R)(_C:t<R)(w:World)(_u:Laid w)(j:∀c,Bw w c->CBy 78 #[v] c (.tuple #[Gf,.int .i64 15])):CBy 46 #[v,B32 h,PT r t] w (.int .i64 15):=by
 go_enter func46,ntmps46
 refine A4 ?_;iterate 9 refine AA ?_
 refine AX (by exact Ad (v:=.tuple #[.agg #[.int .u8 0,.int .u8 0,.int .u8 0,.int .u8 0,.int .u8 0,.int .u8 0,.int .u8 0,.int .u8 0,.int .u8 0,.int .u8 0,.int .u8 0,.int .u8 0,.int .u8 0,.int .u8 0,.int .u8 0,.int .u8 0,.int .u8 0,.int .u8 0,.int .u8 0,.int .u8 0,.int .u8 0,.int .u8 0,.int .u8 0,.int .u8 0,.int .u8 0,.int .u8 0,.int .u8 0,.int .u8 0,.int .u8 0,.int .u8 0,.int .u8 0,.int .u8 0,.int .u8 0,.int .u8 0,.int .u8 0,.int .u8 0,.int .u8 0,.int .u8 0,.int .u8 0,.int .u8 0,.int .u8 0,.int .u8 0,.int .u8 0,.int .u8 0,.int .u8 0,.int .u8 0,.int .u8 0,.int .u8 0,.int .u8 0,.int .u8 0,.int .u8 0,.int .u8 0,.int .u8 0,.int .u8 0,.int .u8 0,.int .u8 0,.int .u8 0,.int .u8 0,.int .u8 0,.int .u8 0,.int .u8 0,.int .u8 0,.int .u8 0,.int .u8 0],.int .i64 15]) rfl gg rfl (eo func78) (λc l=>j c l)) ?_;iterate 11 refine AA ?_
 refine AX (by exact BB (p:=true) rfl gg rfl rfl (by decide)) ?_;iterate 7 refine AA ?_
 exact AG (AD (AH results46 (AF rfl)) λ_ _ q=>⟨rfl,q.1⟩)
theorem sn(_z:h<R)(j:r<R)(_C:t<R)(w:World)(q:Laid w)(hrd:∀c,Bw w c->CBy 78 #[v] c (.tuple #[PT x y,.int .i64 0]))(u:sec r=false):CBy 46 #[v,B32 h,PT r t] w (.int .i64 6):=by
 go_enter func46,ntmps46
 refine A4 ?_;iterate 9 refine AA ?_
 refine mZ ?_;iterate 11 refine AA ?_
 refine IM ?_;iterate 5 refine aT ?_
 refine Ks ?_;refine Gx ?_;refine AA ?_;refine Kt ?_;refine Gx ?_;iterate 5 refine AA ?_
 iterate 4 refine aT ?_
 refine AA ?_;refine AX (by exact Ad (v:=.bool false) rfl gg rfl (eo func79) (λc l=>by have a:=LC j c (q.bw l);rw[u]at a;exact a)) ?_;refine k_9 ?_;iterate 2 refine AA ?_
 iterate 2 refine FX ?_
 refine k_9 ?_;iterate 6 refine AA ?_
 exact AG (AD (AH results46 (AF rfl)) λ_ _ j=>⟨rfl,j.1⟩)
theorem sj(_u:h<R)(hr:r<R)(l:t<R)(w:World)(hL:Laid w)(hrd:∀c,Bw w c->CBy 78 #[v] c (.tuple #[PT x y,.int .i64 0]))(sr:sec r=true)(q:sec t=false):CBy 46 #[v,B32 h,PT r t] w (.int .i64 6):=by
 go_enter func46,ntmps46
 refine A4 ?_;iterate 9 refine AA ?_
 refine mZ ?_;iterate 11 refine AA ?_
 refine IM ?_;iterate 5 refine aT ?_
 refine Ks ?_;refine Gx ?_;refine AA ?_;refine Kt ?_;refine Gx ?_;iterate 5 refine AA ?_
 iterate 4 refine aT ?_
 refine AA ?_;refine PX ?_;refine k_9 ?_;iterate 2 refine AA ?_
 refine AX (by first|exact Ev.skip (λ_=>rfl)|exact Ad (v:=.bool false) rfl (λ_=>rfl) rfl (eo func79) (λc j=>by have a:=LC l c (hL.bw j);rw[q]at a;exact a)) ?_;refine Bz ?_;iterate 6 refine AA ?_
 exact AG (AD (AH results46 (AF rfl)) λ_ _ hr=>⟨rfl,hr.1⟩)
theorem sf(hh:h<R)(hr:r<R)(ht:t<R)(w:World)(hL:Laid w){A B X:Pt}(hx:x<R)(hy:y<R)(hrd:∀l,Bw w l->CBy 78 #[v] l (.tuple #[PT x y,.int .i64 0]))(sr:sec r=true)(st:sec t=true)(hi:i<nn)(hv:i*t %nn=1)(hA:Au (i*h %nn) base=A)(hB:Au (i*r %nn) (toP x y)=B)(oA:A.on)(oB:B.on)(hX:add A B=X)(q:X.on)(j:X=.inf):CBy 46 #[v,B32 h,PT r t] w (.int .i64 6):=by
 go_enter func46,ntmps46
 refine A4 ?_;iterate 9 refine AA ?_
 refine mZ ?_;iterate 11 refine AA ?_
 refine IM ?_;iterate 5 refine aT ?_
 refine Ks ?_;refine Gx ?_;refine AA ?_;refine Kt ?_;refine Gx ?_;iterate 5 refine AA ?_
 iterate 4 refine aT ?_
 refine AA ?_;refine PX ?_;refine k_9 ?_;iterate 2 refine AA ?_
 refine TA ?_;refine Bz ?_;iterate 5 refine aT ?_
 refine mb ?_;iterate 11 refine AA ?_
 refine TL ?_;refine Td ?_;iterate 11 refine AA ?_
 refine IM ?_;iterate 8 refine AA ?_
 refine NB ?_;refine Tc ?_;iterate 3 refine AA ?_
 refine TK ?_;refine Tb ?_;iterate 4 refine AA ?_
 iterate 3 refine aT ?_
 refine AA ?_;refine TR ?_;refine NC ?_;refine TW ?_;refine AA ?_;refine TQ ?_;refine AA ?_;refine TU ?_;refine TT ?_;iterate 2 refine AA ?_
 iterate 4 refine aT ?_
 refine AA ?_;refine AX (by exact A6 rfl gg rfl Jn) ?_;refine AX (by exact AK (c:=.bool true) rfl gg rfl rfl (λw=>o3 q j _ _ w)) ?_;iterate 4 refine AA ?_
 iterate 2 refine FX ?_
 refine AA ?_;iterate 2 refine FX ?_
 refine k_9 ?_;iterate 6 refine AA ?_
 exact AG (AD (AH results46 (AF rfl)) λ_ _ hr=>⟨rfl,hr.1⟩)
theorem so(hh:h<R)(hr:r<R)(ht:t<R)(w:World)(hL:Laid w){A B X:Pt}(hx:x<R)(hy:y<R)(hrd:∀j,Bw w j->CBy 78 #[v] j (.tuple #[PT x y,.int .i64 0]))(sr:sec r=true)(st:sec t=true)(hi:i<nn)(hv:i*t %nn=1)(hA:Au (i*h %nn) base=A)(hB:Au (i*r %nn) (toP x y)=B)(oA:A.on)(oB:B.on)(hX:add A B=X)(z:X.on)(l:X≠ .inf)(q:xv X %nn≠r):CBy 46 #[v,B32 h,PT r t] w (.int .i64 6):=by
 go_enter func46,ntmps46
 refine A4 ?_;iterate 9 refine AA ?_
 refine mZ ?_;iterate 11 refine AA ?_
 refine IM ?_;iterate 5 refine aT ?_
 refine Ks ?_;refine Gx ?_;refine AA ?_;refine Kt ?_;refine Gx ?_;iterate 5 refine AA ?_
 iterate 4 refine aT ?_
 refine AA ?_;refine PX ?_;refine k_9 ?_;iterate 2 refine AA ?_
 refine TA ?_;refine Bz ?_;iterate 5 refine aT ?_
 refine mb ?_;iterate 11 refine AA ?_
 refine TL ?_;refine Td ?_;iterate 11 refine AA ?_
 refine IM ?_;iterate 8 refine AA ?_
 refine NB ?_;refine Tc ?_;iterate 3 refine AA ?_
 refine TK ?_;refine Tb ?_;iterate 4 refine AA ?_
 iterate 3 refine aT ?_
 refine AA ?_;refine TR ?_;refine NC ?_;refine TW ?_;refine AA ?_;refine TQ ?_;refine AA ?_;refine TU ?_;refine TT ?_;iterate 2 refine AA ?_
 iterate 4 refine aT ?_
 refine AA ?_;refine AX (by exact A6 rfl gg rfl Jn) ?_;refine AX (by exact AK (c:=.bool false) rfl gg rfl rfl (λw=>ah z l _ _ w)) ?_;iterate 4 refine AA ?_
 refine ZR ?_;refine Zk ?_;refine AA ?_;refine AX (by first|exact Ev.skip (λ_=>rfl)|exact AM rfl (λ_=>rfl) rfl (eo zZ) (λj u=>ofN r hr j)) ?_;refine AX (by first|exact Ev.skip (λ_=>rfl)|exact AK (c:=.bool true) rfl (λ_=>rfl) rfl rfl (λw=>Ya (IB _) hr (yB q) _ _ w)) ?_;refine k_9 ?_;iterate 6 refine AA ?_
 exact AG (AD (AH results46 (AF rfl)) λ_ _ hr=>⟨rfl,hr.1⟩)
theorem si(hh:h<R)(hr:r<R)(ht:t<R)(w:World)(hL:Laid w){A B X:Pt}(hx:x<R)(hy:y<R)(hrd:∀j,Bw w j->CBy 78 #[v] j (.tuple #[PT x y,.int .i64 0]))(sr:sec r=true)(st:sec t=true)(hi:i<nn)(hv:i*t %nn=1)(hA:Au (i*h %nn) base=A)(hB:Au (i*r %nn) (toP x y)=B)(oA:A.on)(oB:B.on)(hX:add A B=X)(z:X.on)(l:X≠ .inf)(q:xv X %nn=r):CBy 46 #[v,B32 h,PT r t] w (.int .i64 0):=by
 go_enter func46,ntmps46
 refine A4 ?_;iterate 9 refine AA ?_
 refine mZ ?_;iterate 11 refine AA ?_
 refine IM ?_;iterate 5 refine aT ?_
 refine Ks ?_;refine Gx ?_;refine AA ?_;refine Kt ?_;refine Gx ?_;iterate 5 refine AA ?_
 iterate 4 refine aT ?_
 refine AA ?_;refine PX ?_;refine k_9 ?_;iterate 2 refine AA ?_
 refine TA ?_;refine Bz ?_;iterate 5 refine aT ?_
 refine mb ?_;iterate 11 refine AA ?_
 refine TL ?_;refine Td ?_;iterate 11 refine AA ?_
 refine IM ?_;iterate 8 refine AA ?_
 refine NB ?_;refine Tc ?_;iterate 3 refine AA ?_
 refine TK ?_;refine Tb ?_;iterate 4 refine AA ?_
 iterate 3 refine aT ?_
 refine AA ?_;refine TR ?_;refine NC ?_;refine TW ?_;refine AA ?_;refine TQ ?_;refine AA ?_;refine TU ?_;refine TT ?_;iterate 2 refine AA ?_
 iterate 4 refine aT ?_
 refine AA ?_;refine AX (by exact A6 rfl gg rfl Jn) ?_;refine AX (by exact AK (c:=.bool false) rfl gg rfl rfl (λw=>ah z l _ _ w)) ?_;iterate 4 refine AA ?_
 refine ZR ?_;refine Zk ?_;refine AA ?_;refine AX (by first|exact Ev.skip (λ_=>rfl)|exact AM rfl (λ_=>rfl) rfl (eo zZ) (λj u=>ofN r hr j)) ?_;refine AX (by first|exact Ev.skip (λ_=>rfl)|exact AK (c:=.bool false) rfl (λ_=>rfl) rfl rfl (λw=>Ya (IB _) hr (yE q) _ _ w)) ?_;refine k_9 ?_;iterate 7 refine AA ?_
 exact AG (AD (AH results46 (AF rfl)) λ_ _ hr=>⟨rfl,hr.1⟩)
theorem lJ:TollNt.Prm nn:=TollNt.pm0
theorem aN(h:sec t=true):t^(nn-2) %nn*t %nn=1/\t^(nn-2) %nn<nn:=by
 have f:=yA h;refine⟨?_,yJ _ (by decide)⟩;rw[uC4,<-CA];have e:(nn-2).succ=nn-1:=by decide
 rw[e];exact TollNt.fermat lJ λc=>by have:=uA2 (by omega) c;omega
def JE(w:World)(v:Value):Prop:= ∀c,Bw w c->CBy 78 #[v] c (.tuple #[Gf,.int .i64 15])
def JO(w:World)(v:Value)(x y:Nat):Prop:=x<R/\y<R/\ ∀c,Bw w c->CBy 78 #[v] c (.tuple #[PT x y,.int .i64 0])
theorem PU(n:Nat):l32 n=(bl n).map b8:=rfl
theorem fc(h:sec a=true):Au a base≠ .inf:=λc=>by
 have j:=yA h;have f:=TollEc.smul_eq_inf c;have:=uA2 (by omega) f;omega
open TollSha (H0)
open TollMont (R)
theorem Tryz.own:ownKnob prog.godebug=none:=by kernel_rfl
theorem Xl:Plain prog:=⟨by kernel_rfl,by kernel_rfl,by kernel_rfl⟩
theorem py:prog.cellsOf 247=1:=by kernel_rfl
theorem pt:prog.cellsOf 248=8:=by kernel_rfl
theorem pu:prog.cellsOf 262=64:=by kernel_rfl
theorem px:prog.cellsOf 147=4:=by kernel_rfl
theorem pr:prog.cellsOf 49=1:=by kernel_rfl
theorem Z9:prog.globalNamed "tollgate/hash.start" =some 6:=by kernel_rfl
theorem eJ:(prog.globals[6]?).map (·.type)=some 248:=by kernel_rfl
theorem aA:prog.globalNamed "tollgate/hash.rounds" =some 7:=by kernel_rfl
theorem eK:(prog.globals[7]?).map (·.type)=some 262:=by kernel_rfl
theorem aB:prog.globalNamed "tollgate/curve.prime" =some 4:=by kernel_rfl
theorem eN:(prog.globals[4]?).map (·.type)=some 147:=by kernel_rfl
theorem mM:Bq (pp)=[18446744073709551615,4294967295,0,18446744069414584321].map (Value.int .u64):=by
 obtain⟨c,f,j,l⟩:=Yq;unfold Bq;rw[c,f,j,l];rfl
theorem aC:prog.globalNamed "tollgate/curve.order" =some 3:=by kernel_rfl
theorem eO:(prog.globals[3]?).map (·.type)=some 147:=by kernel_rfl
theorem mN:Bq (nn)=[17562291160714782033,13611842547513532036,18446744073709551615,18446744069414584320].map (Value.int .u64):=by
 obtain⟨c,f,j,l⟩:=mC;unfold Bq;rw[c,f,j,l];rfl
theorem aD:prog.globalNamed "tollgate/curve.coeff" =some 5:=by kernel_rfl
theorem eP:(prog.globals[5]?).map (·.type)=some 147:=by kernel_rfl
theorem mP:Bq (cb.val)=[4309448131093880907,7285987128567378166,12964664127075681980,6540974713487397863].map (Value.int .u64):=by
 obtain⟨c,f,j,l⟩:=Yp;unfold Bq;rw[c,f,j,l];rfl
theorem aF:prog.globalNamed "tollgate/curve.baseX" =some 1:=by kernel_rfl
theorem eR:(prog.globals[1]?).map (·.type)=some 147:=by kernel_rfl
theorem mR:Bq (TollEc.bx.val)=[17627433388654248598,8575836109218198432,17923454489921339634,7716867327612699207].map (Value.int .u64):=by
 obtain⟨c,f,j,l⟩:=mE;unfold Bq;rw[c,f,j,l];rfl
theorem aE:prog.globalNamed "tollgate/curve.baseY" =some 2:=by kernel_rfl
theorem eQ:(prog.globals[2]?).map (·.type)=some 147:=by kernel_rfl
theorem mQ:Bq (TollEc.bY.val)=[14678990851816772085,3156516839386865358,10297457778147434006,5756518291402817435].map (Value.int .u64):=by
 obtain⟨c,f,j,l⟩:=mD;unfold Bq;rw[c,f,j,l];rfl
theorem Np{c:TypeId×Value->H}{W:World}{base:Nat}{q:List Int}{f:Array Value}(D:prog.globalNamed name=some g)(F:W.var? prog name=some f)
 (C:DataW.trod c prog W base sp held fuel 147 f.toList=some (tabData .u64 q,p))(E:Bq n=q.map (Value.int .u64)):∀(j:Nat) (v:Value),(Bq n)[j]? =some v->W.cell? ⟨g,0+j,none⟩=some v:=λj v l=>by
 have u:=cells_of_tab y8 zN pr px C;have z:=World.var?_cell D F (0+j);rw[z,zW];rw[E,<-u]at l;simpa using l
theorem bE{c:TypeId×Value->H}{W:World}{T base:Nat}{f:List Int}{l:Array Value}(G:prog.underlying T=some (.array n 247))(C:prog.cellsOf T=n)(E:prog.globalNamed name=some g)(I:W.var? prog name=some l)
 (D:DataW.trod c prog W base sp held fuel T l.toList=some (tabData .u32 f,p)):∀(j:Nat) (z:Int),f[j]? =some z->W.cell? ⟨g,j,none⟩=some (.int .u32 z):=λj z F=>by
 have q:=cells_of_tab G uA5 py C D;have u:=World.var?_cell E I j;rw[u];have:(f.map (Value.int .u32))[j]? =some (.int .u32 z):=by rw[zC,F];rfl
 rw[<-q]at this;simpa using this
def P5:List Int:=[1779033703,3144134277,1013904242,2773480762,1359893119,2600822924,528734635,1541459225]
def NH:List Int:=[1116352408,1899447441,3049323471,3921009573,961987163,1508970993,2453635748,2870763221,3624381080,310598401,607225278,1426881987,1925078388,2162078206,2614888103,3248222580,3835390401,4022224774,264347078,604807628,770255983,1249150122,1555081692,1996064986,2554220882,2821834349,2952996808,3210313671,3336571891,3584528711,113926993,338241895,666307205,773529912,1294757372,1396182291,1695183700,1986661051,2177026350,2456956037,2730485921,2820302411,3259730800,3345764771,3516065817,3600352804,4094571909,275423344,430227734,506948616,659060556,883997877,958139571,1322822218,1537002063,1747873779,1955562222,2024104815,2227730452,2361852424,2428436474,2756734187,3204031479,3329325298]
theorem nh:P5.map (Value.int .u32)=[uv H0.a,uv H0.b,uv H0.c,uv H0.d,uv H0.e,uv H0.f,uv H0.g,uv H0.h]:=by kernel_rfl
theorem Zr:P5.length=8/\NH.length=64/\NH.map (Value.int .u32)=TollSha.K.map uv:=⟨by kernel_rfl,by kernel_rfl,by kernel_rfl⟩
def FN:List (String×DataW Unit):=Rows.certReadsRow.laid
theorem H9{W:World}(h:laidMetH prog FN W):Laid W/\B6 W/\CQ W/\7<W.heap.size:=by
 unfold FN at h;rw[MakeChecks.laidMetH_plain _ _ _ (by kernel_rfl)]at h;obtain⟨ps,⟨g0,t0,a8,f0,p0,q0,J,T,a1,u,⟨g1,t1,a9,f1,p1,q1,L,U,a2,C,⟨g2,t2,b0,f2,p2,q2,M,V,a3,D,⟨g3,t3,b1,f3,p3,q3,N,X,a4,E,⟨g4,t4,b2,f4,p4,q4,O,Y,a5,F,⟨g5,t5,b3,f5,p5,q5,Q,Z,a6,G,⟨g6,t6,b4,f6,p6,q6,R,a0,a7,I,_,_⟩,_⟩,_⟩,_⟩,_⟩,_⟩,_⟩,_⟩:=h;obtain rfl:=z4 (Z9.symm.trans J);obtain rfl:=z4 (eJ.symm.trans T);obtain rfl:=z4 (aA.symm.trans L);obtain rfl:=z4 (eK.symm.trans U);obtain rfl:=z4 (aB.symm.trans M);obtain rfl:=z4 (eN.symm.trans V);obtain rfl:=z4 (aC.symm.trans N);obtain rfl:=z4 (eO.symm.trans X);obtain rfl:=z4 (aD.symm.trans O);obtain rfl:=z4 (eP.symm.trans Y);obtain rfl:=z4 (aF.symm.trans Q);obtain rfl:=z4 (eR.symm.trans Z);obtain rfl:=z4 (aE.symm.trans R);obtain rfl:=z4 (eQ.symm.trans a0);have k1:∀(j:Nat) (z:Int),NH[j]? =some z->W.cell? ⟨7,j,none⟩=some (.int .u32 z):=bE uC7 pu aA a2 C;have k0:∀(j:Nat) (z:Int),P5[j]? =some z->W.cell? ⟨6,j,none⟩=some (.int .u32 z):=bE uA4 pt Z9 a1 u
 have hK:B6 W:=λi hi=>by
  obtain⟨z,e⟩:∃z,NH[i]? =some z:=⟨_,zK (by rw[Zr.2.1];exact hi)⟩
  have:=k1 i _ e;rw[this];have f:(NH.map (Value.int .u32))[i]? =some (.int .u32 z):=by rw[zC,e];rfl
  rw[Zr.2.2,zC]at f;cases c:TollSha.K[i]? with
  |none=>rw[c]at f;cases f
  |some q=>
   rw[c]at f;rw[uE4,c];exact f.symm
 refine⟨⟨Np aF a6 G mR,Np aE a7 I mQ,Np aC a4 E mN,Np aB a3 D mM,Np aD a5 F mP⟩,hK,λj v l=> ?_,uF4 _ _ (hK 0 (by omega))⟩;rw[<-nh,zC]at l;cases c:P5[j]? with
 |none=>rw[c]at l;cases l
 |some z=>
  rw[c]at l;obtain rfl:Value.int .u32 z=v:=by simpa using l
  exact k0 j z c
section
variable(b:B)
include b
theorem I8(c:B->A:=by exact A3 (by first|exact BA rfl gg rfl rfl rfl yN rfl (by simp) rfl|exact Bh (vl:=[_,_,_,_,_,.d 55,_,_,_]) [55,9] rfl gg rfl rfl rfl yN rfl (λρ S j _ f=>⟨DC _,by have hh:=Cf (id:=55) f (by simp) rfl;simp only[SV.cs,SV.c,List.all_cons,List.all_nil,hh.2];rfl⟩) rfl (by simp)|exact Bh (vl:=[_,_,_,_,_,.d 55,_,_,_]) [55,2] rfl gg rfl rfl rfl yN rfl (λρ S j _ f=>⟨DC _,by have hh:=Cf (id:=55) f (by simp) rfl;simp only[SV.cs,SV.c,List.all_cons,List.all_nil,hh.2];rfl⟩) rfl (by simp)) id):A:=c b
theorem I6(c:B->A:=by exact A3 (by first|exact BA rfl gg rfl rfl rfl yI rfl (by simp) rfl|exact Eu (did:=6) rfl gg rfl rfl rfl rfl yI rfl|exact Eu (did:=14) rfl gg rfl rfl rfl rfl yI rfl|exact Eu (did:=76) rfl gg rfl rfl rfl rfl yI rfl) id):A:=c b
theorem O7(c:B->A:=by exact A3 (by first|exact Aj (v:=.tuple #[.string (AB []),.bool false]) [34] rfl gg rfl (eo func28) (λρ S q l j=>by have a:=QO 34 (Ei hks (i:=0) rfl) j (by simp) rfl;rw[h_a0]at a;exact a)|exact Aj (v:=.tuple #[.string (AB (bl x0)),.bool true]) [34] rfl gg rfl (eo func28) (λρ S q l j=>by have a:=QO 34 (Ei hks (i:=0) rfl) j (by simp) rfl;rw[h_a0]at a;exact a)) id):A:=c b
theorem O6(c:B->A:=by exact A3 (by first|exact Aj (v:=.tuple #[.string (AB []),.bool false]) [42] rfl gg rfl (eo func28) (λρ S q l j=>by have a:=QO 42 (Ei hks (i:=1) rfl) j (by simp) rfl;rw[h_a1]at a;exact a)|exact Aj (v:=.tuple #[.string (AB (bl x1)),.bool true]) [42] rfl gg rfl (eo func28) (λρ S q l j=>by have a:=QO 42 (Ei hks (i:=1) rfl) j (by simp) rfl;rw[h_a1]at a;exact a)) id):A:=c b
theorem jj(c:B->A:=by exact A3 (by first|exact Ev.skip (λ_=>rfl)|exact CI h_d rfl (λ_=>rfl) rfl (eo func69) (λl j=>V9 l i8 il)) id):A:=c b
theorem ji(c:B->A:=by exact A3 (by first|exact Ev.skip (λ_=>rfl)|exact CI h_e rfl (λ_=>rfl) rfl (eo func69) (λl j=>V9 l s8 sl)) id):A:=c b
theorem jh(c:B->A:=by exact A3 (by first|exact Ev.skip (λ_=>rfl)|exact CI h_k rfl (λ_=>rfl) rfl (eo func70) (λl j=>fy l k8)) id):A:=c b
theorem jg(c:B->A:=by exact A3 (by first|exact Ev.skip (λ_=>rfl)|exact CI h_f rfl (λ_=>rfl) rfl (eo func68) (λl j=>Rt l)) id):A:=c b
theorem jf(c:B->A:=by exact A3 (by first|exact Ev.skip (λ_=>rfl)|exact CI h_g rfl (λ_=>rfl) rfl (eo func68) (λl j=>Rt l)) id):A:=c b
theorem Wx(c:B->A:=by exact A3 (by first|exact Bh (vl:=[.v (.int .i64 c.se),.v (.string (AB c.is)),.v (.string (AB c.su)),.v (.int .i64 c.fr),.v (.int .i64 c.to),.fn (AN 5) (.d 9),.v (.bool c.ca),.v (.int .i64 c.pa),.v (.int .i64 c.us)]) [9,4] rfl gg rfl rfl rfl yN rfl (λρ S j _ f=>by obtain⟨kv,e,h⟩:=Nb (id:=9) f (by simp) rfl;exact QL e h) rfl (by simp)|exact Bh (vl:=[.v (.int .i64 c.se),.v (.string (AB c.is)),.v (.string (AB c.su)),.v (.int .i64 c.fr),.v (.int .i64 c.to),.fn (AN 5) (.d 9),.v (.bool c.ca),.v (.int .i64 c.pa),.v (.int .i64 c.us)]) [9,2] rfl gg rfl rfl rfl yN rfl (λρ S j _ f=>⟨DC _,by obtain⟨kv,e,h⟩:=Nb (id:=9) f (by simp) rfl;exact(QL e h).2⟩) rfl (by simp)) id):A:=c b
theorem je(c:B->A:=by exact A3 (by first|exact Ev.skip (λ_=>rfl)|exact AK rfl (λ_=>rfl) rfl rfl (λw=>T1 _ _ _ _ w)) id):A:=c b
theorem SK(c:B->A:=by exact A3 (by first|exact Eu (did:=8) rfl gg rfl rfl rfl rfl yI rfl|exact Eu (did:=13) rfl gg rfl rfl rfl rfl yI rfl|exact Bh (vl:=[.fn (AN 0) (.d 8),.fn (AN 1) (.d 8),.fn (AN 2) (.d 8)]) [8,2] rfl gg rfl rfl rfl yI rfl (λρ S j _ f=>⟨DC _,by obtain⟨c,h1,h2⟩:=C9 (id:=8) f (by simp) rfl;exact(fn3 h1 (Cu h2)).2▸Ib h2⟩) rfl (by simp)) id):A:=c b
theorem jd(c:B->A:=by exact A3 (by first|exact Ev.skip (λ_=>rfl)|exact Ew (p:=true) rfl (λ_=>rfl) rfl rfl (yE h0)) id):A:=c b
theorem jc(c:B->A:=by exact A3 (by first|exact Ev.skip (λ_=>rfl)|exact LG (p:=true) rfl (λ_=>rfl) rfl rfl (yE hm)) id):A:=c b
theorem O5(c:B->A:=by exact A3 (by first|exact Ev.skip (λ_=>rfl)|exact Cs [55] rfl rfl (λ_=>rfl) rfl (eo func59) (n:=(wrT (c.whole r t)).1.length) (size:=1) (l:=(wrT (c.whole r t)).1.map b8) (by simp) (λρ S q u j=>VA (c:=c) (r:=r) (t:=t) q hF (EH (id:=55) j (by simp) rfl))) id):A:=c b
theorem jb(c:B->A:=by exact A3 (by exact CI h_a rfl gg rfl (eo func68) (λl j=>Rt l)) id):A:=c b
theorem O4(c:B->A:=by exact A3 (by first|exact GG (did:=16) rfl gg rfl rfl rfl rfl yH rfl|exact GG (did:=25) rfl gg rfl rfl rfl rfl yH rfl|exact GG (did:=28) rfl gg rfl rfl rfl rfl yH rfl|exact GG (did:=60) rfl gg rfl rfl rfl rfl yH rfl) id):A:=c b
theorem SJ(c:B->A:=by exact A3 (by first|exact Ev.skip (λ_=>rfl)|exact BV rfl (λ_=>rfl) rfl rfl h_b) id):A:=c b
theorem Ww(c:B->A:=by exact A3 (by first|exact Aj (v:=.tuple #[ZV,.int .i64 2]) [100] rfl gg rfl (eo func8) (λρ S l q j=>by have a:=LU l (T5 (id:=100) j (by simp) rfl) (Hv hsg) (by have:=KE hsg;omega);rw[h_s]at a;exact a)|exact Aj (v:=.tuple #[PT r t,.int .i64 0]) [100] rfl gg rfl (eo func8) (λρ S l q j=>by have a:=LU l (T5 (id:=100) j (by simp) rfl) (Hv hsg) (by have:=KE hsg;omega);rw[h_s]at a;exact a)) id):A:=c b
theorem ja(c:B->A:=by exact A3 (by first|exact Ev.skip (λ_=>rfl)|exact Ew rfl (λ_=>rfl) rfl rfl h_m) id):A:=c b
theorem jZ(c:B->A:=by exact A3 (by first|exact Ev.skip (λ_=>rfl)|exact LG rfl (λ_=>rfl) rfl rfl h_n) id):A:=c b
theorem jY(c:B->A:=by exact A3 (by first|exact Ev.skip (λ_=>rfl)|exact Ag rfl (λ_=>rfl) rfl rfl h_z) id):A:=c b
theorem O3(c:B->A:=by exact A3 (by first|exact Ev.skip (λ_=>rfl)|exact aZ h_e [114] rfl (λ_=>rfl) rfl (eo func67) (λρ S q l j=>sX q (EH (id:=114) j (by simp) rfl) (A5 hv l) (EE (Lb hF r t)) h8)) id):A:=c b
theorem O2(c:B->A:=by exact A3 (by first|exact Ev.skip (λ_=>rfl)|exact aZ h_r [55] rfl (λ_=>rfl) rfl (eo func57) (λρ S q l j=>WE (c:=c) q (hL.bw l) (EH (id:=55) j (by simp) rfl) k8 i8 s8 il sl)) id):A:=c b
theorem Wv(c:B->A:=by exact A3 (by first|exact Ad (v:=.tuple #[ZV,.bool false]) rfl gg rfl (eo func9) (λl j=>by have a:=Qj l (Hv hsg) (by have:=KE hsg;omega);rw[h_s]at a;exact a)|exact Ad (v:=.tuple #[PT r t,.bool true]) rfl gg rfl (eo func9) (λl j=>by have a:=Qj l (Hv hsg) (by have:=KE hsg;omega);rw[h_s]at a;exact a)) id):A:=c b
theorem O1(c:B->A:=by exact A3 (by first|exact Ev.skip (λ_=>rfl)|exact Ad (v:=.string (AB (wrT (c.whole r t)).1)) rfl (λ_=>rfl) rfl (eo func39) (λl j=>it l hF hP.1 hP.2.1 hP.2.2.1 hP.2.2.2)) id):A:=c b
theorem KN(c:B->A:=by exact A3 (by first|exact BB (p:=true) rfl gg rfl rfl (by decide)|exact BB (p:=false) rfl gg rfl rfl (by decide)) id):A:=c b
theorem Wu(c:B->A:=by exact A3 (by first|exact GG (did:=8) rfl gg rfl rfl rfl rfl yH rfl|exact Bh (vl:=[.fn (AN 0) (.d 8),.fn (AN 1) (.d 8),.fn (AN 2) (.d 8)]) [2,8] rfl gg rfl rfl rfl yH rfl (λρ S j _ f=>⟨DC _,by obtain⟨c,h1,h2⟩:=Cd (id:=8) f (by simp) rfl;exact(fn3 h1 (CS h2)).2▸HB h2⟩) rfl (by simp)) id):A:=c b
theorem SI(c:B->A:=by exact A3 (by first|exact BA rfl gg rfl rfl rfl yI rfl (by simp) rfl|exact BA rfl gg rfl rfl rfl yI rfl (by simp) (X8 hu)|exact BA rfl gg rfl rfl rfl yI rfl (by simp) (X8 hd2)) id):A:=c b
theorem SH(c:B->A:=by exact A3 (by first|exact BA rfl gg rfl rfl rfl yH rfl (by simp) rfl|exact BA rfl gg rfl rfl rfl yH rfl (by simp) (X9 hu)|exact BA rfl gg rfl rfl rfl yH rfl (by simp) (X9 hd2)) id):A:=c b
theorem SG(c:B->A:=by exact A3 (by first|exact Eu (did:=19) rfl gg rfl rfl rfl rfl yI rfl|exact Eu (did:=28) rfl gg rfl rfl rfl rfl yI rfl|exact Eu (did:=48) rfl gg rfl rfl rfl rfl yI rfl) id):A:=c b
theorem Oz(c:B->A:=by exact A3 (by first|exact Ev.skip (λ_=>rfl)|exact CI h_r rfl (λ_=>rfl) rfl (eo func38) (λl j=>jB l u0 um k8 i8 s8 il sl)) id):A:=c b
theorem Oy(c:B->A:=by exact A3 (by exact P9 (D:=AU (k0)) rfl rfl gg rfl yS rfl yI (ZC (i:=0) (k:=0) (ks:=[k0,k1]) rfl rfl) ar (by decide)) id):A:=c b
theorem Ox(c:B->A:=by exact A3 (by exact P9 (D:=AU (k1)) rfl rfl gg rfl yS rfl yI (ZC (i:=1) (k:=0) (ks:=[k0,k1]) rfl rfl) ar (by decide)) id):A:=c b
theorem Wt(c:B->A:=by exact A3 (by first|exact Ad (v:=.tuple #[ZV,.int .i64 15]) rfl gg rfl (eo func78) (λl j=>hj l j)|exact Ad (v:=.tuple #[PT (kX c.ky) (kY c.ky),.int .i64 0]) rfl gg rfl (eo func78) (λl j=>hj l j)) id):A:=c b
theorem SF(c:B->A:=by exact A3 (by first|exact Ev.skip (λ_=>rfl)|exact CF (k:=0) (c:=l.headD 0) rfl (λ_=>rfl) rfl rfl yF (IQ (by omega)) (h8 _ (zA (IQ (by omega))))) id):A:=c b
theorem Ws(c:B->A:=by exact A3 (by first|exact Ev.skip (λ_=>rfl)|exact Ev.skip (λ_=>rfl)|exact aS (v:=.int .i64 tg) (rd:=[13]) rfl (λ_=>rfl) rfl rfl uA7 rfl rfl (λρ S j f=>by obtain⟨c,h1,h2⟩:=Cd (id:=13) f (by simp) rfl;exact p8 h1 h2)) id):A:=c b
theorem Ot(c:B->A:=by exact A3 (by first|exact Ev.skip (λ_=>rfl)|exact AK rfl (λ_=>rfl) rfl rfl (λw=>Hp h_y (EE (Lb hF r t)) h8 _ _ w)) id):A:=c b
theorem Wp(c:B->A:=by exact A3 (by exact Dg (is:=[17,20,23,26,34,37,47,74]) (ks:=[_,_,_,_,_,_,_,_]) rfl rfl gg rfl rfl ⟨rfl,rfl,rfl,rfl,rfl,rfl,rfl,rfl,trivial⟩ rfl yV (by kernel_rfl) (by kernel_rfl) (by decide) (by decide) (by decide)) id):A:=c b
theorem Oq(c:B->A:=by exact A3 (by exact QC (k:=0) rfl gg rfl rfl yV yI (Mh (ks:=[k0,k1]) rfl) (by simp) (by decide)) id):A:=c b
theorem Oo(c:B->A:=by exact A3 (by exact QC (k:=1) rfl gg rfl rfl yV yI (Mh (ks:=[k0,k1]) rfl) (by simp) (by decide)) id):A:=c b
theorem Wo(c:B->A:=by exact A3 (by first|exact Ev.skip (λ_=>rfl)|exact aS (v:=.int .i64 tg) (rd:=[13]) rfl (λ_=>rfl) rfl rfl uA7 rfl rfl (λρ S j f=>by obtain⟨c,h1,h2⟩:=C9 (id:=13) f (by simp) rfl;exact p7 h1 h2)) id):A:=c b
theorem SE(c:B->A:=by exact A3 (by first|exact GG (did:=13) rfl gg rfl rfl rfl rfl yH rfl|exact GG (did:=37) rfl gg rfl rfl rfl rfl yH rfl) id):A:=c b
theorem SD(c:B->A:=by exact A3 (by exact Al (D:=AU (B5 Hr)) [] rfl rfl gg rfl (eo func72) (λρ S j q l=>Iy (b:=Hr) j)) id):A:=c b
theorem Wn(c:B->A:=by exact A3 (by exact A0 (Dat.sl (BO (AC [2] n0)).length 1 ((BO (AC [2] n0)).map b8)) [99] rfl rfl gg rfl (eo func64) (λρ S q l j=>bN 99 (Af _ (hok)) j (by simp) rfl)) id):A:=c b
theorem Wm(c:B->A:=by exact A3 (by exact Al (D:=AU (C5 (iT (c.us %4)))) [59] rfl rfl gg rfl (eo func115) (λρ S q l j=>bJ (id:=59) j (by simp) rfl (GD _) (by have:=HU (c.us %4);omega))) id):A:=c b
theorem Wl(c:B->A:=by exact A3 (by exact Al (D:=AU (C5 (iT (c.us/4)))) [67] rfl rfl gg rfl (eo func115) (λρ S q l j=>bJ (id:=67) j (by simp) rfl (GD _) (by have:=HU (c.us/4);omega))) id):A:=c b
theorem Wk(c:B->A:=by exact A3 (by exact Ad (v:=.tuple #[.string (AB l),.bool true]) rfl gg rfl (eo func28) (λq j=>by have a:=R3 (sz:=8) q hok (G9 j hx) (by decide);rw[h]at a;exact a)) id):A:=c b
theorem On(c:B->A:=by exact A3 (by exact BL rfl rfl gg rfl (e:=3) (l:=CE [1]) rfl (by decide) (λ_=>by kernel_rfl)) id):A:=c b
theorem Wj(c:B->A:=by exact A3 (by exact Al (D:=AU (iT (c.us/4))) [] rfl rfl gg rfl (eo func113) (λρ S j q l=>Iz (n:=c.us/4) j (by have:=hf.u0;omega) (by have:=hf.um;omega))) id):A:=c b
theorem Wi(c:B->A:=by exact A3 (by exact Al (D:=AU (B5 [42,134,72,206,61,3,1,7])) [] rfl rfl gg rfl (eo func72) (λρ S j q l=>Iy (b:=[42,134,72,206,61,3,1,7]) j)) id):A:=c b
theorem Wh(c:B->A:=by exact A3 (by exact Al (D:=AU (B5 [42,134,72,206,61,2,1])) [] rfl rfl gg rfl (eo func72) (λρ S j q l=>Iy (b:=[42,134,72,206,61,2,1]) j)) id):A:=c b
theorem SA(c:B->A:=by exact A3 (by exact Al (D:=AR Ey) [] rfl rfl gg rfl (eo func139) (λρ S j q l=>dI j)) id):A:=c b
theorem Wg(c:B->A:=by exact A3 (by exact DL (D:=G5 c) (ys:=[PT r t,.int .i64 0]) [] rfl rfl gg rfl (eo func34) (λρ S l j q=>gz l (hL.bw j) (A5 hv j) h8 hbl hc)) id):A:=c b
theorem We(c:B->A:=by exact A3 (by exact Dg (is:=[48,49,51]) (ks:=[_,_,_]) rfl rfl gg rfl rfl ⟨rfl,rfl,rfl,trivial⟩ rfl yV (by kernel_rfl) (by kernel_rfl) (by decide) (by decide) (by decide)) id):A:=c b
theorem Wc(c:B->A:=by exact A3 (by exact Dg (is:=[54,55,60]) (ks:=[_,_,_]) rfl rfl gg rfl rfl ⟨rfl,rfl,rfl,trivial⟩ rfl yV (by kernel_rfl) (by kernel_rfl) (by decide) (by decide) (by decide)) id):A:=c b
theorem Xa(c:B->A:=by exact A3 (by exact Dg (is:=[53,62,70]) (ks:=[_,_,_]) rfl rfl gg rfl rfl ⟨rfl,rfl,rfl,trivial⟩ rfl yV (by kernel_rfl) (by kernel_rfl) (by decide) (by decide) (by decide)) id):A:=c b
theorem XT(c:B->A:=by exact A3 (by exact A0 (AU (.mk 48 [] [_,_,_,_,_,_,_,_])) [75] rfl rfl gg rfl (eo func32) (λρ S u l j=>D9 (q:=75) j (by simp) rfl)) id):A:=c b
theorem XS(c:B->A:=by exact A3 (by exact Dg (is:=[29,32]) (ks:=[_,_]) rfl rfl gg rfl rfl ⟨rfl,rfl,trivial⟩ rfl yV (by kernel_rfl) (by kernel_rfl) (by decide) (by decide) (by decide)) id):A:=c b
theorem XR(c:B->A:=by exact A3 (by exact Dg (is:=[38,39]) (ks:=[_,_]) rfl rfl gg rfl rfl ⟨rfl,rfl,trivial⟩ rfl yV (by kernel_rfl) (by kernel_rfl) (by decide) (by decide) (by decide)) id):A:=c b
theorem XQ(c:B->A:=by exact A3 (by exact Dg (is:=[41,45]) (ks:=[_,_]) rfl rfl gg rfl rfl ⟨rfl,rfl,trivial⟩ rfl yV (by kernel_rfl) (by kernel_rfl) (by decide) (by decide) (by decide)) id):A:=c b
theorem XP(c:B->A:=by exact A3 (by exact Dg (is:=[63,68]) (ks:=[_,_]) rfl rfl gg rfl rfl ⟨rfl,rfl,trivial⟩ rfl yV (by kernel_rfl) (by kernel_rfl) (by decide) (by decide) (by decide)) id):A:=c b
theorem XO(c:B->A:=by exact A3 (by exact Ev.asD (D:=AU Ey) (id:=49) (BD rfl gg rfl rfl yS rfl yI rfl rfl) (λh=>by cases h) gg λw=>KZ 1 [255] w _) id):A:=c b
theorem XN(c:B->A:=by exact A3 (by exact Ev.asD (D:=AU Ey) (id:=55) (BD rfl gg rfl rfl yS rfl yI rfl rfl) (λh=>by cases h) gg λw=>KZ 1 [255] w _) id):A:=c b
theorem XM(c:B->A:=by exact A3 (by exact Al (D:=AU (iT (c.se))) [] rfl rfl gg rfl (eo func113) (λρ S j q l=>Iz (n:=c.se) j hse (by have:=hf.sm;omega))) id):A:=c b
theorem XL(c:B->A:=by exact A3 (by exact Al (D:=AU (iT (c.fr))) [] rfl rfl gg rfl (eo func113) (λρ S j q l=>Iz (n:=c.fr) j hfr (by have:=hf.fm;omega))) id):A:=c b
theorem XK(c:B->A:=by exact A3 (by exact Al (D:=AU (iT (c.to))) [] rfl rfl gg rfl (eo func113) (λρ S j q l=>Iz (n:=c.to) j hto (by have:=hf.tm;omega))) id):A:=c b
theorem XJ(c:B->A:=by exact A3 (by exact Al (D:=AU (iT (c.us %4))) [] rfl rfl gg rfl (eo func113) (λρ S j q l=>Iz (n:=c.us %4) j (by omega) (by omega))) id):A:=c b
theorem XI(c:B->A:=by exact A3 (by exact A0 (AR (AC [2] n0)) [16,98] rfl rfl gg rfl (eo func61) (λρ S q l j=>Ex 16 98 [2] j (by simp) (by simp) rfl rfl)) id):A:=c b
theorem XH(c:B->A:=by exact A3 (by exact Al (D:=AR (B5 Hr)) [] rfl rfl gg rfl (eo func107) (λρ S j q l=>Jk (b:=Hr) j (by decide) (by decide))) id):A:=c b
theorem XF(c:B->A:=by exact A3 (by exact Ad (v:=.tuple #[CZ,ZV,.int .i64 2]) rfl gg rfl (eo func34) (λl j=>gu l (hL.bw j) (A5 hv j) h8 hbl hc)) id):A:=c b
theorem XE(c:B->A:=by exact A3 (by exact Dg (is:=[15]) (ks:=[_]) rfl rfl gg rfl rfl ⟨rfl,trivial⟩ rfl yV (by kernel_rfl) (by kernel_rfl) (by decide) (by decide) (by decide)) id):A:=c b
theorem XD(c:B->A:=by exact A3 (by exact Dg (is:=[21]) (ks:=[_]) rfl rfl gg rfl rfl ⟨rfl,trivial⟩ rfl yV (by kernel_rfl) (by kernel_rfl) (by decide) (by decide) (by decide)) id):A:=c b
theorem XC(c:B->A:=by exact A3 (by exact Dg (is:=[72]) (ks:=[_]) rfl rfl gg rfl rfl ⟨rfl,trivial⟩ rfl yV (by kernel_rfl) (by kernel_rfl) (by decide) (by decide) (by decide)) id):A:=c b
theorem XB(c:B->A:=by exact A3 (by exact Al (D:=AU (iT (2))) [] rfl rfl gg rfl (eo func113) (λρ S j q l=>Iz (n:=2) j (by decide) (by decide))) id):A:=c b
theorem XA(c:B->A:=by exact A3 (by exact A0 (AU (.mk 48 [] [_,_,_])) [52] rfl rfl gg rfl (eo func32) (λρ S u l j=>D9 (q:=52) j (by simp) rfl)) id):A:=c b
theorem W9(c:B->A:=by exact A3 (by exact A0 (AU (.mk 48 [] [_,_,_])) [61] rfl rfl gg rfl (eo func32) (λρ S u l j=>D9 (q:=61) j (by simp) rfl)) id):A:=c b
theorem W8(c:B->A:=by exact A3 (by exact A0 (AU (.mk 48 [] [_,_,_])) [71] rfl rfl gg rfl (eo func32) (λρ S u l j=>D9 (q:=71) j (by simp) rfl)) id):A:=c b
theorem W7(c:B->A:=by exact A3 (by exact A0 (AU (.mk 48 [] [_,_])) [33] rfl rfl gg rfl (eo func32) (λρ S u l j=>D9 (q:=33) j (by simp) rfl)) id):A:=c b
theorem W6(c:B->A:=by exact A3 (by exact A0 (AU (.mk 48 [] [_,_])) [40] rfl rfl gg rfl (eo func32) (λρ S u l j=>D9 (q:=40) j (by simp) rfl)) id):A:=c b
theorem W5(c:B->A:=by exact A3 (by exact A0 (AU (.mk 48 [] [_,_])) [46] rfl rfl gg rfl (eo func32) (λρ S u l j=>D9 (q:=46) j (by simp) rfl)) id):A:=c b
theorem W4(c:B->A:=by exact A3 (by exact Al (D:=AU (B5 [85,29,19])) [] rfl rfl gg rfl (eo func72) (λρ S j q l=>Iy (b:=[85,29,19]) j)) id):A:=c b
theorem W3(c:B->A:=by exact A3 (by exact Al (D:=AU (B5 [85,29,15])) [] rfl rfl gg rfl (eo func72) (λρ S j q l=>Iy (b:=[85,29,15]) j)) id):A:=c b
theorem W2(c:B->A:=by exact A3 (by exact Al (D:=AU (B5 [85,29,37])) [] rfl rfl gg rfl (eo func72) (λρ S j q l=>Iy (b:=[85,29,37]) j)) id):A:=c b
theorem W1(c:B->A:=by exact A3 (by exact A0 (AU (.mk 48 [] [_,_])) [69] rfl rfl gg rfl (eo func32) (λρ S u l j=>D9 (q:=69) j (by simp) rfl)) id):A:=c b
theorem Wz(c:B->A:=by exact A3 (by exact A0 (AU (.mk 48 [] [_])) [22] rfl rfl gg rfl (eo func32) (λρ S u l j=>D9 (q:=22) j (by simp) rfl)) id):A:=c b
theorem SS(c:B->A:=by exact A3 (by exact BE (c:=((i+1:Nat):Int)) rfl gg rfl rfl (by rw[Ah (by omega) (by omega)];omega)) id):A:=c b
theorem SR(c:B->A:=by exact A3 (by exact BL rfl rfl gg rfl (e:=3) (l:=CE [2]) rfl (by decide) (λ_=>by kernel_rfl)) id):A:=c b
theorem SQ(c:B->A:=by exact A3 (by exact Bc (k:=i) rfl gg rfl rfl underlying124 DS (AW hp) (hlt) (by decide)) id):A:=c b
theorem Wy(c:B->A:=by exact A3 (by first|exact Ev.skip (λ_=>rfl)|exact CI h_f rfl (λ_=>rfl) rfl (eo func104) (λl j=>Sp l s8 sl)) id):A:=c b
theorem I7(c:B->A:=by exact A3 (by exact A6 rfl gg rfl bf) id):A:=c b
theorem KQ(c:B->A:=by exact A3 (by exact A6 rfl gg rfl qb) id):A:=c b
theorem SO(c:B->A:=by exact A3 (by exact Cb rfl gg rfl uA7 rfl (AW hp) (nD hj)) id):A:=c b
theorem MG(c:B->A:=by exact A3 (by exact A6 rfl gg rfl qe) id):A:=c b
theorem D1(c:B->A:=by intro b;refine je ?_;refine k_9 ?_;exact b):A:=c b
theorem Dz(c:B->A:=by intro b;refine SJ ?_;refine k_9 ?_;exact b):A:=c b
theorem E6(c:B->A:=by intro b;refine jj ?_;refine k_9 ?_;exact b):A:=c b
theorem Ee(c:B->A:=by intro b;refine ji ?_;refine k_9 ?_;exact b):A:=c b
theorem E2(c:B->A:=by intro b;refine jg ?_;refine k_9 ?_;exact b):A:=c b
theorem E1(c:B->A:=by intro b;refine jf ?_;refine k_9 ?_;exact b):A:=c b
theorem Ep(c:B->A:=by intro b;refine jh ?_;refine k_9 ?_;exact b):A:=c b
theorem Eo(c:B->A:=by intro b;refine ja ?_;refine k_9 ?_;exact b):A:=c b
theorem En(c:B->A:=by intro b;refine jZ ?_;refine k_9 ?_;exact b):A:=c b
theorem Em(c:B->A:=by intro b;refine jd ?_;refine k_9 ?_;exact b):A:=c b
theorem Eg(c:B->A:=by intro b;refine jc ?_;refine k_9 ?_;exact b):A:=c b
theorem Ef(c:B->A:=by intro b;refine jY ?_;refine Bz ?_;exact b):A:=c b
theorem d_4(c:B->A:=by exact A3 (by first|exact Bh (vl:=[.v (.int .i64 c.se),.v (.string (AB c.is)),.v (.string (AB c.su)),.v (.int .i64 c.fr),.v (.int .i64 c.to),.fn (AN 5) (.d 17),.v (.bool c.ca),.v (.int .i64 c.pa),.v (.int .i64 c.us)]) [17,6] rfl gg rfl rfl rfl yN rfl (λρ S j _ f=>by obtain⟨kv,e,h⟩:=Nb (id:=17) f (by simp) rfl;exact QL e h) rfl (by simp)|exact Bh (vl:=[.v (.int .i64 c.se),.v (.string (AB c.is)),.v (.string (AB c.su)),.v (.int .i64 c.fr),.v (.int .i64 c.to),.fn (AN 5) (.d 17),.v (.bool c.ca),.v (.int .i64 c.pa),.v (.int .i64 c.us)]) [17,4] rfl gg rfl rfl rfl yN rfl (λρ S j _ f=>⟨DC _,by obtain⟨kv,e,h⟩:=Nb (id:=17) f (by simp) rfl;exact(QL e h).2⟩) rfl (by simp)|exact Bh (vl:=[.v (.int .i64 c.se),.v (.string (AB c.is)),.v (.string (AB c.su)),.v (.int .i64 c.fr),.v (.int .i64 c.to),.fn (AN 5) (.d 17),.v (.bool c.ca),.v (.int .i64 c.pa),.v (.int .i64 c.us)]) [17,2] rfl gg rfl rfl rfl yN rfl (λρ S j _ f=>⟨DC _,by obtain⟨kv,e,h⟩:=Nb (id:=17) f (by simp) rfl;exact(QL e h).2⟩) rfl (by simp)|exact BA rfl gg rfl rfl rfl yN rfl (by simp) rfl) id):A:=c b
theorem d_5(c:B->A:=by exact A3 (by first|exact Bh (vl:=[.v (.int .i64 c.se),.v (.string (AB c.is)),.v (.string (AB c.su)),.v (.int .i64 c.fr),.v (.int .i64 c.to),.fn (AN 5) (.d 38),.v (.bool c.ca),.v (.int .i64 c.pa),.v (.int .i64 c.us)]) [38,11] rfl gg rfl rfl rfl yN rfl (λρ S j _ f=>by obtain⟨kv,e,h⟩:=Nb (id:=38) f (by simp) rfl;exact QL e h) rfl (by simp)|exact Bh (vl:=[.v (.int .i64 c.se),.v (.string (AB c.is)),.v (.string (AB c.su)),.v (.int .i64 c.fr),.v (.int .i64 c.to),.fn (AN 5) (.d 38),.v (.bool c.ca),.v (.int .i64 c.pa),.v (.int .i64 c.us)]) [38,8] rfl gg rfl rfl rfl yN rfl (λρ S j _ f=>⟨DC _,by obtain⟨kv,e,h⟩:=Nb (id:=38) f (by simp) rfl;exact(QL e h).2⟩) rfl (by simp)|exact BA rfl gg rfl rfl rfl yN rfl (by simp) rfl) id):A:=c b
theorem Lp(c:B->A:=by exact A3 (by first|exact Bh (vl:=[.v (.int .i64 d.se),.v (.string (AB d.is)),.v (.string (AB d.su)),.v (.int .i64 d.fr),.v (.int .i64 d.to),.fn (AN 5) (.d 17),.v (.bool d.ca),.v (.int .i64 d.pa),.v (.int .i64 d.us)]) [17,6] rfl gg rfl rfl rfl yN rfl (λρ S j _ f=>by obtain⟨kv,e,h⟩:=Nb (id:=17) f (by simp) rfl;exact QL e h) rfl (by simp)|exact Bh (vl:=[.v (.int .i64 c.se),.v (.string (AB c.is)),.v (.string (AB c.su)),.v (.int .i64 c.fr),.v (.int .i64 c.to),.fn (AN 5) (.d 17),.v (.bool c.ca),.v (.int .i64 c.pa),.v (.int .i64 c.us)]) [17,4] rfl gg rfl rfl rfl yN rfl (λρ S j _ f=>⟨DC _,by obtain⟨kv,e,h⟩:=Nb (id:=17) f (by simp) rfl;exact(QL e h).2⟩) rfl (by simp)|exact Bh (vl:=[.v (.int .i64 c.se),.v (.string (AB c.is)),.v (.string (AB c.su)),.v (.int .i64 c.fr),.v (.int .i64 c.to),.fn (AN 5) (.d 917),.v (.bool c.ca),.v (.int .i64 c.pa),.v (.int .i64 c.us)]) [917,2] rfl gg rfl rfl rfl yN rfl (λρ S j _ f=>⟨DC _,by obtain⟨kv,e,h⟩:=Nb (id:=917) f (by simp) rfl;exact(QL e h).2⟩) rfl (by simp)|exact BA rfl gg rfl rfl rfl yN rfl (by simp) rfl) id):A:=c b
theorem Lk(c:B->A:=by exact A3 (by first|exact Bh (vl:=[.v (.int .i64 c.se),.v (.string (AB c.is)),.v (.string (AB c.su)),.v (.int .i64 c.fr),.v (.int .i64 c.to),.fn (AN 5) (.d 17),.v (.bool c.ca),.v (.int .i64 c.pa),.v (.int .i64 c.us)]) [17,6] rfl gg rfl rfl rfl yN rfl (λρ S j _ f=>by obtain⟨kv,e,h⟩:=Nb (id:=17) f (by simp) rfl;exact QL e h) rfl (by simp)|exact Bh (vl:=[.v (.int .i64 c.se),.v (.string (AB c.is)),.v (.string (AB c.su)),.v (.int .i64 c.fr),.v (.int .i64 c.to),.fn (AN 5) (.d 17),.v (.bool c.ca),.v (.int .i64 c.pa),.v (.int .i64 c.us)]) [17,4] rfl gg rfl rfl rfl yN rfl (λρ S j _ f=>⟨DC _,by obtain⟨kv,e,h⟩:=Nb (id:=17) f (by simp) rfl;exact(QL e h).2⟩) rfl (by simp)|exact Bh (vl:=[.v (.int .i64 c.se),.v (.string (AB c.is)),.v (.string (AB c.su)),.v (.int .i64 c.fr),.v (.int .i64 c.to),.fn (AN 5) (.d 917),.v (.bool c.ca),.v (.int .i64 c.pa),.v (.int .i64 c.us)]) [917,2] rfl gg rfl rfl rfl yN rfl (λρ S j _ f=>⟨DC _,by obtain⟨kv,e,h⟩:=Nb (id:=917) f (by simp) rfl;exact(QL e h).2⟩) rfl (by simp)|exact BA rfl gg rfl rfl rfl yN rfl (by simp) rfl) id):A:=c b
theorem IH(c:B->A:=by exact A3 (by exact oa [] rfl rfl gg rfl (eo func40) (n:=65) (size:=1) (l:=CN.map b8) (y:=B32 904625697166532776746648320380374280103671755200316906558262375061821325313) (by rfl) (λρ S q j u=>vA q (hL.bw j))) id):A:=c b
theorem KI(c:B->A:=by exact A3 (by first|exact Bh (vl:=[.v (.int .i64 c.se),.v (.string (AB c.is)),.v (.string (AB c.su)),.v (.int .i64 c.fr),.v (.int .i64 c.to),.fn (AN 5) (.d 61),.v (.bool c.ca),.v (.int .i64 c.pa),.v (.int .i64 c.us)]) [61,13] rfl gg rfl rfl rfl yN rfl (λρ S j _ f=>by obtain⟨kv,e,h⟩:=Nb (id:=61) f (by simp) rfl;exact QL e h) rfl (by simp)|exact BA rfl gg rfl rfl rfl yN rfl (by simp) rfl) id):A:=c b
theorem KH(c:B->A:=by exact A3 (by exact DL (D:=G5 c) (ys:=[.int .i64 0,.int .i64 0]) [] rfl rfl gg rfl (eo func18) (λρ S l j q=>by have h:=tV (now:=5) l (hL.bw j) (hK.bw j) (hH.bw j) (yK hb1 (Below.size j)) (hE.bw hb1 j) (A5 hc j) (A5 ha j) (A5 hb j) a8 al b8' bl (A5 hr1 j) (EJ j hr2) r8 rl;rw[hT]at h;exact h)) id):A:=c b
theorem KG(c:B->A:=by exact A3 (by exact oa [] rfl rfl gg rfl (eo func40) (n:=65) (size:=1) (l:=Ch.map b8) (y:=B32 904625697166532776746648320380374280103671755200316906558262375061821325314) (by rfl) (λρ S q j u=>u9 q (hL.bw j))) id):A:=c b
theorem mx(c:B->A:=by exact A3 (by first|exact Bh (vl:=[.v (.int .i64 c.se),.v (.string (AB c.is)),.v (.string (AB c.su)),.v (.int .i64 c.fr),.v (.int .i64 c.to),.fn (AN 5) (.d 14),.v (.bool c.ca),.v (.int .i64 c.pa),.v (.int .i64 c.us)]) [14,6] rfl gg rfl rfl rfl yN rfl (λρ S j _ f=>by obtain⟨kv,e,h⟩:=Nb (id:=14) f (by simp) rfl;exact QL e h) rfl (by simp)|exact Bh (vl:=[.v (.int .i64 c.se),.v (.string (AB c.is)),.v (.string (AB c.su)),.v (.int .i64 c.fr),.v (.int .i64 c.to),.fn (AN 5) (.d 14),.v (.bool c.ca),.v (.int .i64 c.pa),.v (.int .i64 c.us)]) [14,4] rfl gg rfl rfl rfl yN rfl (λρ S j _ f=>⟨DC _,by obtain⟨kv,e,h⟩:=Nb (id:=14) f (by simp) rfl;exact(QL e h).2⟩) rfl (by simp)) id):A:=c b
theorem KF(c:B->A:=by exact A3 (by exact Ad (v:=.string (AB [110,98])) rfl gg rfl (eo func41) (λl j=>uh l)) id):A:=c b
theorem Li(c:B->A:=by exact A3 (by exact Aj (v:=.bool true) [] rfl gg rfl (eo func19) (λρ S l j q=>vf l (hL.bw j) (hK.bw j) (hH.bw j) (yK hb1 (Below.size j)) (hE.bw hb1 j) (A5 hc j) (A5 ha j) (A5 hb j) a8 al b8' bl (A5 hr1 j) (EJ j hr2) r8 rl)) id):A:=c b
theorem IG(c:B->A:=by exact A3 (by exact AK (c:=.int .i64 0) rfl gg rfl rfl (λw=>by kernel_rfl)) id):A:=c b
theorem FD(c:B->A:=by exact A3 (by first|exact Ev.skip (λ_=>rfl)|exact Bu (c:=i-1) rfl (λ_=>rfl) rfl rfl (by rw[Ah (by omega) (by omega)])) id):A:=c b
theorem DY(c:B->A:=by exact A3 (by exact BM (p:=false) rfl gg rfl rfl (by decide)) id):A:=c b
theorem C6(c:B->A:=by exact A3 (by exact Ag (p:=true) rfl gg rfl rfl (by decide)) id):A:=c b
theorem C4(c:B->A:=by exact A3 (by exact BE (c:=1) rfl gg rfl rfl (by decide)) id):A:=c b
theorem mt(c:B->A:=by exact A3 (by first|exact Bh (vl:=[.v (.int .i64 tG.se),.v (.string (AB tG.is)),.v (.string (AB tG.su)),.v (.int .i64 tG.fr),.v (.int .i64 tG.to),.fn (AN 5) (.d 18),.v (.bool tG.ca),.v (.int .i64 tG.pa),.v (.int .i64 tG.us)]) [18,3] rfl gg rfl rfl rfl yN rfl (λρ S j _ f=>by obtain⟨kv,e,h⟩:=Nb (id:=18) f (by simp) rfl;exact QL e h) rfl (by simp)|exact BA rfl gg rfl rfl rfl yN rfl (by simp) rfl) id):A:=c b
theorem D2(c:B->A:=by exact A3 (by exact BU rfl gg rfl yX (AW hc)) id):A:=c b
theorem J3(c:B->A:=by exact A3 (by exact wA rfl gg rfl rfl rfl rfl rfl rfl rfl rfl (BI (id:=13) rfl)) id):A:=c b
theorem Gs(c:B->A:=by exact A3 (by first|exact Ev.skip (λ_=>rfl)|exact BB (p:=false) rfl (λ_=>rfl) rfl rfl (by decide)) id):A:=c b
theorem EP(c:B->A:=by exact A3 (by exact BM (p:=true) rfl gg rfl rfl (by decide)) id):A:=c b
theorem H3(c:B->A:=by exact A3 (by exact Al (D:=AL i 7) [] rfl rfl gg rfl (eo func116) (λρ S j q l=>FA _ _ j)) id):A:=c b
theorem Lg(c:B->A:=by exact A3 (by exact Ad (v:=.string (AB [110,99])) rfl gg rfl (eo func41) (λl j=>fE l)) id):A:=c b
theorem PZ(c:B->A:=by exact A3 (by exact AK (c:=.int .u64 0) rfl gg rfl rfl (λw=>by kernel_rfl)) id):A:=c b
theorem mr(c:B->A:=by exact A3 (by exact Aj (v:=.tuple #[CZ,.int .i64 p,.int .i64 n]) [] rfl gg rfl (eo func18) (λρ S l j q=>by have h:=tV (now:=5) l (hL.bw j) (hK.bw j) (hH.bw j) (yK hb1 (Below.size j)) (hE.bw hb1 j) (A5 hc j) (A5 ha j) (A5 hb j) a8 al b8' bl (A5 hr1 j) (EJ j hr2) r8 rl;rw[hT]at h;exact h)) id):A:=c b
theorem PY(c:B->A:=by exact A3 (by exact B1 (c:=.int .u64 0) rfl gg rfl (λw=>by kernel_rfl)) id):A:=c b
theorem PC(c:B->A:=by exact A3 (by exact B1 (c:=.int .i64 0) rfl gg rfl (λw=>by kernel_rfl)) id):A:=c b
theorem H2(c:B->A:=by exact A3 (by first|exact Ev.skip (λ_=>rfl)|exact BV (p:=false) rfl (λ_=>rfl) rfl rfl (by decide)) id):A:=c b
theorem mp(c:B->A:=by exact A3 (by first|exact Ev.skip (λ_=>rfl)|exact BM (p:=true) rfl (λ_=>rfl) rfl rfl (yE (by omega))) id):A:=c b
theorem mY(c:B->A:=by exact A3 (by exact Cs [] rfl rfl gg rfl (eo func45) (n:=2) (size:=1) (l:=tsV [a,b]) (by rfl) (λρ S u q z=>XV (Bs:=[a,b]) (G:=λk=>Ga k\/Gb k) u (RT rfl) (A5 hc q) ⟨Fy (λk j=>Or.inl j) (A5 ha q),Fy (λk j=>Or.inr j) (A5 hb q),trivial⟩)) id):A:=c b
theorem La(c:B->A:=by exact A3 (by first|exact Ev.skip (λ_=>rfl)|exact Ev.skip (λ_=>rfl)|exact AK (c:=.int .i64 (4*(us/4 %2))) rfl (λ_=>rfl) rfl rfl (λw=>wm hu0 hum _ _ w)) id):A:=c b
theorem mX(c:B->A:=by exact A3 (by exact Ad (v:=.tuple #[.agg #[.int .i64 dse,.string (AB dis),.string (AB dsu),.int .i64 dfr,.int .i64 dto,.string (AB dky),.bool dca,.int .i64 dpa,.int .i64 dus],PT r1 t1,.int .i64 0]) rfl gg rfl (eo func13) (λl j=>by have h:=Wb (b:=b) l b8' bl;rw[hrb]at h;exact h)) id):A:=c b
theorem Gk(c:B->A:=by exact A3 (by exact AK (c:=.bool true) rfl gg rfl rfl (λw=>ug _ w)) id):A:=c b
theorem Gj(c:B->A:=by exact A3 (by first|exact Ev.skip (λ_=>rfl)|exact BV (p:=false) rfl (λ_=>rfl) rfl rfl ht2) id):A:=c b
theorem mW(c:B->A:=by exact A3 (by exact DL (D:=G5 c) (ys:=[.nilIface]) [] rfl rfl gg rfl (eo func73) (λρ S l j q=>KP (i:=0) l (hL.bw j) (A5 hc j) (by decide) rfl (A5 hv j) h8 hbl hrd)) id):A:=c b
theorem mB(c:B->A:=by exact A3 (by exact Ad (v:=.tuple #[.agg #[.int .i64 0,.string (AB []),.string (AB []),.int .i64 0,.int .i64 0,.string (AB []),.bool false,.int .i64 0,.int .i64 0],ZV,.int .i64 2]) rfl gg rfl (eo func13) (λl j=>by have h:=Wb (b:=b) l b8' bl;rw[hrb]at h;exact h)) id):A:=c b
theorem lr(c:B->A:=by exact A3 (by exact Ad (v:=.tuple #[.agg #[.int .i64 0,.string (AB []),.string (AB []),.int .i64 0,.int .i64 0,.string (AB []),.bool false,.int .i64 0,.int .i64 0],ZV,.int .i64 2]) rfl gg rfl (eo func13) (λl j=>by have h:=Wb (b:=r) l r8 rl;rw[hrr]at h;exact h)) id):A:=c b
theorem EO(c:B->A:=by exact A3 (by exact BM (p:=false) rfl gg rfl rfl ht1) id):A:=c b
theorem kh(c:B->A:=by exact A3 (by first|exact Ev.skip (λ_=>rfl)|exact Aj (v:=.int .i64 (Ob b t.ky)) [98] rfl (λ_=>rfl) rfl (eo func20) (λρ S q j l=>Mq 98 (hL.bw j) (hK.bw j) (hH.bw j) (yK hb1 (Below.size j)) (A5 hb j) b8' bl hs2.2.1.k8 rfl l (by simp) rfl)) id):A:=c b
theorem kg(c:B->A:=by exact A3 (by first|exact Ev.skip (λ_=>rfl)|exact Aj (v:=.int .i64 (Ob a d.ky)) [57] rfl (λ_=>rfl) rfl (eo func20) (λρ S q j l=>Mq 57 (hL.bw j) (hK.bw j) (hH.bw j) (yK hb1 (Below.size j)) (A5 ha j) a8 al hs1.2.1.k8 rfl l (by simp) rfl)) id):A:=c b
theorem wI(c:B->A:=by exact A3 (by exact Aj (v:=.nilIface) [17] rfl gg rfl (eo zV) (λρ S j z q=>qd 17 _ q (by simp) rfl (λC l u=>by cases l with|true=>exact vX j hx1 hx2 hn1 hn2 ht1 ht2|false=>exact vY j hx1 hx2 hn1 hn2 ht1 ht2))) id):A:=c b
theorem O9(c:B->A:=by exact A3 (by first|exact Ev.skip (λ_=>rfl)|exact Ad rfl (λ_=>rfl) rfl (eo func77) (λl j=>Kj (c:=⟨tse,tis,tsu,tfr,tto,tky,_,tpa,tus⟩) l ho2)) id):A:=c b
theorem FC(c:B->A:=by exact A3 (by exact Ag (p:=false) rfl gg rfl rfl (by simp;omega)) id):A:=c b
theorem Hz(c:B->A:=by exact A3 (by first|exact Ev.skip (λ_=>rfl)|exact BV (p:=true) rfl (λ_=>rfl) rfl rfl ht2) id):A:=c b
theorem Ky(c:B->A:=by exact A3 (by exact wB rfl rfl gg rfl rfl (BI rfl) underlying99 el4 (by decide) rfl (by simp only[maxLen];omega) (by omega) rfl) id):A:=c b
theorem Kx(c:B->A:=by exact A3 (by first|exact Ev.skip (λ_=>rfl)|exact Ev.skip (λ_=>rfl)|exact B4 (p:=decide (pa>= -1)) rfl (λ_=>rfl) rfl rfl rfl) id):A:=c b
theorem Kw(c:B->A:=by exact A3 (by exact Al (D:=AL 0 7) [] rfl rfl gg rfl (eo func116) (λρ S j q l=>FA _ _ j)) id):A:=c b
theorem wH(c:B->A:=by exact A3 (by exact oa [] rfl rfl gg rfl (eo func40) (n:=65) (size:=1) (l:=Gi.map b8) (y:=B32 904625697166532776746648320380374280103671755200316906558262375061821325312) (by rfl) (λρ S q j u=>vB q (hL.bw j))) id):A:=c b
theorem J0(c:B->A:=by exact A3 (by exact Cc (bs:=X) rfl gg rfl x7 yL yF (AW hx)) id):A:=c b
theorem Jz(c:B->A:=by exact A3 (by first|exact Ev.skip (λ_=>rfl)|exact BU rfl (λ_=>rfl) rfl yX (AW hc)) id):A:=c b
theorem Kv(c:B->A:=by exact A3 (by first|exact Ev.skip (λ_=>rfl)|exact Ev.skip (λ_=>rfl)|exact Bu (c:= -1) rfl (λ_=>rfl) rfl rfl (by decide)) id):A:=c b
theorem Ku(c:B->A:=by exact A3 (by first|exact Ev.skip (λ_=>rfl)|exact AK rfl (λ_=>rfl) rfl rfl (λw=>gY (by have:=hs0.2.1.u0;omega) _ _ w)) id):A:=c b
theorem O8(c:B->A:=by exact A3 (by first|exact Ev.skip (λ_=>rfl)|exact Ag (p:=false) rfl (λ_=>rfl) rfl rfl (by decide)) id):A:=c b
theorem Km(c:B->A:=by exact A3 (by first|exact Ev.skip (λ_=>rfl)|exact BB (p:=true) rfl (λ_=>rfl) rfl rfl (by decide)) id):A:=c b
theorem Jy(c:B->A:=by exact A3 (by first|exact Ev.skip (λ_=>rfl)|exact BV (p:=true) rfl (λ_=>rfl) rfl rfl (by decide)) id):A:=c b
theorem Mp(c:B->A:=by exact A3 (by first|exact Ev.skip (λ_=>rfl)|exact AK rfl (λ_=>rfl) rfl rfl (λw=>R7 hs0.2.1.u0 hs0.2.1.um _ _ w)) id):A:=c b
theorem Mo(c:B->A:=by exact A3 (by first|exact Ev.skip (λ_=>rfl)|exact AK (c:=.int .i64 x2) rfl (λ_=>rfl) rfl rfl (λw=>hx2 _ _ w)) id):A:=c b
theorem TE(c:B->A:=by exact A3 (by first|exact Ev.skip (λ_=>rfl)|exact Bc (k:=0) rfl (λ_=>rfl) rfl rfl underlying99 sizeOf4 (AW hq) (by decide) (by decide)) id):A:=c b
theorem qB(c:B->A:=by exact A3 (by exact AK (c:=.int .i64 9) rfl gg rfl rfl (λw=>by kernel_rfl)) id):A:=c b
theorem pz(c:B->A:=by exact A3 (by exact Cs [] rfl rfl gg rfl (eo func45) (n:=1) (size:=1) (l:=tsV [r]) (by rfl) (λρ S q j u=>XV (Bs:=[r]) q (RT rfl) (A5 hr1 j) (EJ j hr2))) id):A:=c b
theorem Mn(c:B->A:=by exact A3 (by first|exact Ev.skip (λ_=>rfl)|exact Cb rfl (λ_=>rfl) rfl x7 rfl (AW hc) rfl) id):A:=c b
theorem Mm(c:B->A:=by exact A3 (by first|exact Ev.skip (λ_=>rfl)|exact Ev.skip (λ_=>rfl)|exact BB rfl (λ_=>rfl) rfl rfl hn2) id):A:=c b
theorem Ml(c:B->A:=by exact A3 (by exact BL rfl rfl gg rfl (e:=4) (l:=[.bool (false)]) rfl (by decide) (λ_=>by kernel_rfl)) id):A:=c b
theorem IK(c:B->A:=by exact A3 (by exact AK (c:=.bool false) rfl gg rfl rfl (λw=>uf _ w)) id):A:=c b
theorem Mk(c:B->A:=by exact A3 (by first|exact Ev.skip (λ_=>rfl)|exact AK rfl (λ_=>rfl) rfl rfl (λw=>gY hs0.2.1.u0 _ _ w)) id):A:=c b
theorem KO(c:B->A:=by exact A3 (by exact JS (a:=0) rfl gg rfl rfl) id):A:=c b
theorem Mj(c:B->A:=by exact A3 (by first|exact Ev.skip (λ_=>rfl)|exact B4 (p:=decide (pa>= -1)) rfl (λ_=>rfl) rfl rfl rfl) id):A:=c b
theorem TD(c:B->A:=by exact A3 (by first|exact Ev.skip (λ_=>rfl)|exact BU rfl (λ_=>rfl) rfl yX (AW hc')) id):A:=c b
theorem Gt(c:B->A:=by exact A3 (by exact Ag (p:=false) rfl gg rfl rfl (by decide)) id):A:=c b
theorem Mi(c:B->A:=by exact A3 (by first|exact Ev.skip (λ_=>rfl)|exact Bu (c:= -1) rfl (λ_=>rfl) rfl rfl (by decide)) id):A:=c b
theorem MH(c:B->A:=by exact A3 (by first|exact Ev.skip (λ_=>rfl)|exact Bu (c:=0) rfl (λ_=>rfl) rfl rfl (by decide)) id):A:=c b
theorem po(c:B->A:=by exact A3 (by first|exact Ev.skip (λ_=>rfl)|exact Tw rfl rfl (λ_=>rfl) rfl yF x7 yL (by have:=hs1.2.1.kl;simp only[maxLen];omega) hs1.2.1.k8) id):A:=c b
theorem pn(c:B->A:=by exact A3 (by first|exact Ev.skip (λ_=>rfl)|exact Tw rfl rfl (λ_=>rfl) rfl yF x7 yL (by have:=hs2.2.1.kl;simp only[maxLen];omega) hs2.2.1.k8) id):A:=c b
theorem S9(c:B->A:=by exact A3 (by first|exact Ev.skip (λ_=>rfl)|exact AK rfl (λ_=>rfl) rfl rfl (λw=>E4 h_p5 hs2.2.1.s8 hs1.2.1.i8 _ _ w)) id):A:=c b
theorem pk(c:B->A:=by exact A3 (by exact Ty (n:=1) (l:=[.d 12]) [12] rfl rfl gg rfl (λρ S j f=>by have hd:=T5 (id:=12) f (by simp) rfl;exact BT Array.toList (Hy hd).1) rfl rfl Mr) id):A:=c b
theorem pj(c:B->A:=by exact A3 (by exact Ty (n:=1) (l:=[.d 10]) [10] rfl rfl gg rfl (λρ S j f=>by have hd:=T5 (id:=10) f (by simp) rfl;exact BT Array.toList (Hy hd).1) rfl rfl Mr) id):A:=c b
theorem MF(c:B->A:=by exact A3 (by first|exact Ev.skip (λ_=>rfl)|exact BB (p:=true) rfl (λ_=>rfl) rfl rfl hn2) id):A:=c b
theorem FE(c:B->A:=by exact A3 (by exact v9 rfl gg rfl rfl) id):A:=c b
theorem IJ(c:B->A:=by exact A3 (by exact BU rfl gg rfl uC8 (AW hc)) id):A:=c b
theorem oz(c:B->A:=by exact A3 (by exact BU rfl gg rfl underlying47 (AW hv)) id):A:=c b
theorem ME(c:B->A:=by exact A3 (by exact AK (c:=.int .i64 (us %2)) rfl gg rfl rfl (λw=>wn hu0 hum _ _ w)) id):A:=c b
theorem KM(c:B->A:=by exact A3 (by exact Cb rfl gg rfl yF rfl (AW hc) rfl) id):A:=c b
theorem SP(c:B->A:=by exact A3 (by first|exact Ev.skip (λ_=>rfl)|exact Cb rfl (λ_=>rfl) rfl uD7 rfl (AW hq) rfl) id):A:=c b
theorem KL(c:B->A:=by exact A3 (by exact BM rfl gg rfl rfl h_q) id):A:=c b
theorem SN(c:B->A:=by exact A3 (by exact Bc (k:=1) rfl gg rfl rfl uC8 CD (AW hc) (by decide) (by decide)) id):A:=c b
theorem MD(c:B->A:=by exact A3 (by first|exact Ev.skip (λ_=>rfl)|exact Ag rfl (λ_=>rfl) rfl rfl h_v1) id):A:=c b
theorem MB(c:B->A:=by exact A3 (by first|exact Ev.skip (λ_=>rfl)|exact Ag rfl (λ_=>rfl) rfl rfl h_v2) id):A:=c b
theorem L9(c:B->A:=by exact A3 (by first|exact Ev.skip (λ_=>rfl)|exact BM rfl (λ_=>rfl) rfl rfl h_v3) id):A:=c b
theorem KJ(c:B->A:=by exact A3 (by exact AK rfl gg rfl rfl (λw=>E4 hq X8 B8 _ _ w)) id):A:=c b
theorem II(c:B->A:=by exact A3 (by exact BE (c:=2) rfl gg rfl rfl (by decide)) id):A:=c b
theorem SL(c:B->A:=by exact A3 (by exact BE (c:=((k+1:Nat):Int)) rfl gg rfl rfl (by rw[Ah (by omega) (by omega)];omega)) id):A:=c b
theorem wK(c:B->A:=by exact A3 (by exact Bc (k:=i) rfl gg rfl rfl underlying47 sizeOf46 (AW hv) (hlt) (by decide)) id):A:=c b
theorem SC(c:B->A:=by exact A3 (by exact Bc (k:=i) rfl gg rfl rfl yX y7 (AW hc) (hi) (by decide)) id):A:=c b
theorem ol(c:B->A:=by exact A3 (by first|exact Ev.skip (λ_=>rfl)|exact Bc (k:=0) rfl (λ_=>rfl) rfl rfl yX y7 (AW hc) (by decide) (by decide)) id):A:=c b
theorem nl(c:B->A:=by exact A3 (by first|exact Ev.skip (λ_=>rfl)|exact Bc (k:=1) rfl (λ_=>rfl) rfl rfl yX y7 (AW hc) (by decide) (by decide)) id):A:=c b
theorem wJ(c:B->A:=by exact A3 (by exact AK (c:=.int .i64 2) rfl gg rfl rfl (λw=>by kernel_rfl)) id):A:=c b
theorem m6(c:B->A:=by exact A3 (by exact Ad rfl gg rfl (eo func77) (λl j=>Kj (c:=⟨dse,dis,dsu,dfr,dto,dky,_,dpa,dus⟩) l ho1)) id):A:=c b
theorem Lo(c:B->A:=by exact A3 (by exact AK (c:=.int .i64 x1) rfl gg rfl rfl (λw=>hx1 _ _ w)) id):A:=c b
theorem Ln(c:B->A:=by exact A3 (by exact A6 rfl gg rfl (wS _ _ _ _ _ _ _ _)) id):A:=c b
theorem SB(c:B->A:=by exact A3 (by first|exact Ev.skip (λ_=>rfl)|exact B4 (p:=false) rfl (λ_=>rfl) rfl rfl rfl) id):A:=c b
theorem R9(c:B->A:=by exact A3 (by first|exact Ev.skip (λ_=>rfl)|exact B4 (p:=false) rfl (λ_=>rfl) rfl rfl hp) id):A:=c b
theorem R8(c:B->A:=by exact A3 (by first|exact Ev.skip (λ_=>rfl)|exact B4 (p:=true) rfl (λ_=>rfl) rfl rfl hp) id):A:=c b
theorem m5(c:B->A:=by exact A3 (by exact JS (a:=9) rfl gg rfl rfl) id):A:=c b
theorem P1(c:B->A:=by exact A3 (by first|exact Ev.skip (λ_=>rfl)|exact B4 rfl (λ_=>rfl) rfl rfl h_p2) id):A:=c b
theorem Lm(c:B->A:=by exact A3 (by exact BU rfl gg rfl uC8 (AW hr1)) id):A:=c b
theorem Ll(c:B->A:=by exact A3 (by exact BU rfl gg rfl yX (AW hr1)) id):A:=c b
theorem P0(c:B->A:=by exact A3 (by exact BU rfl gg rfl yX (AW hc')) id):A:=c b
theorem Pl(c:B->A:=by exact A3 (by exact AK (c:=.int .i64 50) rfl gg rfl rfl (λw=>by kernel_rfl)) id):A:=c b
theorem m4(c:B->A:=by exact A3 (by exact AK (c:=.int .u64 5) rfl gg rfl rfl (λw=>by kernel_rfl)) id):A:=c b
theorem mz(c:B->A:=by exact A3 (by exact AK (c:=.int .i64 5) rfl gg rfl rfl (λw=>by kernel_rfl)) id):A:=c b
theorem my(c:B->A:=by exact A3 (by exact AK (c:=.int .i64 3) rfl gg rfl rfl (λw=>by kernel_rfl)) id):A:=c b
theorem Pe(c:B->A:=by exact A3 (by exact AK (c:=.int .u64 1) rfl gg rfl rfl (λw=>by kernel_rfl)) id):A:=c b
theorem Lj(c:B->A:=by exact A3 (by exact BB (p:=true) rfl gg rfl rfl (by decide)) id):A:=c b
end
end Go.Proofs.YtafbhakmkbehiaaGreatDoor
