import Derived.Test.YtafbhakmkbehiaaGreatDoorY30
import Derived.Test.YtafbhakmkbehiaaGreatDoorY33
import Derived.Test.YtafbhakmkbehiaaGreatDoorY34
open Go.Proofs.Tryz
set_option maxHeartbeats 4000000
set_option maxRecDepth 100000
namespace Go.Proofs.YtafbhakmkbehiaaGreatDoor
open Go.RowKit Go.Vx
variable(w:World){ops:Array Oper}{n:Int}{b bs kbd ls rd:List Nat}{kks:List Tr}{S:Nat→Nat→Prop}{ρ:Nat→Nm}{x:Operand}{Rr:Option (Crt×Nat×Nat)}{n0:Tr}{v:Value}
open TollMont
open Go.Toll (Gw)
open TollEc (F pp cb Jp Pt Au add base nn neg)
open TollSha (sha CH)
theorem kL: ∀q:List Nat,AC q noT=noT
 | []=>rfl
 |_::_=>rfl
theorem PF: ∀(p q:List Nat) (t:Tr),AC (p++q) t=AC q (AC p t)
 | [],_,_=>rfl
 |i::is,q,.mk _ _ ks=>by
  rw[List.cons_append,AC,AC];cases ks[i]? with
  |some k=>exact PF is q k
  |none=>exact(kL q).symm
theorem mA(n:Tr):Ax (Bt (AC [7,0,1,2] (AC [0] n)))=CX n:=by rw[CX,JF,←PF [7,0] [1,2]];rfl
theorem nK(n:Tr):Ax (Bt (AC [7,0,2,1] (AC [0] n)))=Cl n:=by rw[Cl,JF,←PF [7,0] [2,1]];rfl
theorem rQ(n:Tr):Bt (AC [7,0,0,2] (AC [0] n))=Bt (AC [0,2] (AC [7,0] (AC [0] n))):=by rw[←PF [7,0] [0,2]];rfl
def RZ:Value:= .agg #[.int .i64 0,.string (AB []),.string (AB []),.int .i64 0,.int .i64 0,.string (AB []),.bool false,.int .i64 0,.int .i64 0]
def RVV(c:Crt):Value:= .agg #[.int .i64 c.se,.string (AB c.is),.string (AB c.su),.int .i64 c.fr,.int .i64 c.to,.string (AB c.ky),.bool c.ca,.int .i64 c.pa,.int .i64 c.us]
def Gd:Option (Crt×Nat×Nat)→Value
 |none=> .tuple #[RZ,ZV,.int .i64 2]
 |some (c,r,t)=> .tuple #[RVV c,PT r t,.int .i64 0]
theorem qc(a c d:Int)(b e k:ByteArray):prog.built 38 [(0,.int .i64 a),(1,.string b),(3,.int .i64 c),(4,.int .i64 d),(2,.string e),(5,.string k)]=some #[.int .i64 a,.string b,.string e,.int .i64 c,.int .i64 d,.string k,.bool false,.int .i64 0,.int .i64 0]:=by kernel_rfl
theorem qb:prog.built 38 []=some #[.int .i64 0,.string (AB []),.string (AB []),.int .i64 0,.int .i64 0,.string (AB []),.bool false,.int .i64 0,.int .i64 0]:=by kernel_rfl
theorem QD{w0:World}{o:Oper}{s:VS}{id:Nat}{t:Tr}(ho:o.op= .field 71 x 1)(hgd:AQ ops o s)(hx:AE s x= .d id)(hm:s.mem id=some (.dat (AU t))):Ev prog ops w0 o s ⟨.v (.string (AB (Az t))),[],[],[],[id]⟩:=
 Ev.run _ _ hgd fun ρ S w _ hR=>by
  have e1:=AI s ρ x;rw[hx]at e1;obtain⟨c,h1,h2⟩:=C9 (id:=id) hR (by simp) hm;obtain⟨kv,rfl⟩:=L0 h2;simp[execOp,ho,e1,SV.c,h1,Instr.field,run_underlying underlying71,Bp underlying9,asAgg,part,Ba]
theorem lW(h0:0≤n)(hm:n≤3)(p q:Operand)(w:World):(do eqGuard .mul 3 p q (.int .i64 4) (.int .i64 n);binOp .mul 3 (.int .i64 4) (.int .i64 n):Sem Value).run prog w= .ok (.int .i64 (4*n)) w:=by
 have:n=0∨n=1∨n=2∨n=3:=by omega
 rcases this with rfl|rfl|rfl|rfl<;>(go_simp;rfl)
theorem rj{m:Int}(h0:0≤n)(hm:n≤3)(m0:0≤m)(mm:m≤3)(p q:Operand)(w:World):(do eqGuard .add 3 p q (.int .i64 m) (.int .i64 (4*n));binOp .add 3 (.int .i64 m) (.int .i64 (4*n)):Sem Value).run prog w= .ok (.int .i64 (n*4+m)) w:=by
 have hn:n=0∨n=1∨n=2∨n=3:=by omega
 have hmm:m=0∨m=1∨m=2∨m=3:=by omega
 rcases hn with rfl|rfl|rfl|rfl<;>rcases hmm with rfl|rfl|rfl|rfl<;>(go_simp;rfl)
theorem WH{c:Crt}(h:C2 c=true):0≤c.se∧0≤c.fr∧0≤c.to∧0≤c.pa:=by
 unfold C2 at h;simp only[Bool.and_eq_true,Cv]at h;obtain⟨_,hse,hfr,hto,_,_,hpa,_⟩:=h;omega
theorem nx{c:Crt}{b:List Nat}(h:c.ky=[]): ∀o,GF c b o=none
 |none=>rfl
 |some (r,t)=>by
  have e:C2 c=false:=by unfold C2;rw[h];rfl
  rw[GF,e];rfl
theorem fV:sgT []=none:=by decide+kernel
theorem nj{n:Tr}(h:Az (AC [6,1] (AC [0] n))=[]∨Az (AC [2] n)=[]):Gz n b=none:=by
 have e:GF (GJ n) b (sgT (BO (AC [2] n)))=none:=by
  rcases h with h|h
  ·exact nx (by show BO _=[];rw[BO,h];rfl) _
  ·rw[BO,h];show GF (GJ n) b (sgT [])=none;rw[fV];rfl
 rw[Gz,e];cases !(wiB (CX n) 0 3 && wiB (Cl n) 0 3)<;>rfl
section
variable{w:World}{base:Nat}{ρ:Nat→Nm}{S:Nat→Nat→Prop}{m:Mem}{rd:List Nat}{t:Tr}
theorem LM(i:Nat)(hok:t.ok)(hR:RelOn base ρ S w (restr rd m))(hi:i∈rd)(h1:m i=some (.dat (AU t))):Calls prog 37 (SV.cs ρ [.d i]).toArray w fun e w'=>e= .returned (.int .i64 (Ax t))∧Bw w w':=by
 obtain⟨c,e1,d1⟩:=C9 hR hi h1;simp only[SV.cs,SV.c,e1];exact d7 w hok d1
theorem UH(i:Nat)(hok:t.ok)(hR:RelOn base ρ S w (restr rd m))(hi:i∈rd)(h1:m i=some (.dat (AU t))):Calls prog 36 (SV.cs ρ [.d i]).toArray w fun e w'=> ∃v,e= .returned v∧Ae w w' v (AU (Bt t))∧Bw w w':=by
 obtain⟨c,e1,d1⟩:=C9 hR hi h1;simp only[SV.cs,SV.c,e1];exact dh w hok d1
end
theorem fu(h8: ∀x∈b,x<256)(hbl:b.length≤1048576)(hno:decide ((rdT b).2≠0)=true→Rr=none)(htail: ∀n0 E,(rdT b).1=n0→(rdT b).2=E→decide (E≠0)=false→n0.ok→ ∀f:Nat→Value,VOk prog w ⟨(.v (.string (AB b)):: .v (f 1):: .p 2 0:: .p 3 0:: .v (f 4):: .p 5 0:: .v (f 6):: .v (f 7):: .p 8 0:: .v (.string (AB (Az (AC [6,1] (AC [0] n0))))):: .v (.string (AB (Az (AC [2] n0)))):: fv f 126 11 []),AJ [(8,.cells [.fn (AN 0) (.d 28),.fn (AN 1) (.d 28),.fn (AN 2) (.d 28)] 71),(28,.dat (AU (AC [0] n0))),(5,.cells (zs 64) 22),(3,.cells (zs 64) 22),(2,.cells [.v (.int .i64 0),.v (.string (ByteArray.mk #[])),.v (.string (ByteArray.mk #[])),.v (.int .i64 0),.v (.int .i64 0),.v (.string (ByteArray.mk #[])),.v (.bool false),.v (.int .i64 0),.v (.int .i64 0)] 38)]⟩ (Cm 6 (Ct f13)) (QB prog f13 w (fun e w'=>e= .returned (Gd Rr)∧Bw w w'))):Calls prog 13 #[.string (AB b)] w (fun e w'=>e= .returned (Gd Rr)∧Bw w w'):=by
 obtain⟨n0,hT⟩: ∃n0,(rdT b).1=n0:=⟨_,rfl⟩
 obtain⟨E,hE⟩: ∃E,(rdT b).2=E:=⟨_,rfl⟩
 have hok:=I3 h8 hbl;rw[hT]at hok
 have hrd: ∀w',Bw w w'→Calls prog 27 #[.string (AB b)] w' fun e w2=> ∃u,e= .returned (.tuple #[u,.int .i64 E])∧Ae w' w2 u (AU n0)∧Bw w' w2:=fun w' _=>by
  have:=R5 w' h8 hbl;rw[hT,hE]at this;exact this
 obtain⟨p,h_E⟩: ∃p,decide (E≠0)=p:=⟨_,rfl⟩
 go_enter func13,ntmps13
 refine Dn ?_
 refine MH ?_;refine KH ?_
 refine KH ?_
 refine AA (by exact DL (D:=AU n0) (ys:=[.int .i64 E]) [] rfl rfl gg rfl (eo func27) (fun ρ S w' hb hR=>hrd w' hb)) ?_;iterate 3 refine AL ?_
 refine EK ?_;refine SG ?_;iterate 6 refine AL ?_
 refine AA (by exact BB rfl gg rfl rfl h_E) ?_;refine q_k ?_;cases p
 ·iterate 4 refine q_k ?_
  refine q_9 ?_;refine AA (by exact BL rfl rfl gg rfl (e:=3) (l:=CE [0]) rfl (by decide) (fun _=>by kernel_rfl)) ?_;refine AA (by exact A0 (AU (AC [0] n0)) [19,27] rfl rfl gg rfl (eo func35) (fun ρ S w' hb hR=>Fb 19 27 [0] hR (by simp) (by simp) rfl rfl)) ?_;refine EK ?_;refine SG ?_;iterate 3 refine q_k ?_
  refine q_9 ?_;refine AA (by exact BL rfl rfl gg rfl (e:=3) (l:=CE [6,1]) rfl (by decide) (fun _=>by kernel_rfl)) ?_;refine AA (by exact A0 (AU (AC [6,1] (AC [0] n0))) [28,30] rfl rfl gg rfl (eo func35) (fun ρ S w' hb hR=>Fb 28 30 [6,1] hR (by simp) (by simp) rfl rfl)) ?_;refine AA (by exact QD rfl gg rfl rfl) ?_;refine q_9 ?_;refine SR ?_;refine AA (by exact A0 (AU (AC [2] n0)) [19,34] rfl rfl gg rfl (eo func35) (fun ρ S w' hb hR=>Fb 19 34 [2] hR (by simp) (by simp) rfl rfl)) ?_;refine AA (by exact QD rfl gg rfl rfl) ?_;iterate 3 refine AL ?_
  refine Ea (fun i=>i==0||i==2||i==3||i==5||i==8||i==9||i==10) [6,19,27,30,31,34,35] (fun f=>by simp[B0];exact rfl) (by simp[BQ];exact rfl) fun f=> ?_
  exact htail n0 E hT hE h_E hok f
 ·refine q_k ?_
  have hz:=hno (by rw[hE];exact h_E);subst hz;iterate 2 refine q_k ?_
  refine KQ ?_;refine C4 ?_;refine Fz ?_;refine Ci ?_
  exact AG (AD (BX results13 (Am rfl rfl underlying38 rfl sizeOf38 rfl) (Ac rfl rfl underlying22 rfl sizeOf22 rfl rfl) (AF rfl)) fun _ _ hr=>⟨rfl,hr.1⟩)
theorem ft(hok:n0.ok)(hno:(Az (AC [6,1] (AC [0] n0))=[]∨Az (AC [2] n0)=[])→Rr=none)(htail:1≤(Az (AC [2] n0)).length→ ∀ktg kbd kks,Bt (AC [0,2] (AC [7,0] (AC [0] n0)))=Tr.mk ktg kbd kks→ ∀f:Nat→Value,VOk prog w ⟨(.v (.string (AB b)):: .v (f 1):: .p 2 0:: .p 3 0:: .v (f 4):: .p 5 0:: .v (f 6):: .v (f 7):: .v (f 8):: .v (f 9):: .v (.string (AB (Az (AC [2] n0)))):: .p 11 0:: .v (.int .i64 (CX n0)):: .v (.int .i64 (Cl n0)):: .p 14 0:: fv f 122 15 []),AJ [(14,.cells [.v (.int .i64 (Ax (AC [1] (AC [0] n0)))),.v (.string (AB (Az (AC [3,0,1] (AC [0] n0))))),.v (.string (AB (Az (AC [5,0,1] (AC [0] n0))))),.v (.int .i64 (Ax (AC [4,0] (AC [0] n0)))),.v (.int .i64 (Ax (AC [4,1] (AC [0] n0)))),.v (.string (AB (BO (AC [6,1] (AC [0] n0))))),.v (.bool false),.v (.int .i64 0),.v (.int .i64 0)] 38),(11,.cells [.fn (AN 0) (.d 48),.fn (AN 1) (.d 48),.fn (AN 2) (.d 48)] 71),(48,.dat (AU (.mk ktg kbd kks))),(5,.cells (zs 64) 22),(3,.cells (zs 64) 22),(2,.cells [.v (.int .i64 0),.v (.string (ByteArray.mk #[])),.v (.string (ByteArray.mk #[])),.v (.int .i64 0),.v (.int .i64 0),.v (.string (ByteArray.mk #[])),.v (.bool false),.v (.int .i64 0),.v (.int .i64 0)] 38)]⟩ (Cm 10 (Ct f13)) (QB prog f13 w (fun e w'=>e= .returned (Gd Rr)∧Bw w w')))(f:Nat→Value):VOk prog w ⟨(.v (.string (AB b)):: .v (f 1):: .p 2 0:: .p 3 0:: .v (f 4):: .p 5 0:: .v (f 6):: .v (f 7):: .p 8 0:: .v (.string (AB (Az (AC [6,1] (AC [0] n0))))):: .v (.string (AB (Az (AC [2] n0)))):: fv f 126 11 []),AJ [(8,.cells [.fn (AN 0) (.d 28),.fn (AN 1) (.d 28),.fn (AN 2) (.d 28)] 71),(28,.dat (AU (AC [0] n0))),(5,.cells (zs 64) 22),(3,.cells (zs 64) 22),(2,.cells [.v (.int .i64 0),.v (.string (ByteArray.mk #[])),.v (.string (ByteArray.mk #[])),.v (.int .i64 0),.v (.int .i64 0),.v (.string (ByteArray.mk #[])),.v (.bool false),.v (.int .i64 0),.v (.int .i64 0)] 38)]⟩ (Cm 6 (Ct f13)) (QB prog f13 w (fun e w'=>e= .returned (Gd Rr)∧Bw w w')):=by
 simp only[fv,zs,Nat.reduceAdd]
 obtain⟨ktg,kbd,kks,hK⟩: ∃tg bd ks,Bt (AC [7,0,0,2] (AC [0] n0))=Tr.mk tg bd ks:=by cases Bt (AC [7,0,0,2] (AC [0] n0))with|mk tg bd ks=>exact⟨tg,bd,ks,rfl⟩
 have hk8:=(EY (Af [6,1] (Af [0] hok))).1;have hs8:=(EY (Af [2] hok)).1;obtain⟨p,h_p⟩: ∃p,decide (Az (AC [6,1] (AC [0] n0))=[])=p:=⟨_,rfl⟩
 obtain⟨q,h_q⟩: ∃p,decide (Az (AC [2] n0)=[])=p:=⟨_,rfl⟩
 iterate 2 refine q_k ?_
 have h3:(p=false∧q=false)∨(p=true∨(p=false∧q=true)):=by cases p<;>cases q<;>simp
 rcases h3 with⟨rfl,rfl⟩|h3
 ·have hk1:1≤(Az (AC [6,1] (AC [0] n0))).length:=List.length_pos_iff.2 (of_decide_eq_false h_p)
  have hs1:1≤(Az (AC [2] n0)).length:=List.length_pos_iff.2 (of_decide_eq_false h_q);iterate 2 refine AL ?_
  refine AA (by exact AK rfl gg rfl rfl (fun w=>E4 h_p hk8 (by simp) _ _ w)) ?_;refine Gf ?_;refine AA (by first|exact Ev.skip (fun _=>rfl)|exact AK rfl (fun _=>rfl) rfl rfl (fun w=>E4 h_q hs8 (by simp) _ _ w)) ?_;refine KJ ?_
  refine q_9 ?_;refine AA (by exact BL rfl rfl gg rfl (e:=3) (l:=CE [7,0,0,2]) rfl (by decide) (fun _=>by kernel_rfl)) ?_;refine AA (by exact A0 (AU (AC [7,0,0,2] (AC [0] n0))) [28,46] rfl rfl gg rfl (eo func35) (fun ρ S w' hb hR=>Fb 28 46 [7,0,0,2] hR (by simp) (by simp) rfl rfl)) ?_;refine AA (by exact Al (D:=AU (.mk ktg kbd kks)) [47] rfl rfl gg rfl (eo func36) (fun ρ S w' hb hR=>hK▸UH 47 (Af _ (Af _ hok)) hR (by simp) rfl)) ?_;refine EK ?_;refine SG ?_;iterate 3 refine q_k ?_
  refine q_9 ?_;refine AA (by exact BL rfl rfl gg rfl (e:=3) (l:=CE [7,0,1,2]) rfl (by decide) (fun _=>by kernel_rfl)) ?_;refine AA (by exact A0 (AU (AC [7,0,1,2] (AC [0] n0))) [28,50] rfl rfl gg rfl (eo func35) (fun ρ S w' hb hR=>Fb 28 50 [7,0,1,2] hR (by simp) (by simp) rfl rfl)) ?_;refine AA (by exact Al (D:=AU (Bt (AC [7,0,1,2] (AC [0] n0)))) [51] rfl rfl gg rfl (eo func36) (fun ρ S w' hb hR=>UH 51 (Af _ (Af _ hok)) hR (by simp) rfl)) ?_;refine AA (by exact Aj (v:= .int .i64 (CX n0)) [52] rfl gg rfl (eo func37) (fun ρ S w' hb hR=>mA n0▸LM 52 (K9 (Af _ (Af _ hok))) hR (by simp) rfl)) ?_;refine q_9 ?_;refine AA (by exact BL rfl rfl gg rfl (e:=3) (l:=CE [7,0,2,1]) rfl (by decide) (fun _=>by kernel_rfl)) ?_;refine AA (by exact A0 (AU (AC [7,0,2,1] (AC [0] n0))) [28,55] rfl rfl gg rfl (eo func35) (fun ρ S w' hb hR=>Fb 28 55 [7,0,2,1] hR (by simp) (by simp) rfl rfl)) ?_;refine AA (by exact Al (D:=AU (Bt (AC [7,0,2,1] (AC [0] n0)))) [56] rfl rfl gg rfl (eo func36) (fun ρ S w' hb hR=>UH 56 (Af _ (Af _ hok)) hR (by simp) rfl)) ?_;refine AA (by exact Aj (v:= .int .i64 (Cl n0)) [57] rfl gg rfl (eo func37) (fun ρ S w' hb hR=>nK n0▸LM 57 (K9 (Af _ (Af _ hok))) hR (by simp) rfl)) ?_;iterate 5 refine AL ?_
  refine q_9 ?_;refine On ?_;refine AA (by exact A0 (AU (AC [1] (AC [0] n0))) [28,60] rfl rfl gg rfl (eo func35) (fun ρ S w' hb hR=>Fb 28 60 [1] hR (by simp) (by simp) rfl rfl)) ?_;refine AA (by exact Aj (v:= .int .i64 (Ax (AC [1] (AC [0] n0)))) [61] rfl gg rfl (eo func37) (fun ρ S w' hb hR=>LM 61 (Af _ (Af _ hok)) hR (by simp) rfl)) ?_;refine q_9 ?_;refine AA (by exact BL rfl rfl gg rfl (e:=3) (l:=CE [3,0,1]) rfl (by decide) (fun _=>by kernel_rfl)) ?_;refine AA (by exact A0 (AU (AC [3,0,1] (AC [0] n0))) [28,64] rfl rfl gg rfl (eo func35) (fun ρ S w' hb hR=>Fb 28 64 [3,0,1] hR (by simp) (by simp) rfl rfl)) ?_;refine AA (by exact QD rfl gg rfl rfl) ?_;refine q_9 ?_;refine AA (by exact BL rfl rfl gg rfl (e:=3) (l:=CE [4,0]) rfl (by decide) (fun _=>by kernel_rfl)) ?_;refine AA (by exact A0 (AU (AC [4,0] (AC [0] n0))) [28,68] rfl rfl gg rfl (eo func35) (fun ρ S w' hb hR=>Fb 28 68 [4,0] hR (by simp) (by simp) rfl rfl)) ?_;refine AA (by exact Aj (v:= .int .i64 (Ax (AC [4,0] (AC [0] n0)))) [69] rfl gg rfl (eo func37) (fun ρ S w' hb hR=>LM 69 (Af _ (Af _ hok)) hR (by simp) rfl)) ?_;refine q_9 ?_;refine AA (by exact BL rfl rfl gg rfl (e:=3) (l:=CE [4,1]) rfl (by decide) (fun _=>by kernel_rfl)) ?_;refine AA (by exact A0 (AU (AC [4,1] (AC [0] n0))) [28,72] rfl rfl gg rfl (eo func35) (fun ρ S w' hb hR=>Fb 28 72 [4,1] hR (by simp) (by simp) rfl rfl)) ?_;refine AA (by exact Aj (v:= .int .i64 (Ax (AC [4,1] (AC [0] n0)))) [73] rfl gg rfl (eo func37) (fun ρ S w' hb hR=>LM 73 (Af _ (Af _ hok)) hR (by simp) rfl)) ?_;refine q_9 ?_;refine AA (by exact BL rfl rfl gg rfl (e:=3) (l:=CE [5,0,1]) rfl (by decide) (fun _=>by kernel_rfl)) ?_;refine AA (by exact A0 (AU (AC [5,0,1] (AC [0] n0))) [28,76] rfl rfl gg rfl (eo func35) (fun ρ S w' hb hR=>Fb 28 76 [5,0,1] hR (by simp) (by simp) rfl rfl)) ?_;refine AA (by exact QD rfl gg rfl rfl) ?_;refine AL ?_;refine AA (by exact IT (k:=1) (b':=BO (AC [6,1] (AC [0] n0))) rfl gg rfl rfl underlying9 hk1 rfl) ?_;refine AA (by exact A6 rfl gg rfl (qc _ _ _ _ _ _)) ?_;refine MH ?_;refine Fz ?_;refine q_k ?_;refine Ea (fun i=>i==0||i==2||i==3||i==5||i==10||i==11||i==12||i==13||i==14) [8,28,46,47,50,51,52,55,56,57,60,61,64,65,68,69,72,73,76,77] (fun f=>by simp[B0];exact rfl) (by simp[BQ];exact rfl) fun f=> ?_
  exact htail hs1 ktg kbd kks ((rQ n0).symm.trans hK) f
 ·have hz:Rr=none:=hno (by
   rcases h3 with rfl|⟨rfl,rfl⟩
   ·exact .inl (of_decide_eq_true h_p)
   ·exact .inr (of_decide_eq_true h_q))
  subst hz;rcases h3 with rfl|⟨rfl,rfl⟩<;>
  (
   iterate 2 refine AL ?_
   refine AA (by exact AK rfl gg rfl rfl (fun w=>E4 h_p hk8 (by simp) _ _ w)) ?_;refine Gf ?_;refine AA (by first|exact Ev.skip (fun _=>rfl)|exact AK rfl (fun _=>rfl) rfl rfl (fun w=>E4 h_q hs8 (by simp) _ _ w)) ?_;refine Dz ?_
   refine KQ ?_;refine C4 ?_;refine Fz ?_;refine Ci ?_
   exact AG (AD (BX results13 (Am rfl rfl underlying38 rfl sizeOf38 rfl) (Ac rfl rfl underlying22 rfl sizeOf22 rfl rfl) (AF rfl)) fun _ _ hr=>⟨rfl,hr.1⟩)
  )
theorem fq{ktg:Int}(hok:n0.ok)(hK:Bt (AC [0,2] (AC [7,0] (AC [0] n0)))=Tr.mk ktg kbd kks)(htail: ∀g pa,GJ n0=Jj n0 g pa→ ∀f:Nat→Value,VOk prog w ⟨(.v (.string (AB b)):: .v (f 1):: .p 2 0:: .p 3 0:: .v (f 4):: .p 5 0:: .v (f 6):: .v (f 7):: .v (f 8):: .v (f 9):: .v (.string (AB (Az (AC [2] n0)))):: .v (f 11):: .v (.int .i64 (CX n0)):: .v (.int .i64 (Cl n0)):: .p 14 0:: fv f 122 15 []),AJ [(14,.cells [.v (.int .i64 (Ax (AC [1] (AC [0] n0)))),.v (.string (AB (Az (AC [3,0,1] (AC [0] n0))))),.v (.string (AB (Az (AC [5,0,1] (AC [0] n0))))),.v (.int .i64 (Ax (AC [4,0] (AC [0] n0)))),.v (.int .i64 (Ax (AC [4,1] (AC [0] n0)))),.v (.string (AB (BO (AC [6,1] (AC [0] n0))))),.v (.bool g),.v (.int .i64 pa),.v (.int .i64 0)] 38),(5,.cells (zs 64) 22),(3,.cells (zs 64) 22),(2,.cells [.v (.int .i64 0),.v (.string (ByteArray.mk #[])),.v (.string (ByteArray.mk #[])),.v (.int .i64 0),.v (.int .i64 0),.v (.string (ByteArray.mk #[])),.v (.bool false),.v (.int .i64 0),.v (.int .i64 0)] 38)]⟩ (Cm 11 (Ct f13)) (QB prog f13 w (fun e w'=>e= .returned (Gd Rr)∧Bw w w')))(f:Nat→Value):VOk prog w ⟨(.v (.string (AB b)):: .v (f 1):: .p 2 0:: .p 3 0:: .v (f 4):: .p 5 0:: .v (f 6):: .v (f 7):: .v (f 8):: .v (f 9):: .v (.string (AB (Az (AC [2] n0)))):: .p 11 0:: .v (.int .i64 (CX n0)):: .v (.int .i64 (Cl n0)):: .p 14 0:: fv f 122 15 []),AJ [(14,.cells [.v (.int .i64 (Ax (AC [1] (AC [0] n0)))),.v (.string (AB (Az (AC [3,0,1] (AC [0] n0))))),.v (.string (AB (Az (AC [5,0,1] (AC [0] n0))))),.v (.int .i64 (Ax (AC [4,0] (AC [0] n0)))),.v (.int .i64 (Ax (AC [4,1] (AC [0] n0)))),.v (.string (AB (BO (AC [6,1] (AC [0] n0))))),.v (.bool false),.v (.int .i64 0),.v (.int .i64 0)] 38),(11,.cells [.fn (AN 0) (.d 48),.fn (AN 1) (.d 48),.fn (AN 2) (.d 48)] 71),(48,.dat (AU (.mk ktg kbd kks))),(5,.cells (zs 64) 22),(3,.cells (zs 64) 22),(2,.cells [.v (.int .i64 0),.v (.string (ByteArray.mk #[])),.v (.string (ByteArray.mk #[])),.v (.int .i64 0),.v (.int .i64 0),.v (.string (ByteArray.mk #[])),.v (.bool false),.v (.int .i64 0),.v (.int .i64 0)] 38)]⟩ (Cm 10 (Ct f13)) (QB prog f13 w (fun e w'=>e= .returned (Gd Rr)∧Bw w w')):=by
 simp only[fv,zs,Nat.reduceAdd]
 have hkok:(Tr.mk ktg kbd kks).ok:=hK▸K9 (Af _ (Af _ (Af _ hok)));obtain⟨g,h_g⟩: ∃p,decide (((kks.length:Nat):Int)>0)=p:=⟨_,rfl⟩
 iterate 3 refine q_k ?_
 refine HJ ?_;refine AA (by exact Jg rfl gg rfl underlying69 (Mh rfl)) ?_;refine AA (by exact BV rfl gg rfl rfl h_g) ?_;refine q_k ?_;cases g
 ·iterate 2 refine q_k ?_
  refine Ea (fun i=>i==0||i==2||i==3||i==5||i==10||i==12||i==13||i==14) [11,48,88,89] (fun f=>by simp[B0];exact rfl) (by simp[BQ];exact rfl) fun f=> ?_
  first|exact htail _ _ (QG hK h_g) f|exact htail _ _ (QH hK h_g) f
 ·iterate 3 refine q_k ?_
  refine SB ?_;refine AA (by exact BA rfl gg rfl rfl rfl sizeOf4 rfl (by simp) rfl) ?_;iterate 2 refine q_k ?_
  refine q_9 ?_;refine On ?_;refine AA (by exact A0 (AU (AC [1] (.mk ktg kbd kks))) [48,88] rfl rfl gg rfl (eo func35) (fun ρ S w' hb hR=>Fb 48 88 [1] hR (by simp) (by simp) rfl rfl)) ?_;refine AA (by exact Aj (v:= .int .i64 (Ax (AC [1] (.mk ktg kbd kks)))) [89] rfl gg rfl (eo func37) (fun ρ S w' hb hR=>LM 89 (Af _ hkok) hR (by simp) rfl)) ?_;refine D2 ?_;refine O9 ?_;refine q_k ?_;refine Ea (fun i=>i==0||i==2||i==3||i==5||i==10||i==12||i==13||i==14) [11,48,88,89] (fun f=>by simp[B0];exact rfl) (by simp[BQ];exact rfl) fun f=> ?_
  first|exact htail _ _ (QG hK h_g) f|exact htail _ _ (QH hK h_g) f
theorem fp{g:Bool}{pa:Int}(hbad:(wiB (CX n0) 0 3 && wiB (Cl n0) 0 3)=false→Rr=none)(htail:(0≤CX n0∧CX n0≤3)→(0≤Cl n0∧Cl n0≤3)→ ∀c,c=Jj n0 g pa→ ∀f:Nat→Value,VOk prog w ⟨(.v (.string (AB b)):: .v (f 1):: .p 2 0:: .p 3 0:: .v (f 4):: .p 5 0:: .v (f 6):: .v (f 7):: .v (f 8):: .v (f 9):: .v (.string (AB (Az (AC [2] n0)))):: .v (f 11):: .v (f 12):: .v (f 13):: .p 14 0:: fv f 122 15 []),AJ [(14,.cells [.v (.int .i64 c.se),.v (.string (AB c.is)),.v (.string (AB c.su)),.v (.int .i64 c.fr),.v (.int .i64 c.to),.v (.string (AB c.ky)),.v (.bool c.ca),.v (.int .i64 c.pa),.v (.int .i64 c.us)] 38),(5,.cells (zs 64) 22),(3,.cells (zs 64) 22),(2,.cells [.v (.int .i64 0),.v (.string (ByteArray.mk #[])),.v (.string (ByteArray.mk #[])),.v (.int .i64 0),.v (.int .i64 0),.v (.string (ByteArray.mk #[])),.v (.bool false),.v (.int .i64 0),.v (.int .i64 0)] 38)]⟩ (Cm 13 (Ct f13)) (QB prog f13 w (fun e w'=>e= .returned (Gd Rr)∧Bw w w')))(f:Nat→Value):VOk prog w ⟨(.v (.string (AB b)):: .v (f 1):: .p 2 0:: .p 3 0:: .v (f 4):: .p 5 0:: .v (f 6):: .v (f 7):: .v (f 8):: .v (f 9):: .v (.string (AB (Az (AC [2] n0)))):: .v (f 11):: .v (.int .i64 (CX n0)):: .v (.int .i64 (Cl n0)):: .p 14 0:: fv f 122 15 []),AJ [(14,.cells [.v (.int .i64 (Ax (AC [1] (AC [0] n0)))),.v (.string (AB (Az (AC [3,0,1] (AC [0] n0))))),.v (.string (AB (Az (AC [5,0,1] (AC [0] n0))))),.v (.int .i64 (Ax (AC [4,0] (AC [0] n0)))),.v (.int .i64 (Ax (AC [4,1] (AC [0] n0)))),.v (.string (AB (BO (AC [6,1] (AC [0] n0))))),.v (.bool g),.v (.int .i64 pa),.v (.int .i64 0)] 38),(5,.cells (zs 64) 22),(3,.cells (zs 64) 22),(2,.cells [.v (.int .i64 0),.v (.string (ByteArray.mk #[])),.v (.string (ByteArray.mk #[])),.v (.int .i64 0),.v (.int .i64 0),.v (.string (ByteArray.mk #[])),.v (.bool false),.v (.int .i64 0),.v (.int .i64 0)] 38)]⟩ (Cm 11 (Ct f13)) (QB prog f13 w (fun e w'=>e= .returned (Gd Rr)∧Bw w w')):=by
 simp only[fv,zs,Nat.reduceAdd]
 obtain⟨a,h_a⟩: ∃p,decide (CX n0<0)=p:=⟨_,rfl⟩
 obtain⟨b1,h_b⟩: ∃p,decide (CX n0>3)=p:=⟨_,rfl⟩
 obtain⟨d,h_d⟩: ∃p,decide (Cl n0<0)=p:=⟨_,rfl⟩
 obtain⟨e,h_e⟩: ∃p,decide (Cl n0>3)=p:=⟨_,rfl⟩
 iterate 2 refine q_k ?_
 have h3:(a=false∧b1=false∧d=false∧e=false)∨(a=true∨(a=false∧b1=true)∨(a=false∧b1=false∧d=true)∨(a=false∧b1=false∧d=false∧e=true)):=by cases a<;>cases b1<;>cases d<;>cases e<;>simp
 rcases h3 with⟨rfl,rfl,rfl,rfl⟩|h3
 ·have h1:0≤CX n0∧CX n0≤3:=by have:=of_decide_eq_false h_a;have:=of_decide_eq_false h_b;omega
  have h2:0≤Cl n0∧Cl n0≤3:=by have:=of_decide_eq_false h_d;have:=of_decide_eq_false h_e;omega
  iterate 2 refine AL ?_
  refine AA (by exact BM rfl gg rfl rfl h_a) ?_;refine Gf ?_;refine SJ ?_;refine D1 ?_;refine AA (by first|exact Ev.skip (fun _=>rfl)|exact BM rfl (fun _=>rfl) rfl rfl h_d) ?_;refine D1 ?_;refine AA (by first|exact Ev.skip (fun _=>rfl)|exact BV rfl (fun _=>rfl) rfl rfl h_e) ?_;refine q_0 ?_;iterate 7 refine AL ?_
  refine AA (by exact AK rfl gg rfl rfl (fun w=>lW h2.1 h2.2 _ _ w)) ?_;refine AA (by exact AK rfl gg rfl rfl (fun w=>rj h2.1 h2.2 h1.1 h1.2 _ _ w)) ?_;refine D2 ?_;refine O9 ?_;refine q_k ?_;refine Ea (fun i=>i==0||i==2||i==3||i==5||i==10||i==14) [] (fun f=>by simp[B0];exact rfl) (by simp[BQ];exact rfl) fun f=> ?_
  exact htail h1 h2 _ rfl f
 ·have hz:Rr=none:=hbad (by
   rw[Bool.and_eq_false_iff];rcases h3 with rfl|⟨rfl,rfl⟩|⟨rfl,rfl,rfl⟩|⟨rfl,rfl,rfl,rfl⟩
   ·exact .inl (Bool.eq_false_iff.2 fun c=>by have:=Cv.1 c;have:=of_decide_eq_true h_a;omega)
   ·exact .inl (Bool.eq_false_iff.2 fun c=>by have:=Cv.1 c;have:=of_decide_eq_true h_b;omega)
   ·exact .inr (Bool.eq_false_iff.2 fun c=>by have:=Cv.1 c;have:=of_decide_eq_true h_d;omega)
   ·exact .inr (Bool.eq_false_iff.2 fun c=>by have:=Cv.1 c;have:=of_decide_eq_true h_e;omega))
  subst hz;rcases h3 with rfl|⟨rfl,rfl⟩|⟨rfl,rfl,rfl⟩|⟨rfl,rfl,rfl,rfl⟩<;>
  (
   iterate 2 refine AL ?_
   refine AA (by exact BM rfl gg rfl rfl h_a) ?_;refine Gf ?_;refine SJ ?_;refine D1 ?_;refine AA (by first|exact Ev.skip (fun _=>rfl)|exact BM rfl (fun _=>rfl) rfl rfl h_d) ?_;refine D1 ?_;refine AA (by first|exact Ev.skip (fun _=>rfl)|exact BV rfl (fun _=>rfl) rfl rfl h_e) ?_;refine Dz ?_
   refine KQ ?_;refine C4 ?_;refine Fz ?_;refine Ci ?_
   exact AG (AD (BX results13 (Am rfl rfl underlying38 rfl sizeOf38 rfl) (Ac rfl rfl underlying22 rfl sizeOf22 rfl rfl) (AF rfl)) fun _ _ hr=>⟨rfl,hr.1⟩)
  )
theorem fo{c:Crt}(h8: ∀x∈b,x<256)(hok:n0.ok)(hs1:1≤(Az (AC [2] n0)).length)(u0:0≤c.us)(um:c.us≤15)(i8: ∀x∈c.is,x<256)(il:c.is.length≤1048576)(s8: ∀x∈c.su,x<256)(sl:c.su.length≤1048576)(k8: ∀x∈c.ky,x<256)(hRr:Rr=GF c b (sgT (BO (AC [2] n0))))(f:Nat→Value):VOk prog w ⟨(.v (.string (AB b)):: .v (f 1):: .p 2 0:: .p 3 0:: .v (f 4):: .p 5 0:: .v (f 6):: .v (f 7):: .v (f 8):: .v (f 9):: .v (.string (AB (Az (AC [2] n0)))):: .v (f 11):: .v (f 12):: .v (f 13):: .p 14 0:: fv f 122 15 []),AJ [(14,.cells [.v (.int .i64 c.se),.v (.string (AB c.is)),.v (.string (AB c.su)),.v (.int .i64 c.fr),.v (.int .i64 c.to),.v (.string (AB c.ky)),.v (.bool c.ca),.v (.int .i64 c.pa),.v (.int .i64 c.us)] 38),(5,.cells (zs 64) 22),(3,.cells (zs 64) 22),(2,.cells [.v (.int .i64 0),.v (.string (ByteArray.mk #[])),.v (.string (ByteArray.mk #[])),.v (.int .i64 0),.v (.int .i64 0),.v (.string (ByteArray.mk #[])),.v (.bool false),.v (.int .i64 0),.v (.int .i64 0)] 38)]⟩ (Cm 13 (Ct f13)) (QB prog f13 w (fun e w'=>e= .returned (Gd Rr)∧Bw w w')):=by
 simp only[fv,zs,Nat.reduceAdd]
 have hsg:=Af [2] hok;refine q_k ?_;rcases h_s:sgT (BO (AC [2] n0))with _|⟨r,t⟩<;>rw[h_s]at hRr
 ·subst hRr
  iterate 2 refine AL ?_
  refine AA (by exact IT (k:=1) (b':=BO (AC [2] n0)) rfl gg rfl rfl underlying9 hs1 rfl) ?_;refine Wv ?_;iterate 3 refine AL ?_
  refine Ef ?_;refine ME ?_
  refine Ch ?_;refine Gj ?_;refine Oz ?_;refine Gg ?_;refine Gj ?_;refine H3 ?_;refine O1 ?_;refine DY ?_;refine Ot ?_;refine Dz ?_
  refine KQ ?_;refine C4 ?_;refine Fz ?_;refine Ci ?_
  exact AG (AD (BX results13 (Am rfl rfl underlying38 rfl sizeOf38 rfl) (Ac rfl rfl underlying22 rfl sizeOf22 rfl rfl) (AF rfl)) fun _ _ hr=>⟨rfl,hr.1⟩)
 ·skip
  iterate 2 refine AL ?_
  refine AA (by exact IT (k:=1) (b':=BO (AC [2] n0)) rfl gg rfl rfl underlying9 hs1 rfl) ?_;refine Wv ?_;iterate 3 refine AL ?_
  refine Ef ?_;refine KG ?_
  obtain⟨z,h_r⟩: ∃z,C2 c=z:=⟨_,rfl⟩
  obtain⟨y,h_y⟩: ∃y,decide ((wrT (c.whole r t)).1≠b)=y:=⟨_,rfl⟩
  have h_y2:decide ((wrT (c.whole r t)).1=b)= !y:=by rw[←h_y];simp
  rw[GF,h_r,h_y2]at hRr;have h3:z=false∨(z=true∧y=true)∨(z=true∧y=false):=by cases z<;>cases y<;>simp
  rcases h3 with rfl|⟨rfl,rfl⟩|⟨rfl,rfl⟩
  ·simp only[Bool.not_false,cond_true]at hRr
   subst hRr;iterate 2 refine AL ?_
   refine Ch ?_;refine Gj ?_;refine Oz ?_;refine Gg ?_;refine Gj ?_;refine H3 ?_;refine O1 ?_;refine DY ?_;refine Ot ?_;refine Dz ?_
   refine KQ ?_;refine C4 ?_;refine Fz ?_;refine Ci ?_
   exact AG (AD (BX results13 (Am rfl rfl underlying38 rfl sizeOf38 rfl) (Ac rfl rfl underlying22 rfl sizeOf22 rfl rfl) (AF rfl)) fun _ _ hr=>⟨rfl,hr.1⟩)
  ·simp only[Bool.not_true,Bool.not_false,cond_false,cond_true]at hRr
   subst hRr;have hF:=KD i8 s8 k8 h_r;have hP:=WH h_r;iterate 2 refine AL ?_
   refine Ch ?_;refine Gj ?_;refine Oz ?_;refine Gg ?_;refine Gj ?_;refine H3 ?_;refine O1 ?_;refine DY ?_;refine Ot ?_;refine Dz ?_
   refine KQ ?_;refine C4 ?_;refine Fz ?_;refine Ci ?_
   exact AG (AD (BX results13 (Am rfl rfl underlying38 rfl sizeOf38 rfl) (Ac rfl rfl underlying22 rfl sizeOf22 rfl rfl) (AF rfl)) fun _ _ hr=>⟨rfl,hr.1⟩)
  ·simp only[Bool.not_true,Bool.not_false,cond_false]at hRr
   subst hRr;have hF:=KD i8 s8 k8 h_r;have hP:=WH h_r;iterate 2 refine AL ?_
   refine Ch ?_;refine Gj ?_;refine Oz ?_;refine Gg ?_;refine Gj ?_;refine H3 ?_;refine O1 ?_;refine DY ?_;refine Ot ?_;refine KJ ?_
   refine Wq ?_;refine C4 ?_;refine Fz ?_;refine Ci ?_
   exact AG (AD (BX results13 (Am rfl rfl underlying38 rfl sizeOf38 rfl) (Ac rfl rfl underlying22 rfl sizeOf22 rfl rfl) (AF rfl)) fun _ _ hr=>⟨rfl,hr.1⟩)
theorem Wb(h8: ∀x∈b,x<256)(hbl:b.length≤1048576):Calls prog 13 #[.string (AB b)] w fun e w'=>e= .returned (Gd (rdC b))∧Bw w w':=by
 refine fu w h8 hbl (fun h=>by rw[rdC,h];rfl) fun n0 E hT hE h_E hok f=> ?_
 have e1:rdC b=Gz n0 b:=by rw[rdC,hT,hE,h_E];rfl
 refine ft w hok (fun h=>by rw[e1,nj h]) (fun hs1 ktg kbd kks hK f=> ?_) f;refine fq w hok hK (fun g pa hC f=> ?_) f;refine fp w (fun h=>by rw[e1,Gz,h];rfl) (fun h1 h2 c hc f=> ?_) f;subst hc;have his:=EY (Af [3,0,1] (Af [0] hok));have hsu:=EY (Af [5,0,1] (Af [0] hok));exact fo w h8 hok hs1 (by show 0≤Cl n0*4+CX n0;omega) (by show Cl n0*4+CX n0≤15;omega) his.1 his.2 hsu.1 hsu.2 (Hv (Af [6,1] (Af [0] hok))) (by rw[e1,Gz,Cv.2 h1,Cv.2 h2,hC];rfl) f
theorem qa(a c d u v:Int)(b e k:ByteArray)(g:Bool):prog.built 38 [(0,.int .i64 a),(1,.string b),(2,.string e),(3,.int .i64 c),(4,.int .i64 d),(5,.string k),(6,.bool g),(7,.int .i64 u),(8,.int .i64 v)]=some #[.int .i64 a,.string b,.string e,.int .i64 c,.int .i64 d,.string k,.bool g,.int .i64 u,.int .i64 v]:=by kernel_rfl
theorem aG{c:Crt}{kv:Value}{F:Nat→Prop}(hk:AO w kv c.ky.length 1 (c.ky.map b8) F):Calls prog 14 #[(.agg #[.int .i64 c.se,.string (AB c.is),.string (AB c.su),.int .i64 c.fr,.int .i64 c.to,kv,.bool c.ca,.int .i64 c.pa,.int .i64 c.us])] w fun e w'=>e= .returned (.agg #[.int .i64 c.se,.string (AB c.is),.string (AB c.su),.int .i64 c.fr,.int .i64 c.to,.string (AB c.ky),.bool c.ca,.int .i64 c.pa,.int .i64 c.us])∧Bw w w':=by
 go_enter func14,ntmps14
 refine Ee ?_
 refine MH ?_;iterate 3 refine q_k ?_
 refine C3 ?_;refine q_6 ?_;refine KP ?_;refine Eg ?_;refine KP ?_;refine Eg ?_;refine C3 ?_;refine q_6 ?_;refine C3 ?_;refine q_6 ?_;refine Ow ?_;refine I5 ?_;refine AA (by exact Cc (bs:=c.ky) rfl gg rfl underlying23 underlying5 underlying9 (AW hk)) ?_;refine Ou ?_;refine MF ?_;refine C3 ?_;refine q_6 ?_;refine C3 ?_;refine q_6 ?_;refine AA (by exact A6 rfl gg rfl (qa _ _ _ _ _ _ _ _ _)) ?_;refine Fz ?_;refine q_k ?_;exact AG (AD (AH results14 (Ac rfl rfl underlying38 rfl sizeOf38 rfl rfl)) fun _ _ hr=>⟨rfl,hr.1⟩)
theorem nl:Calls prog 14 #[CZ] w fun e w'=>e= .returned (.agg #[.int .i64 0,.string (AB []),.string (AB []),.int .i64 0,.int .i64 0,.string (AB []),.bool false,.int .i64 0,.int .i64 0])∧Bw w w':=
 aG (c:=⟨0,[],[],0,0,[],false,0,0⟩) (F:=fun _=>False) w ⟨none,0,rfl,Nat.le_refl _,rfl,.inl rfl⟩
theorem qB{w:World}{base:Nat}{m:Mem}{c:Crt}(id:Nat)(hR:RelOn base ρ S w (restr rd m))(hid:id∈rd)(hm:m id=some (.dat (G5 c))):Calls prog 14 (SV.cs ρ [.agg [.v (.int .i64 c.se),.v (.string (AB c.is)),.v (.string (AB c.su)),.v (.int .i64 c.fr),.v (.int .i64 c.to),.fn (AN 5) (.d id),.v (.bool c.ca),.v (.int .i64 c.pa),.v (.int .i64 c.us)]]).toArray w fun e w'=>e= .returned (.agg #[.int .i64 c.se,.string (AB c.is),.string (AB c.su),.int .i64 c.fr,.int .i64 c.to,.string (AB c.ky),.bool c.ca,.int .i64 c.pa,.int .i64 c.us])∧Bw w w':=by
 obtain⟨kv,e,h⟩:=cX hR hid hm;simp only[SV.cs,e];exact aG w h
theorem eqR(a b d u v:Int)(x y z:ByteArray)(g:Bool)(p q:Operand)(w:World):(do eqGuard .eql 38 p q (.agg #[.int .i64 a,.string x,.string y,.int .i64 b,.int .i64 d,.string z,.bool g,.int .i64 u,.int .i64 v]) (.agg #[.int .i64 a,.string x,.string y,.int .i64 b,.int .i64 d,.string z,.bool g,.int .i64 u,.int .i64 v]);binOp .eql 38 (.agg #[.int .i64 a,.string x,.string y,.int .i64 b,.int .i64 d,.string z,.bool g,.int .i64 u,.int .i64 v]) (.agg #[.int .i64 a,.string x,.string y,.int .i64 b,.int .i64 d,.string z,.bool g,.int .i64 u,.int .i64 v]):Sem Value).run prog w= .ok (.bool true) w:=by
 go_simp
 try simp
theorem gi{F:Nat→Prop}(hv:AO w v bs.length 1 (bs.map b8) F)(_hb8: ∀x∈bs,x<256)(hL:Laid w)(hK:B6 w)(hH:CQ w)(hb1:7<w.heap.size){K:Nat}(hK0:min bs.length 2100=K)(hKl:K≤bs.length)(hcut:AO w (Ay 0 K 1 v) ls.length 1 (ls.map b8) F)(hll:ls.length≤2100)(l8: ∀x∈ls,x<256)(hlm:ls.length≤1048576)(hc:rdC ls=none):Calls prog 4 #[v] w fun e w'=>e= .returned (.bool true)∧Bw w w':=by
 go_enter func4,ntmps4
 refine A4 ?_;iterate 6 refine AL ?_
 refine AA (by exact BL rfl rfl gg rfl (e:=5) (l:=[]) rfl (by decide) (fun _=>by kernel_rfl)) ?_;iterate 2 refine AL ?_
 refine AA (by exact BU rfl gg rfl underlying23 (AW hv)) ?_;refine AA (by exact HW (a:=bs.length) (b:=2100) (c:=K) rfl gg rfl rfl hK0) ?_;refine AA (by exact Fa (a:=0) (b:=K) (v':=Ay 0 K 1 v) rfl gg rfl underlying23 sizeOf5 (AW hv) rfl rfl (Nat.zero_le _) hKl rfl) ?_;refine W0 ?_;iterate 5 refine AL ?_
 refine AA (by exact Aj (v:= .tuple #[CZ,.int .i64 2]) [14] rfl gg rfl (eo func12) (fun ρ S w' hb hR=>qF w' (hL.bw hb) (EH (id:=14) hR (by simp) rfl) l8 hlm hc)) ?_;iterate 3 refine AL ?_
 refine Gh ?_;refine PC ?_;iterate 5 refine AL ?_
 refine AA (by exact Cc (bs:=ls) rfl gg rfl underlying23 underlying5 underlying9 (BI rfl)) ?_;refine AA (by exact Ad (v:= .tuple #[.agg #[.int .i64 0,.string (AB []),.string (AB []),.int .i64 0,.int .i64 0,.string (AB []),.bool false,.int .i64 0,.int .i64 0],ZV,.int .i64 2]) rfl gg rfl (eo func13) (fun w' hw'=>by have a:=Wb (b:=ls) w' l8 hlm;rw[hc]at a;exact a)) ?_;iterate 4 refine AL ?_
 refine MH ?_;refine Ef ?_;refine Fz ?_;refine KG ?_
 refine XU ?_;refine AL ?_;refine Gk ?_;refine AA (by first|exact Ev.skip (fun _=>rfl)|exact Ad (v:= .agg #[.int .i64 0,.string (AB []),.string (AB []),.int .i64 0,.int .i64 0,.string (AB []),.bool false,.int .i64 0,.int .i64 0]) rfl (fun _=>rfl) rfl (eo func14) (fun w' hw'=>nl w')) ?_;refine Gj ?_;refine AA (by first|exact Ev.skip (fun _=>rfl)|exact AK (c:= .bool true) rfl (fun _=>rfl) rfl rfl (fun w=>eqR _ _ _ _ _ _ _ _ _ _ _ w)) ?_;refine Ch ?_;iterate 2 refine DY ?_
 refine SP ?_;refine Hy ?_
 exact AG (AD (AH results4 (AF rfl)) fun _ _ hr=>⟨rfl,hr.1⟩)
theorem gh{F:Nat→Prop}(hv:AO w v bs.length 1 (bs.map b8) F)(_hb8: ∀x∈bs,x<256)(hL:Laid w)(hK:B6 w)(hH:CQ w)(hb1:7<w.heap.size){K:Nat}(hK0:min bs.length 2100=K)(hKl:K≤bs.length)(hcut:AO w (Ay 0 K 1 v) ls.length 1 (ls.map b8) F)(hll:ls.length≤2100)(l8: ∀x∈ls,x<256)(hlm:ls.length≤1048576){c:Crt}{r t:Nat}(hc:rdC ls=some (c,r,t)):Calls prog 4 #[v] w fun e w'=>e= .returned (.bool true)∧Bw w w':=by
 go_enter func4,ntmps4
 refine A4 ?_;iterate 6 refine AL ?_
 refine AA (by exact BL rfl rfl gg rfl (e:=5) (l:=[]) rfl (by decide) (fun _=>by kernel_rfl)) ?_;iterate 2 refine AL ?_
 refine AA (by exact BU rfl gg rfl underlying23 (AW hv)) ?_;refine AA (by exact HW (a:=bs.length) (b:=2100) (c:=K) rfl gg rfl rfl hK0) ?_;refine AA (by exact Fa (a:=0) (b:=K) (v':=Ay 0 K 1 v) rfl gg rfl underlying23 sizeOf5 (AW hv) rfl rfl (Nat.zero_le _) hKl rfl) ?_;refine W0 ?_;iterate 5 refine AL ?_
 refine AA (by exact DL (D:=G5 c) (ys:=[.int .i64 0]) [14] rfl rfl gg rfl (eo func12) (fun ρ S w' hb hR=>qE w' (hL.bw hb) (EH (id:=14) hR (by simp) rfl) l8 hlm hc)) ?_;iterate 3 refine AL ?_
 refine Gh ?_;refine AA (by exact Bh (vl:=[.v (.int .i64 c.se),.v (.string (AB c.is)),.v (.string (AB c.su)),.v (.int .i64 c.fr),.v (.int .i64 c.to),.fn (AN 5) (.d 17),.v (.bool c.ca),.v (.int .i64 c.pa),.v (.int .i64 c.us)]) [17,3] rfl gg rfl rfl rfl sizeOf34 rfl (fun ρ S w' _ hR=>by obtain⟨kv,e,h⟩:=Nb (id:=17) hR (by simp) rfl;exact QL e h) rfl (by simp)) ?_;iterate 5 refine AL ?_
 refine AA (by exact Cc (bs:=ls) rfl gg rfl underlying23 underlying5 underlying9 (BI rfl)) ?_;refine AA (by exact Ad (v:= .tuple #[.agg #[.int .i64 c.se,.string (AB c.is),.string (AB c.su),.int .i64 c.fr,.int .i64 c.to,.string (AB c.ky),.bool c.ca,.int .i64 c.pa,.int .i64 c.us],PT r t,.int .i64 0]) rfl gg rfl (eo func13) (fun w' hw'=>by have a:=Wb (b:=ls) w' l8 hlm;rw[hc]at a;exact a)) ?_;iterate 4 refine AL ?_
 refine MH ?_;refine Ef ?_;refine Fz ?_;refine KG ?_
 refine XU ?_;refine AL ?_;refine Gk ?_;refine AA (by first|exact Ev.skip (fun _=>rfl)|exact Aj (v:= .agg #[.int .i64 c.se,.string (AB c.is),.string (AB c.su),.int .i64 c.fr,.int .i64 c.to,.string (AB c.ky),.bool c.ca,.int .i64 c.pa,.int .i64 c.us]) [17] rfl (fun _=>rfl) rfl (eo func14) (fun ρ S w' hb hR=>qB 17 hR (by simp) rfl)) ?_;refine Gj ?_;refine AA (by first|exact Ev.skip (fun _=>rfl)|exact AK (c:= .bool true) rfl (fun _=>rfl) rfl rfl (fun w=>eqR _ _ _ _ _ _ _ _ _ _ _ w)) ?_;refine Ch ?_;iterate 2 refine DY ?_
 refine SP ?_;refine Hy ?_
 exact AG (AD (AH results4 (AF rfl)) fun _ _ hr=>⟨rfl,hr.1⟩)
theorem gj{F:Nat→Prop}(hv:AO w v bs.length 1 (bs.map b8) F)(hb8: ∀x∈bs,x<256)(hL:Laid w)(hK:B6 w)(hH:CQ w)(hb1:7<w.heap.size):Calls prog 4 #[v] w fun e w'=>e= .returned (.bool true)∧Bw w w':=by
 obtain⟨K,hK0⟩: ∃K,min bs.length 2100=K:=⟨_,rfl⟩
 obtain⟨ls,hls⟩: ∃ls,bs.take K=ls:=⟨_,rfl⟩
 have hKl:K≤bs.length:=by omega
 have hcut:AO w (Ay 0 K 1 v) ls.length 1 (ls.map b8) F:=by
  have:=PE (k:=0) (n:=K) hv (by omega);rw[Nat.zero_add,List.drop_zero,hls]at this;exact this
 have hll:ls.length≤2100:=by rw[←hls,List.length_take];omega
 have l8: ∀x∈ls,x<256:=fun x hx=>hb8 x (by rw[←hls]at hx;exact List.mem_of_mem_take hx)
 have hlm:ls.length≤1048576:=by omega
 rcases hc:rdC ls with _|⟨c,r,t⟩
 ·exact gi w hv hb8 hL hK hH hb1 hK0 hKl hcut hll l8 hlm hc
 ·exact gh w hv hb8 hL hK hH hb1 hK0 hKl hcut hll l8 hlm hc
end Go.Proofs.YtafbhakmkbehiaaGreatDoor
