import Derived.Test.YtefpajmkaaielaaGreatDoorW12
import Derived.Test.YtefpajmkaaielaaGreatDoorW14
import Derived.Test.YtefpajmkaaielaaGreatDoorW15
open Go.Proofs.Tryz
set_option maxHeartbeats 4000000
set_option maxRecDepth 100000
namespace Go.Proofs.YtefpajmkaaielaaGreatDoor
open Go.RowKit Go.Vx
variable(w:World){parts:Array (Nat×Operand)}{ops:Array Oper}{xs:Array Operand}{ats:Array TypeId}{f:FuncId}{ki:IntKind}{b is p rd:List Nat}{vs:List SV}{ks:List Tr}{i id k n q r size:Nat}{S:Nat→Nat→Prop}{ρ:Nat→Nm}{o:Oper}{x:Operand}{P:Program}{y:SV}{t:Tr}{d:TypeDesc}{bt e:TypeId}{s:VS}{kv v z:Value}{w0:World}
open Go.Toll (Gw)
theorem Bp(D:Dat)(rd:List Nat)(_hd:o.dst=some id)(ho:o.op= .call {callee:= .value (.func f),args:=xs,argTypes:=ats})(hgd:AR ops o s)
 (hx:xs.toList.map (AC s)=vs)(he: ∀args w,(callFunc f args).run P w= .ok (.enter f args) w)
 (hc: ∀ρ S w,Bw w0 w→RelOn w0.heap.size ρ S w (restr rd s.mem)→Calls P f (SV.cs ρ vs).toArray w fun e w'=> ∃v S',e= .returned v∧D.holds [v] w' S'∧(∀k,S' k→(∃j∈rd,(s.mem j).isSome∧S j k)∨(w.heap.size≤k∧k<w'.heap.size))∧Bw w w'):Ev P ops w0 o s ⟨.d id,[(id,.dat D)],[],[id],rd⟩:=
 ⟨by simp[Eff.ok],.inr ⟨hgd,fun ρ S w hb hR=> .inr (.inr ⟨f,(SV.cs ρ vs).toArray,by
  obtain⟨dst,op,type,pos,after,guard⟩:=o;simp only at ho;subst ho;rw[execOp_call_go,Eu,hx,←A3]
  simpa using he (SV.cs ρ vs).toArray w,(hc ρ S w hb hR).mono fun e w' ⟨v,S',h1,h3,h4,h5⟩=>⟨_,h1,_,_,by
   have:=Cu (base:=w0.heap.size) (t:=s.mem) (ρ:=ρ) (S:=S) (w:=w) (w':=w') (val:= .d id) (rd:=rd) (up:=[]) (id:=id) (b:= .dat D) (m:=⟨0,v⟩) (S1:=S')
    h5.os h5.tape h5.output h5.size (fun k hk _=>h5.block k hk) (fun ρ' g1 _=>by show D.holds [(ρ' id).val] w' S';rw[g1];exact h3) h4 (fun ho=>ho.elim)
   simpa[SV.c] using this⟩⟩)⟩⟩
theorem ov(a b:Bool):BOy .eql 4 (.bool a) (.bool b) (.bool (a==b)):=by
 intro p q w
 go_simp
 try (cases a<;>cases b<;>rfl)
open TollMont
open TollEc (F pp cb Jp Pt AZ add base nn neg)
open TollSha (sha Ap)
def tri(is:List Nat):List SV:=is.flatMap fun i=>[.fn (AU 0) (.d i),.fn (AU 1) (.d i),.fn (AU 2) (.d i)]
def H4(m:Mem):List Nat→List Tr→Prop
 | [],[]=>True
 |i::is,t::ts=>m i=some (.dat (AQ t))∧H4 m is ts
 |_,_=>False
theorem RZ{m:Mem}: ∀{is:List Nat} {ks:List Tr},H4 m is ks→is.length=ks.length
 | [],[],_=>rfl
 |_::_,_::_,h=>by simp[RZ h.2]
 | [],_::_,h=>h.elim
 |_::_,[],h=>h.elim
theorem Y5{m:Mem}: ∀{is:List Nat} {ks:List Tr},H4 m is ks→ ∀i∈is,∃t,m i=some (.dat (AQ t))
 |_::_,_::_,h,i,hi=>by
  rcases List.mem_cons.1 hi with rfl|hi
  ·exact⟨_,h.1⟩
  ·exact Y5 h.2 i hi
 | [],_,_,_,hi=>by cases hi
 |_::_,[],h,_,_=>h.elim
section
variable{ρ:Nat→Nm}{S:Nat→Nat→Prop}{w:World}{base:Nat}{m:Mem}{rd:List Nat}
abbrev LW(S:Nat→Nat→Prop)(m:Mem)(rd:List Nat):Nat→Prop:=fun k=> ∃j∈rd,(m j).isSome∧S j k
theorem Ra(hR:RelOn base ρ S w (restr rd m)): ∀{is:List Nat} {ks:List Tr},H4 m is ks→(∀i∈is,i∈rd)→ ∃cs,SV.cs ρ (tri is)=cs∧DNs w (LW S m rd) ks cs∧cs.length=is.length*3∧cs.all (·.oneCell')=true
 | [],[],_,_=>⟨[],rfl,rfl,rfl,rfl⟩
 |i::is,t::ts,h,hi=>by
  obtain⟨cs,h1,h2,h3,h4⟩:=Ra hR h.2 fun j hj=>hi j (by simp[hj])
  obtain⟨c,e1,d1⟩:=CY hR (hi i (by simp)) h.1;have f1:=(fn3 e1 (CM d1)).2;refine⟨c++cs,?_,⟨c,cs,rfl,Rw (fun k hk=>⟨i,hi i (by simp),by rw[h.1];rfl,hk⟩) d1,h2⟩,by rw[List.length_append,CM d1,h3,List.length_cons];omega,by rw[List.all_append,FR d1,h4];rfl⟩;rw[←f1,←h1];simp[tri,A3]
 | [],_::_,h,_=>h.elim
 |_::_,[],h,_=>h.elim
end
theorem DD{ty:TypeId}(hd:o.dst=some id)(ho:o.op= .buildSlice ty n parts)(hgd:AR ops o s)
 (hp:parts.toList.map (·.1)=List.range' 0 n)(hx:parts.toList.map (fun p=>AC s p.2)=is.map .d)(ha:H4 s.mem is ks)(hid:SV.hasL id (tri is)=false)
 (hu:P.underlying ty=some (.slice e))(hsz:(P.info? e).map (·.size)=some 3)(hz:((P.info? e).bind (·.zero)).isSome=true)(hpos:0<n*3)(hsm:n*3≤2^24):
 Ev P ops w0 o s ⟨.s id 0 n n,[(id,.cells (tri is) e)],[],[id],is⟩:=
 JH (ys:=is.map .d) (ls:=is.map fun i=>[.fn (AU 0) (.d i),.fn (AU 1) (.d i),.fn (AU 2) (.d i)]) is hd ho hgd hp hx (by simp) (fun ρ S w _ hR j y lj hy hl=>by
  rw[List.getElem?_map]at hy hl;cases hi:is[j]? with
  |none=>rw[hi]at hy;cases hy
  |some i=>
   rw[hi]at hy hl;simp only[Option.map_some,Option.some.injEq]at hy hl;subst hy hl;have hm:i∈is:=List.mem_of_getElem? hi;obtain⟨t,ht⟩:=Y5 ha i hm;obtain⟨c,e1,d1⟩:=CY hR hm ht;exact(fn3 e1 (CM d1)).1) (fun lj hl=>by obtain⟨i,_,rfl⟩:=List.mem_map.1 hl;rfl) (by rw[tri,List.flatMap_def]) hid hu hsz hz hpos hsm
theorem Ek{ty:TypeId}{y:Operand}{did:Nat}{l:List SV}(ho:o.op= .store ty x y)(hgd:AR ops o s)(hx:AC s x= .p id 0)(hm:s.mem id=some (.cells l bt))(hy:AC s y= .d did)(hdm:s.mem did=some (.dat (AQ t)))
 (hs: ∀w,(Go.sizeOf ty).run P w= .ok 3 w)(hl:l.length=3):Ev P ops w0 o s ⟨.v undef,[(id,.cells [.fn (AU 0) (.d did),.fn (AU 1) (.d did),.fn (AU 2) (.d did)] bt)],[id],[],[id,did]⟩:=by
 have:=Az (w0:=w0) (l:=l) (vl:=[.fn (AU 0) (.d did),.fn (AU 1) (.d did),.fn (AU 2) (.d did)]) [id,did] ho hgd hx hm hy hs (by simp) (fun ρ S w _ hR=>by
  obtain⟨c,e1,d1⟩:=CY (id:=did) hR (by simp) hdm;have f:=fn3 e1 (CM d1);exact⟨f.1,by rw[f.2];exact FR d1⟩) rfl (by omega)
 simpa[List.drop_eq_nil_of_le (Nat.le_of_eq hl)] using this
theorem TC{cs:List Value}{F:Nat→Prop}(hv:AJ w v n 3 cs F)(hone:cs.all (·.oneCell')=true)(hm:n≤1048576):Calls prog 49 #[v] w fun e w'=> ∃v,e= .returned (.agg #[.int .i64 48,.slice none 0 0,v])∧BJ w w' v n 3 108 cs∧Bw w w':=by
 go_enter func49,ntmps49
 refine AO ?_;iterate 2 refine k_g ?_
 iterate 5 refine AA ?_
 refine AB (by exact oP (n:=n) (size:=3) (ty:=108) (.exact cs) (ofV 48) [] rfl rfl gg rfl (eo func81) (fun ρ S w' hb hR=>(ZU (t:=48) w' (Aa hv hb) hone hm).mono fun _ _ ⟨u,a1,a2,a3⟩=>⟨u,cs,fun _=>False,a1,by obtain⟨_,_,_,_,h,_⟩:=hv;exact h,a2,rfl,fun _ h=>h.elim,a3⟩)) ?_;refine AB (by exact Az (vl:=[.v (.int .i64 48),.v (.slice none 0 0),.d 4]) [2,4] rfl gg rfl rfl rfl sizeOf108 rfl (fun ρ S w' _ hR=>⟨by simp only[SV.c,SV.cs];rfl,by have hh:=CO (id:=4) hR (by simp) rfl;simp only[SV.cs,SV.c,List.all_cons,List.all_nil,hh.2];rfl⟩) rfl (by simp)) ?_;refine k_g ?_;refine AG ?_;refine AD (AM results49 (BN rfl rfl underlying108 rfl sizeOf108 rfl)) ?_;intro ρ w' hr;exact⟨_,rfl,BR hr rfl,hr.1⟩
theorem Dj{w:World}{base:Nat}{m:Mem}(hR:RelOn base ρ S w (restr rd m))(hq:q∈rd)(hi: ∀i∈is,i∈rd)(ha:H4 m is ks)(h3:m q=some (.cells (tri is) 108))(hn:is.length=n:=by rfl)(hm:n≤1048576:=by decide):
 Calls prog 49 #[.slice (some ⟨(ρ q).g,0,none⟩) n n] w fun e w'=> ∃v S',e= .returned v∧(AQ (.mk 48 [] ks)).holds [v] w' S'∧(∀k,S' k→(∃j∈rd,(m j).isSome∧S j k)∨(w.heap.size≤k∧k<w'.heap.size))∧Bw w w':=by
 obtain⟨cs,h1,h2,h4,h5⟩:=Ra hR ha hi;rw[hn]at h4
 have hs:AJ w (.slice (some ⟨(ρ q).g,0,none⟩) n n) n 3 cs (fun _=>True):=by
  have hg:=(A6 hR h3 hq).2;refine⟨_,_,rfl,Nat.le_refl _,h4,.inr ⟨_,rfl,True.intro,fun i x hx=> ?_⟩⟩;rw[←h1]at hx;exact YR hg hx
 refine(TC w hs h5 hm).mono fun e w' ⟨v,a1,⟨g,a2⟩,a3⟩=>⟨_,fun k=>LW S m rd k∨(w.heap.size≤k∧k<w'.heap.size),a1,?_,?_,a3⟩
 ·refine⟨[.int .i64 48,.slice none 0 0,v],rfl,?_⟩
  have hr:=DL (a:=⟨g,v⟩) a2 h4
  have hr2:AJ w' v n 3 cs (fun k=>LW S m rd k∨(w.heap.size≤k∧k<w'.heap.size)):=by
   rcases a2 with⟨g1,g2⟩|⟨off,cap,cur,fz,g1,g2,g3,_⟩
   ·subst g2
    obtain⟨ao,cp,b1,b2,b3,_⟩:=hr;exact⟨ao,cp,b1,b2,b3,.inl (List.eq_nil_of_length_eq_zero (by simpa using h4))⟩
   ·exact IR hr fun k hk=>by subst hk;exact .inr ⟨g2,(Array.getElem?_eq_some_iff.1 g3).1⟩
  have hkn:ks.length=n:=by rw[←RZ ha,hn]
  rw[DN];exact⟨_,_,cs,rfl,⟨none,0,rfl,Nat.le_refl _,rfl,.inl rfl⟩,by rw[hkn];exact hr2,JZ (fun k hk=> .inl hk) (Ja a3 h2)⟩
 ·exact fun k hk=>hk
theorem YX{w:World}{base:Nat}{m:Mem}{t:Int}(hR:RelOn base ρ S w (restr rd m))(hq:q∈rd)(hi: ∀i∈is,i∈rd)(ha:H4 m is ks)(h3:m q=some (.cells (tri is) 108))(hn:is.length=n:=by rfl)(hm:n≤1048576:=by decide):
 Calls prog 81 #[.int .i64 t,.slice (some ⟨(ρ q).g,0,none⟩) n n] w fun e w'=> ∃v S',e= .returned v∧(AQ (.mk t [] ks)).holds [v] w' S'∧(∀k,S' k→(∃j∈rd,(m j).isSome∧S j k)∨(w.heap.size≤k∧k<w'.heap.size))∧Bw w w':=by
 obtain⟨cs,h1,h2,h4,h5⟩:=Ra hR ha hi;rw[hn]at h4
 have hs:AJ w (.slice (some ⟨(ρ q).g,0,none⟩) n n) n 3 cs (fun _=>True):=by
  have hg:=(A6 hR h3 hq).2;refine⟨_,_,rfl,Nat.le_refl _,h4,.inr ⟨_,rfl,True.intro,fun i x hx=> ?_⟩⟩;rw[←h1]at hx;exact YR hg hx
 refine(ZU (t:=t) w hs h5 hm).mono fun e w' ⟨v,a1,⟨g,a2⟩,a3⟩=>⟨_,fun k=>LW S m rd k∨(w.heap.size≤k∧k<w'.heap.size),a1,?_,?_,a3⟩
 ·refine⟨[.int .i64 t,.slice none 0 0,v],rfl,?_⟩
  have hr:=DL (a:=⟨g,v⟩) a2 h4
  have hr2:AJ w' v n 3 cs (fun k=>LW S m rd k∨(w.heap.size≤k∧k<w'.heap.size)):=by
   rcases a2 with⟨g1,g2⟩|⟨off,cap,cur,fz,g1,g2,g3,_⟩
   ·subst g2
    obtain⟨ao,cp,b1,b2,b3,_⟩:=hr;exact⟨ao,cp,b1,b2,b3,.inl (List.eq_nil_of_length_eq_zero (by simpa using h4))⟩
   ·exact IR hr fun k hk=>by subst hk;exact .inr ⟨g2,(Array.getElem?_eq_some_iff.1 g3).1⟩
  have hkn:ks.length=n:=by rw[←RZ ha,hn]
  rw[DN];exact⟨_,_,cs,rfl,⟨none,0,rfl,Nat.le_refl _,rfl,.inl rfl⟩,by rw[hkn];exact hr2,JZ (fun k hk=> .inl hk) (Ja a3 h2)⟩
 ·exact fun k hk=>hk
theorem Hq(h8: ∀x∈b,x<256)(hm:b.length≤maxLen):CDy 50 #[.string (AI b)] w (AQ (.mk 6 b [])):=by
 go_enter func50,ntmps50
 refine AO ?_;iterate 2 refine k_g ?_
 iterate 5 refine AA ?_
 refine AB (by exact XQ rfl rfl gg rfl underlying9 underlying26 underlying5 hm h8) ?_;refine AB (by exact Hm (n:=b.length) (size:=1) (l:=b.map b8) rfl gg rfl rfl (BI rfl) (fun p m q=>Hs 6 p m q)) ?_;refine AB (by exact Az (vl:=[.v (.int .i64 6),.d 4,.v (.slice none 0 0)]) [2,4] rfl gg rfl rfl rfl sizeOf108 rfl (fun ρ S w' _ hR=>⟨CG _,by have hh:=CO (id:=4) hR (by simp) rfl;simp only[SV.cs,SV.c,List.all_cons,List.all_nil,hh.2];rfl⟩) rfl (by simp)) ?_;refine k_g ?_;refine AG ?_;refine AD (AM results50 (BN rfl rfl underlying108 rfl sizeOf108 rfl)) ?_;intro ρ w' hr;refine⟨_,rfl,?_,hr.1⟩;have:=E8 (t:=6) (b:=b) 4 hr rfl;simpa[SV.c,SV.cs] using this
theorem Zh:CDy 84 #[] w (AQ (.mk 1 [255] [])):=by
 go_enter func84,ntmps84
 refine AO ?_;iterate 2 refine k_g ?_
 refine AA ?_;iterate 3 refine k_g ?_
 refine AB (by exact BV rfl rfl gg rfl (e:=5) (l:=[255].map b8) rfl (by decide) (fun _=>by kernel_rfl)) ?_;refine AB (by exact Hm (n:=1) (size:=1) (l:=[255].map b8) rfl gg rfl rfl (BI rfl) (fun p m q=>Hs 1 p m q)) ?_;refine AB (by exact Az (vl:=[.v (.int .i64 1),.d 1,.v (.slice none 0 0)]) [0,1] rfl gg rfl rfl rfl sizeOf108 rfl (fun ρ S w' _ hR=>⟨CG _,by have hh:=CO (id:=1) hR (by simp) rfl;simp only[SV.cs,SV.c,List.all_cons,List.all_nil,hh.2];rfl⟩) rfl (by simp)) ?_;refine k_g ?_;refine AG ?_;refine AD (AM results84 (BN rfl rfl underlying108 rfl sizeOf108 rfl)) ?_;intro ρ w' hr;refine⟨_,rfl,?_,hr.1⟩;have:=E8 (t:=1) (b:=[255]) 1 hr rfl;simpa[SV.c,SV.cs] using this
theorem TG{F:Nat→Prop}(hv:AJ w v b.length 1 (b.map b8) F)(hm:b.length≤1048576):CDy 51 #[v] w (AQ (.mk 3 (0::b) [])):=by
 go_enter func51,ntmps51
 refine AO ?_;iterate 2 refine k_g ?_
 refine AA ?_;iterate 3 refine k_g ?_
 refine AB (by exact BV rfl rfl gg rfl (e:=5) (l:=[0].map b8) rfl (by decide) (fun _=>by kernel_rfl)) ?_;refine AA ?_;refine AB (by exact C1 rfl rfl gg rfl rfl rfl (AW hv) underlying26 el5 (by decide) (by simp) (DG _) (by simp only[maxLen];omega) (by omega) (by simp)) ?_;refine AB (by exact Hm (n:=1+b.length) (size:=1) (l:=[0].map b8++b.map b8) rfl gg rfl rfl (BI rfl) (fun p m q=>Hs 3 p m q)) ?_;refine AB (by exact Az (vl:=[.v (.int .i64 3),.d 5,.v (.slice none 0 0)]) [2,5] rfl gg rfl rfl rfl sizeOf108 rfl (fun ρ S w' _ hR=>⟨CG _,by have hh:=CO (id:=5) hR (by simp) rfl;simp only[SV.cs,SV.c,List.all_cons,List.all_nil,hh.2];rfl⟩) rfl (by simp)) ?_;refine k_g ?_;refine AG ?_;refine AD (AM results51 (BN rfl rfl underlying108 rfl sizeOf108 rfl)) ?_;intro ρ w' hr;refine⟨_,rfl,?_,hr.1⟩;have:=E8 (t:=3) (b:=0::b) 5 hr (by show some (Blk.row (1+b.length) 1 5 _)=_;rw[List.length_cons,Nat.add_comm];rfl);simpa[SV.c,SV.cs] using this
def B0(b:List Nat):Tr:= .mk 6 b []
def EV:Tr:= .mk 1 [255] []
def EG(b:List Nat):Tr:= .mk 3 (0::b) []
def B4(t:Tr):Tr:= .mk 4 (wrT t).1 []
def utT(b:List Nat):Tr:= .mk 12 b []
def BH(ks:List Tr):Tr:= .mk 48 [] ks
def iT(n:Int):Tr:= .mk 2 (BP (CV n.toNat)) []
def Dx(s:List Nat):Tr:=BH [BH [B0 [85,4,3],utT s]]
def Da(ca:Bool)(pa:Int):Tr:=bif ca then BH [EV,iT pa]else BH []
structure Crt where
 se:Int
 is:List Nat
 su:List Nat
 fr:Int
 to:Int
 ky:List Nat
 ca:Bool
 pa:Int
 us:Int
deriving DecidableEq
def E4:List Nat:=[42,134,72,206,61,4,3,2]
def Crt.body(c:Crt):Tr:=BH [.mk 160 [] [iT 2],iT c.se,BH [B0 E4],Dx c.is,BH [iT c.fr,iT c.to],Dx c.su,
 BH [BH [B0 [42,134,72,206,61,2,1],B0 [42,134,72,206,61,3,1,7]],EG c.ky],
 .mk 163 [] [BH [BH [B0 [85,29,19],EV,B4 (Da c.ca c.pa)],BH [B0 [85,29,15],EV,B4 (iT (c.us %4))],BH [B0 [85,29,37],B4 (iT (c.us/4))]]]]
def B1(r t:Nat):Tr:=BH [tN (bl r),tN (bl t)]
def Crt.whole(c:Crt)(r t:Nat):Tr:=BH [c.body,BH [B0 E4],EG (wrT (B1 r t)).1]
structure Crt.Fit(c:Crt):Prop where
 i8: ∀x∈c.is,x<256
 s8: ∀x∈c.su,x<256
 k8: ∀x∈c.ky,x<256
 il:c.is.length≤64
 sl:c.su.length≤64
 kl:c.ky.length≤65
 sm:c.se≤4611686018427387904
 fm:c.fr≤4611686018427387904
 tm:c.to≤4611686018427387904
 pm:c.pa≤5
 u0:0≤c.us
 um:c.us≤15
theorem E7{t:Int}(h: ∀x∈b,x<256)(hl:b.length≤1048576):(Tr.mk t b []).ok:=by simp only[Tr.ok,oks];exact⟨h,hl,by simp,trivial⟩
theorem Cv{t:Int}(h:oks ks)(hl:ks.length≤1048576):(Tr.mk t [] ks).ok:=by simp only[Tr.ok];exact⟨fun _ h=>(by cases h),by simp,hl,h⟩
theorem fh(m:Nat): ∀x∈CV m,x<256:=fun x hx=>by
 simp only[CV,List.mem_cons,List.not_mem_nil,or_false]at hx;rcases hx with rfl|rfl|rfl|rfl|rfl|rfl|rfl|rfl<;>exact Ma _
theorem Fl(n:Int):(iT n).ok:=E7 (SS (fh _)) (by have:=Ic (CV n.toNat);have e:(CV n.toNat).length=8:=rfl;omega)
theorem Hc(n:Int):wt (iT n)≤19:=by
 have:=Ic (CV n.toNat);have e:(CV n.toNat).length=8:=rfl;simp only[iT,wt,wts];omega
theorem Sf(hl:b.length≤64):wt (tN b)≤75:=by have:=Ic b;simp only[tN,wt,wts];omega
theorem PQ(h:t.ok):(B4 t).ok:=E7 (FT h) (by have:=EW t;omega)
theorem PP(t:Tr):wt (B4 t)≤2058:=by have:=EW t;simp only[B4,wt,wts];omega
theorem Q6(h: ∀x∈b,x<256)(hl:b.length≤100):(B0 b).ok:=E7 h (by omega)
theorem Yw(ca:Bool)(pa:Int):(Da ca pa).ok:=by
 unfold Da;cases ca
 ·exact Cv trivial (by simp)
 ·exact Cv ⟨E7 (by decide) (by decide),Fl _,trivial⟩ (by simp)
theorem rk(ca:Bool)(pa:Int):wt (Da ca pa)≤100:=by
 have:=Hc pa;unfold Da EV BH;cases ca<;>simp only[cond_true,cond_false,wt,wts,List.length_nil,List.length_cons]<;>omega
theorem RH{c:Crt}(h:c.Fit):c.body.ok:=by
 have hw: ∀{s:List Nat},(∀x∈s,x<256)→s.length≤64→(Dx s).ok:=fun h1 h2=>Cv ⟨Cv ⟨Q6 (by decide) (by decide),E7 h1 (by omega),trivial⟩ (by simp),trivial⟩ (by simp)
 have kl:=h.kl;have hr:(EG c.ky).ok:=E7 (fun x hx=>by rcases List.mem_cons.1 hx with rfl|hx;decide;exact h.k8 x hx) (by simp;omega)
 have o: ∀b:List Nat,(b.all (· <256) && decide (b.length≤100))=true→(B0 b).ok:=fun b hb=>by
  simp only[Bool.and_eq_true,decide_eq_true_eq,List.all_eq_true]at hb;exact Q6 hb.1 hb.2
 have y:EV.ok:=E7 (by decide) (by decide)
 exact Cv ⟨Cv ⟨Fl _,trivial⟩ (by simp),Fl _,Cv ⟨o _ (by decide),trivial⟩ (by simp),hw h.i8 h.il,Cv ⟨Fl _,Fl _,trivial⟩ (by simp),hw h.s8 h.sl,
  Cv ⟨Cv ⟨o _ (by decide),o _ (by decide),trivial⟩ (by simp),hr,trivial⟩ (by simp),
  Cv ⟨Cv ⟨Cv ⟨o _ (by decide),y,PQ (Yw _ _),trivial⟩ (by simp),Cv ⟨o _ (by decide),y,PQ (Fl _),trivial⟩ (by simp),Cv ⟨o _ (by decide),PQ (Fl _),trivial⟩ (by simp),trivial⟩ (by simp),trivial⟩ (by simp),trivial⟩ (by simp)
theorem Ym{c:Crt}(h:c.Fit):wt c.body≤10000:=by
 have a:=Hc 2;have b:=Hc c.se;have d:=Hc c.fr;have e:=Hc c.to;have p1:=PP (Da c.ca c.pa);have p2:=PP (iT (c.us %4));have p3:=PP (iT (c.us/4));have il:=h.il;have sl:=h.sl;have kl:=h.kl;unfold Crt.body BH B0 Dx utT EV EG E4 BH B0;simp only[wt,wts,List.length_nil,List.length_cons];omega
theorem S5(r t:Nat):(B1 r t).ok:=Cv ⟨Sg (Gr r) (by rw[Es];decide),Sg (Gr t) (by rw[Es];decide),trivial⟩ (by simp)
theorem cA(r t:Nat):wt (B1 r t)≤200:=by
 have a:=Sf (b:=bl r) (by rw[Es];decide);have b:=Sf (b:=bl t) (by rw[Es];decide);unfold B1 BH;simp only[wt,wts,List.length_nil];omega
theorem G1{c:Crt}(h:c.Fit)(r t:Nat):(c.whole r t).ok:=by
 have hl:=EW (B1 r t);exact Cv ⟨RH h,Cv ⟨Q6 (by decide) (by decide),trivial⟩ (by simp),E7 (fun x hx=>by rcases List.mem_cons.1 hx with rfl|hx;decide;exact FT (S5 r t) x hx) (by simp;omega),trivial⟩ (by simp)
theorem Zv{c:Crt}(h:c.Fit)(r t:Nat):wt (c.whole r t)≤20000:=by
 have a:=Ym h;have hl:=EW (B1 r t);unfold Crt.whole BH B0 EG E4;simp only[wt,wts,List.length_nil,List.length_cons];omega
theorem cO:CDy 49 #[.slice none 0 0] w (AQ (BH [])):=
 (TC w (n:=0) (cs:=[]) (F:=fun _=>False) ⟨none,0,rfl,Nat.le_refl _,rfl,.inl rfl⟩ rfl (by decide)).mono fun e w' ⟨v,a1,⟨g,a2⟩,a3⟩=>by
  have hr:=DL (a:=⟨g,v⟩) a2 rfl;refine⟨_,a1,⟨fun _=>False,⟨[.int .i64 48,.slice none 0 0,v],rfl,?_⟩,fun k hk=>hk.elim⟩,a3⟩;rw[BH,DN];obtain⟨ao,cp,b1,b2,b3,_⟩:=hr;exact⟨_,_,[],rfl,⟨none,0,rfl,Nat.le_refl _,rfl,.inl rfl⟩,⟨ao,cp,b1,b2,b3,.inl rfl⟩,rfl⟩
theorem e9{x0 x1 x2:Value}{F:Nat→Prop}(hok:t.ok)(hx:DN w F t [x0,x1,x2])(hwt:wt t≤1073741824):CDy 85 #[.agg #[x0,x1,x2]] w (AQ (B4 t)):=by
 go_enter func85,ntmps85
 refine AO ?_;iterate 4 refine AA ?_
 iterate 3 refine k_g ?_
 refine AA ?_;refine AB (by exact DC [] rfl rfl gg rfl (eo func46) (n:=(wrT t).1.length) (size:=1) (l:=(wrT t).1.map b8) (y:= .int .i64 (wrT t).2) (by simp) (fun ρ S w' hb hR=>ZI w' hok (Dk hb hx) hwt)) ?_;iterate 9 refine AA ?_
 refine AB (by exact Hm (n:=(wrT t).1.length) (size:=1) (l:=(wrT t).1.map b8) rfl gg rfl rfl (BI rfl) (fun p m q=>Hs 4 p m q)) ?_;refine AB (by exact Az (vl:=[.v (.int .i64 4),.d 7,.v (.slice none 0 0)]) [2,7] rfl gg rfl rfl rfl sizeOf108 rfl (fun ρ S w' _ hR=>⟨CG _,by have hh:=CO (id:=7) hR (by simp) rfl;simp only[SV.cs,SV.c,List.all_cons,List.all_nil,hh.2];rfl⟩) rfl (by simp)) ?_;refine k_g ?_;refine AG ?_;refine AD (AM results85 (BN rfl rfl underlying108 rfl sizeOf108 rfl)) ?_;intro ρ w' hr;refine⟨_,rfl,?_,hr.1⟩;have:=E8 (t:=4) (b:=(wrT t).1) 7 hr rfl;simpa[SV.c,SV.cs,B4] using this
theorem RA{w:World}{base:Nat}{m:Mem}(hR:RelOn base ρ S w (restr rd m))(hid:id∈rd)(hm:m id=some (.dat (AQ t)))(hok:t.ok)(hwt:wt t≤1073741824):CDy 85 #[(ρ id).val] w (AQ (B4 t)):=by
 obtain⟨c,h1,h2⟩:=CY hR hid hm;obtain⟨x0,x1,x2,rfl⟩:=FB (CM h2);rw[h1];exact e9 w hok h2 hwt
theorem SF(h8: ∀x∈b,x<256)(hm:b.length≤maxLen):CDy 83 #[.string (AI b)] w (AQ (Dx b)):=by
 go_enter func83,ntmps83
 refine AO ?_;iterate 2 refine k_g ?_
 refine AA ?_;iterate 3 refine k_g ?_
 refine AB (by exact BG (D:=AQ (B0 [85,4,3])) [] rfl rfl gg rfl (eo func50) (fun ρ S w' hb hR=>Hq (b:=[85,4,3]) w' (by decide) (by decide))) ?_;refine AA ?_;refine AB (by exact BG (D:=AQ (utT b)) [] rfl rfl gg rfl (eo func67) (fun ρ S w' hb hR=>ZJ h8 hm w')) ?_;refine AB (by exact DD (is:=[3,5]) (ks:=[_,_]) rfl rfl gg rfl rfl ⟨rfl,rfl,trivial⟩ rfl underlying106 (by kernel_rfl) (by kernel_rfl) (by decide) (by decide)) ?_;refine AB (by exact Bp (AQ (.mk 48 [] [_,_])) [6,3,5] rfl rfl gg rfl (eo func49) (fun ρ S w' hb hR=>Dj (is:=[3,5]) (q:=6) hR (by simp) (by simp) ⟨rfl,rfl,trivial⟩ rfl)) ?_;refine AB (by exact DD (is:=[7]) (ks:=[_]) rfl rfl gg rfl rfl ⟨rfl,trivial⟩ rfl underlying106 (by kernel_rfl) (by kernel_rfl) (by decide) (by decide)) ?_;refine AB (by exact Bp (AQ (.mk 48 [] [_])) [8,7] rfl rfl gg rfl (eo func49) (fun ρ S w' hb hR=>Dj (is:=[7]) (q:=8) hR (by simp) (by simp) ⟨rfl,trivial⟩ rfl)) ?_;refine AB (by exact Ek (did:=9) rfl gg rfl rfl rfl rfl sizeOf108 rfl) ?_;refine k_g ?_;refine AG ?_;refine AD (AM results83 (BN rfl rfl underlying108 rfl sizeOf108 rfl)) ?_;intro ρ w' hr;exact⟨_,rfl,GH 9 hr rfl,hr.1⟩
theorem rh{c:Crt}(hf:c.Fit)(hc:c.ca=true):CDy 86 #[(.agg #[.int .i64 c.se,.string (AI c.is),.string (AI c.su),.int .i64 c.fr,.int .i64 c.to,kv,.bool c.ca,.int .i64 c.pa,.int .i64 c.us])] w (AQ (BH [EV,iT c.pa])):=by
 rw[hc]
 go_enter func86,ntmps86
 refine AO ?_;iterate 4 refine AA ?_
 iterate 4 refine k_g ?_
 iterate 2 refine AA ?_
 iterate 4 refine k_g ?_
 refine PD ?_;iterate 2 refine AA ?_
 refine AB (by exact BG (D:=AQ (iT (c.pa))) [] rfl rfl gg rfl (eo func82) (fun ρ S w' hb hR=>H3 (c.pa) (by have:=hf.pm;omega) w')) ?_;refine AB (by exact DD (is:=[5,8]) (ks:=[_,_]) rfl rfl gg rfl rfl ⟨rfl,rfl,trivial⟩ rfl underlying106 (by kernel_rfl) (by kernel_rfl) (by decide) (by decide)) ?_;refine AB (by exact Bp (AQ (.mk 48 [] [_,_])) [9,5,8] rfl rfl gg rfl (eo func49) (fun ρ S w' hb hR=>Dj (is:=[5,8]) (q:=9) hR (by simp) (by simp) ⟨rfl,rfl,trivial⟩ rfl)) ?_;refine AB (by exact Ek (did:=10) rfl gg rfl rfl rfl rfl sizeOf108 rfl) ?_;refine k_g ?_;refine AG ?_;refine AD (AM results86 (BN rfl rfl underlying108 rfl sizeOf108 rfl)) ?_;intro ρ w' hr;exact⟨_,rfl,GH 10 hr rfl,hr.1⟩
theorem rj{c:Crt}(hc:c.ca=false):CDy 86 #[(.agg #[.int .i64 c.se,.string (AI c.is),.string (AI c.su),.int .i64 c.fr,.int .i64 c.to,kv,.bool c.ca,.int .i64 c.pa,.int .i64 c.us])] w (AQ (BH [])):=by
 rw[hc]
 go_enter func86,ntmps86
 refine AO ?_;iterate 4 refine AA ?_
 iterate 4 refine k_g ?_
 iterate 2 refine AA ?_
 iterate 5 refine k_g ?_
 refine AB (by exact BG (D:=AQ (BH [])) [] rfl rfl gg rfl (eo func49) (fun ρ S w' hb hR=>cO w')) ?_;refine AB (by exact Ek (did:=11) rfl gg rfl rfl rfl rfl sizeOf108 rfl) ?_;refine k_g ?_;refine AG ?_;refine AD (AM results86 (BN rfl rfl underlying108 rfl sizeOf108 rfl)) ?_;intro ρ w' hr;exact⟨_,rfl,GH 11 hr rfl,hr.1⟩
theorem ri{c:Crt}(hf:c.Fit):CDy 86 #[(.agg #[.int .i64 c.se,.string (AI c.is),.string (AI c.su),.int .i64 c.fr,.int .i64 c.to,kv,.bool c.ca,.int .i64 c.pa,.int .i64 c.us])] w (AQ (Da c.ca c.pa)):=by
 unfold Da;cases h:c.ca with
 |true=>have a:=rh (kv:=kv) w hf h;rw[h]at a;exact a
 |false=>have a:=rj (kv:=kv) w h;rw[h]at a;exact a
theorem dG{n:Int}(h0:0≤n)(_hm:n≤15):BOy .rem 3 (.int .i64 n) (.int .i64 4) (.int .i64 (n %4)):=by
 intro p q w
 go_simp
 exact Int.tmod_eq_emod_of_nonneg h0
theorem dl{n:Int}(h0:0≤n)(hm:n≤15):BOy .quo 3 (.int .i64 n) (.int .i64 4) (.int .i64 (n/4)):=by
 intro p q w
 have e:IntKind.i64.wrap (n.tdiv 4)=n/4:=by rw[Int.tdiv_eq_ediv_of_nonneg h0,Af (by omega) (by omega)]
 go_simp
 try exact e
theorem YT{c:Crt}{F:Nat→Prop}(hf:c.Fit)(hk:AJ w kv c.ky.length 1 (c.ky.map b8) F):CDy 47 #[(.agg #[.int .i64 c.se,.string (AI c.is),.string (AI c.su),.int .i64 c.fr,.int .i64 c.to,kv,.bool c.ca,.int .i64 c.pa,.int .i64 c.us])] w (AQ c.body):=by
 go_enter func47,ntmps47
 refine AO ?_;iterate 4 refine AA ?_
 iterate 3 refine k_g ?_
 refine AB (by exact BG (D:=AQ (iT (2))) [] rfl rfl gg rfl (eo func82) (fun ρ S w' hb hR=>H3 (2) (by decide) w')) ?_;refine AB (by exact DD (is:=[3]) (ks:=[_]) rfl rfl gg rfl rfl ⟨rfl,trivial⟩ rfl underlying106 (by kernel_rfl) (by kernel_rfl) (by decide) (by decide)) ?_;refine AB (by exact Bp (AQ (.mk 160 [] [_])) [4,3] rfl rfl gg rfl (eo func81) (fun ρ S w' hb hR=>YX (is:=[3]) (q:=4) hR (by simp) (by simp) ⟨rfl,trivial⟩ rfl)) ?_;iterate 2 refine AA ?_
 refine AB (by exact BG (D:=AQ (iT (c.se))) [] rfl rfl gg rfl (eo func82) (fun ρ S w' hb hR=>H3 (c.se) (by have:=hf.sm;omega) w')) ?_;refine Tp ?_;refine AB (by exact DD (is:=[9]) (ks:=[_]) rfl rfl gg rfl rfl ⟨rfl,trivial⟩ rfl underlying106 (by kernel_rfl) (by kernel_rfl) (by decide) (by decide)) ?_;refine AB (by exact Bp (AQ (.mk 48 [] [_])) [10,9] rfl rfl gg rfl (eo func49) (fun ρ S w' hb hR=>Dj (is:=[9]) (q:=10) hR (by simp) (by simp) ⟨rfl,trivial⟩ rfl)) ?_;iterate 2 refine AA ?_
 refine AB (by exact BG (D:=AQ (Dx c.is)) [] rfl rfl gg rfl (eo func83) (fun ρ S w' hb hR=>SF (b:=c.is) w' hf.i8 (by have:=hf.il;simp only[maxLen];omega))) ?_;iterate 2 refine AA ?_
 refine AB (by exact BG (D:=AQ (iT (c.fr))) [] rfl rfl gg rfl (eo func82) (fun ρ S w' hb hR=>H3 (c.fr) (by have:=hf.fm;omega) w')) ?_;iterate 2 refine AA ?_
 refine AB (by exact BG (D:=AQ (iT (c.to))) [] rfl rfl gg rfl (eo func82) (fun ρ S w' hb hR=>H3 (c.to) (by have:=hf.tm;omega) w')) ?_;refine AB (by exact DD (is:=[17,20]) (ks:=[_,_]) rfl rfl gg rfl rfl ⟨rfl,rfl,trivial⟩ rfl underlying106 (by kernel_rfl) (by kernel_rfl) (by decide) (by decide)) ?_;refine AB (by exact Bp (AQ (.mk 48 [] [_,_])) [21,17,20] rfl rfl gg rfl (eo func49) (fun ρ S w' hb hR=>Dj (is:=[17,20]) (q:=21) hR (by simp) (by simp) ⟨rfl,rfl,trivial⟩ rfl)) ?_;iterate 2 refine AA ?_
 refine AB (by exact BG (D:=AQ (Dx c.su)) [] rfl rfl gg rfl (eo func83) (fun ρ S w' hb hR=>SF (b:=c.su) w' hf.s8 (by have:=hf.sl;simp only[maxLen];omega))) ?_;refine AB (by exact BG (D:=AQ (B0 [42,134,72,206,61,2,1])) [] rfl rfl gg rfl (eo func50) (fun ρ S w' hb hR=>Hq (b:=[42,134,72,206,61,2,1]) w' (by decide) (by decide))) ?_;refine AB (by exact BG (D:=AQ (B0 [42,134,72,206,61,3,1,7])) [] rfl rfl gg rfl (eo func50) (fun ρ S w' hb hR=>Hq (b:=[42,134,72,206,61,3,1,7]) w' (by decide) (by decide))) ?_;refine AB (by exact DD (is:=[26,27]) (ks:=[_,_]) rfl rfl gg rfl rfl ⟨rfl,rfl,trivial⟩ rfl underlying106 (by kernel_rfl) (by kernel_rfl) (by decide) (by decide)) ?_;refine AB (by exact Bp (AQ (.mk 48 [] [_,_])) [28,26,27] rfl rfl gg rfl (eo func49) (fun ρ S w' hb hR=>Dj (is:=[26,27]) (q:=28) hR (by simp) (by simp) ⟨rfl,rfl,trivial⟩ rfl)) ?_;iterate 2 refine AA ?_
 refine AB (by exact BG (D:=AQ (EG c.ky)) [] rfl rfl gg rfl (eo func51) (fun ρ S w' hb hR=>TG w' (Aa hk hb) (by have:=hf.kl;omega))) ?_;refine AB (by exact DD (is:=[29,32]) (ks:=[_,_]) rfl rfl gg rfl rfl ⟨rfl,rfl,trivial⟩ rfl underlying106 (by kernel_rfl) (by kernel_rfl) (by decide) (by decide)) ?_;refine AB (by exact Bp (AQ (.mk 48 [] [_,_])) [33,29,32] rfl rfl gg rfl (eo func49) (fun ρ S w' hb hR=>Dj (is:=[29,32]) (q:=33) hR (by simp) (by simp) ⟨rfl,rfl,trivial⟩ rfl)) ?_;refine AB (by exact BG (D:=AQ (B0 [85,29,19])) [] rfl rfl gg rfl (eo func50) (fun ρ S w' hb hR=>Hq (b:=[85,29,19]) w' (by decide) (by decide))) ?_;refine PD ?_;refine AA ?_;refine AB (by exact BG (D:=AQ (Da c.ca c.pa)) [] rfl rfl gg rfl (eo func86) (fun ρ S w' hb hR=>ri w' hf)) ?_;refine AB (by exact BG (D:=AQ (B4 (Da c.ca c.pa))) [38] rfl rfl gg rfl (eo func85) (fun ρ S w' hb hR=>RA (id:=38) hR (by simp) rfl (Yw _ _) (by have:=rk c.ca c.pa;omega))) ?_;refine AB (by exact DD (is:=[35,36,39]) (ks:=[_,_,_]) rfl rfl gg rfl rfl ⟨rfl,rfl,rfl,trivial⟩ rfl underlying106 (by kernel_rfl) (by kernel_rfl) (by decide) (by decide)) ?_;refine AB (by exact Bp (AQ (.mk 48 [] [_,_,_])) [40,35,36,39] rfl rfl gg rfl (eo func49) (fun ρ S w' hb hR=>Dj (is:=[35,36,39]) (q:=40) hR (by simp) (by simp) ⟨rfl,rfl,rfl,trivial⟩ rfl)) ?_;refine AB (by exact BG (D:=AQ (B0 [85,29,15])) [] rfl rfl gg rfl (eo func50) (fun ρ S w' hb hR=>Hq (b:=[85,29,15]) w' (by decide) (by decide))) ?_;refine PD ?_;iterate 2 refine AA ?_
 refine AB (by exact AN rfl gg rfl rfl (fun w=>dG hf.u0 hf.um _ _ w)) ?_;refine AB (by exact BG (D:=AQ (iT (c.us %4))) [] rfl rfl gg rfl (eo func82) (fun ρ S w' hb hR=>H3 (c.us %4) (by have:=hf.um;omega) w')) ?_;refine AB (by exact BG (D:=AQ (B4 (iT (c.us %4)))) [47] rfl rfl gg rfl (eo func85) (fun ρ S w' hb hR=>RA (id:=47) hR (by simp) rfl (Fl _) (by have:=Hc (c.us %4);omega))) ?_;refine AB (by exact DD (is:=[42,43,48]) (ks:=[_,_,_]) rfl rfl gg rfl rfl ⟨rfl,rfl,rfl,trivial⟩ rfl underlying106 (by kernel_rfl) (by kernel_rfl) (by decide) (by decide)) ?_;refine AB (by exact Bp (AQ (.mk 48 [] [_,_,_])) [49,42,43,48] rfl rfl gg rfl (eo func49) (fun ρ S w' hb hR=>Dj (is:=[42,43,48]) (q:=49) hR (by simp) (by simp) ⟨rfl,rfl,rfl,trivial⟩ rfl)) ?_;refine AB (by exact BG (D:=AQ (B0 [85,29,37])) [] rfl rfl gg rfl (eo func50) (fun ρ S w' hb hR=>Hq (b:=[85,29,37]) w' (by decide) (by decide))) ?_;iterate 2 refine AA ?_
 refine AB (by exact AN rfl gg rfl rfl (fun w=>dl hf.u0 hf.um _ _ w)) ?_;refine AB (by exact BG (D:=AQ (iT (c.us/4))) [] rfl rfl gg rfl (eo func82) (fun ρ S w' hb hR=>H3 (c.us/4) (by have:=hf.um;omega) w')) ?_;refine AB (by exact BG (D:=AQ (B4 (iT (c.us/4)))) [55] rfl rfl gg rfl (eo func85) (fun ρ S w' hb hR=>RA (id:=55) hR (by simp) rfl (Fl _) (by have:=Hc (c.us/4);omega))) ?_;refine AB (by exact DD (is:=[51,56]) (ks:=[_,_]) rfl rfl gg rfl rfl ⟨rfl,rfl,trivial⟩ rfl underlying106 (by kernel_rfl) (by kernel_rfl) (by decide) (by decide)) ?_;refine AB (by exact Bp (AQ (.mk 48 [] [_,_])) [57,51,56] rfl rfl gg rfl (eo func49) (fun ρ S w' hb hR=>Dj (is:=[51,56]) (q:=57) hR (by simp) (by simp) ⟨rfl,rfl,trivial⟩ rfl)) ?_;refine AB (by exact DD (is:=[41,50,58]) (ks:=[_,_,_]) rfl rfl gg rfl rfl ⟨rfl,rfl,rfl,trivial⟩ rfl underlying106 (by kernel_rfl) (by kernel_rfl) (by decide) (by decide)) ?_;refine AB (by exact Bp (AQ (.mk 48 [] [_,_,_])) [59,41,50,58] rfl rfl gg rfl (eo func49) (fun ρ S w' hb hR=>Dj (is:=[41,50,58]) (q:=59) hR (by simp) (by simp) ⟨rfl,rfl,rfl,trivial⟩ rfl)) ?_;refine AB (by exact DD (is:=[60]) (ks:=[_]) rfl rfl gg rfl rfl ⟨rfl,trivial⟩ rfl underlying106 (by kernel_rfl) (by kernel_rfl) (by decide) (by decide)) ?_;refine AB (by exact Bp (AQ (.mk 163 [] [_])) [61,60] rfl rfl gg rfl (eo func81) (fun ρ S w' hb hR=>YX (is:=[60]) (q:=61) hR (by simp) (by simp) ⟨rfl,trivial⟩ rfl)) ?_;refine AB (by exact DD (is:=[5,8,11,14,22,25,34,62]) (ks:=[_,_,_,_,_,_,_,_]) rfl rfl gg rfl rfl ⟨rfl,rfl,rfl,rfl,rfl,rfl,rfl,rfl,trivial⟩ rfl underlying106 (by kernel_rfl) (by kernel_rfl) (by decide) (by decide)) ?_;refine AB (by exact Bp (AQ (.mk 48 [] [_,_,_,_,_,_,_,_])) [63,5,8,11,14,22,25,34,62] rfl rfl gg rfl (eo func49) (fun ρ S w' hb hR=>Dj (is:=[5,8,11,14,22,25,34,62]) (q:=63) hR (by simp) (by simp) ⟨rfl,rfl,rfl,rfl,rfl,rfl,rfl,rfl,trivial⟩ rfl)) ?_;refine AB (by exact Ek (did:=64) rfl gg rfl rfl rfl rfl sizeOf108 rfl) ?_;refine k_g ?_;refine AG ?_;refine AD (AM results47 (BN rfl rfl underlying108 rfl sizeOf108 rfl)) ?_;intro ρ w' hr;exact⟨_,rfl,GH 64 hr rfl,hr.1⟩
theorem uK{t:Nat}:CRy 52 #[PT r t] w ((wrT (B1 r t)).1.length) ((wrT (B1 r t)).1.map b8):=by
 go_enter func52,ntmps52
 refine AO ?_;iterate 7 refine AA ?_
 refine AB (by exact NM (a:=0) (b:=32) rfl gg rfl underlying63 sizeOf5 rfl rfl (by decide) (by decide) (by decide)) ?_;refine AB (by exact K8 rfl gg rfl underlying46 (by decide)) ?_;refine AA ?_;refine AB (by exact BG (D:=AQ (tN (bl r))) [] rfl rfl gg rfl (eo func90) (fun ρ S w' hb hR=>Zd (bs:=bl r) (Es r) w')) ?_;refine Gg ?_;refine AB (by exact K8 rfl gg rfl underlying46 (by decide)) ?_;refine AA ?_;refine AB (by exact BG (D:=AQ (tN (bl t))) [] rfl rfl gg rfl (eo func90) (fun ρ S w' hb hR=>Zd (bs:=bl t) (Es t) w')) ?_;refine AB (by exact DD (is:=[9,13]) (ks:=[_,_]) rfl rfl gg rfl rfl ⟨rfl,rfl,trivial⟩ rfl underlying106 (by kernel_rfl) (by kernel_rfl) (by decide) (by decide)) ?_;refine AB (by exact Bp (AQ (.mk 48 [] [_,_])) [14,9,13] rfl rfl gg rfl (eo func49) (fun ρ S w' hb hR=>Dj (is:=[9,13]) (q:=14) hR (by simp) (by simp) ⟨rfl,rfl,trivial⟩ rfl)) ?_;refine AB (by exact DC [15] rfl rfl gg rfl (eo func46) (n:=(wrT (B1 r t)).1.length) (size:=1) (l:=(wrT (B1 r t)).1.map b8) (y:= .int .i64 (wrT (B1 r t)).2) (by simp) (fun ρ S w' hb hR=>Q9 15 (S5 r t) (by have:=cA r t;omega) hR (by simp) rfl)) ?_;iterate 11 refine AA ?_
 refine AG ?_;refine AD (AM results52 (AE rfl)) ?_;intro ρ w' hr;exact⟨_,rfl,BR hr rfl,hr.1⟩
theorem SE{c:Crt}{F:Nat→Prop}(hf:c.Fit)(hk:AJ w kv c.ky.length 1 (c.ky.map b8) F){t:Nat}:CRy 21 #[(.agg #[.int .i64 c.se,.string (AI c.is),.string (AI c.su),.int .i64 c.fr,.int .i64 c.to,kv,.bool c.ca,.int .i64 c.pa,.int .i64 c.us]),PT r t] w ((wrT (c.whole r t)).1.length) ((wrT (c.whole r t)).1.map b8):=by
 go_enter func21,ntmps21
 refine AO ?_;iterate 9 refine AA ?_
 refine AB (by exact BG (D:=AQ c.body) [] rfl rfl gg rfl (eo func47) (fun ρ S w' hb hR=>YT w' hf (Aa hk hb))) ?_;refine Tp ?_;refine AB (by exact DD (is:=[10]) (ks:=[_]) rfl rfl gg rfl rfl ⟨rfl,trivial⟩ rfl underlying106 (by kernel_rfl) (by kernel_rfl) (by decide) (by decide)) ?_;refine AB (by exact Bp (AQ (.mk 48 [] [_])) [11,10] rfl rfl gg rfl (eo func49) (fun ρ S w' hb hR=>Dj (is:=[10]) (q:=11) hR (by simp) (by simp) ⟨rfl,trivial⟩ rfl)) ?_;refine AA ?_;refine AB (by exact Cs [] rfl rfl gg rfl (eo func52) (n:=(wrT (B1 r t)).1.length) (size:=1) (l:=(wrT (B1 r t)).1.map b8) (by simp) (fun ρ S w' hb hR=>uK w')) ?_;refine AB (by exact BG (D:=AQ (EG (wrT (B1 r t)).1)) [14] rfl rfl gg rfl (eo func51) (fun ρ S w' hb hR=>TG w' (Dq (id:=14) hR (by simp) rfl) (by have:=EW (B1 r t);omega))) ?_;refine AB (by exact DD (is:=[9,12,15]) (ks:=[_,_,_]) rfl rfl gg rfl rfl ⟨rfl,rfl,rfl,trivial⟩ rfl underlying106 (by kernel_rfl) (by kernel_rfl) (by decide) (by decide)) ?_;refine AB (by exact Bp (AQ (.mk 48 [] [_,_,_])) [16,9,12,15] rfl rfl gg rfl (eo func49) (fun ρ S w' hb hR=>Dj (is:=[9,12,15]) (q:=16) hR (by simp) (by simp) ⟨rfl,rfl,rfl,trivial⟩ rfl)) ?_;refine AB (by exact DC [17] rfl rfl gg rfl (eo func46) (n:=(wrT (c.whole r t)).1.length) (size:=1) (l:=(wrT (c.whole r t)).1.map b8) (y:= .int .i64 (wrT (c.whole r t)).2) (by simp) (fun ρ S w' hb hR=>Q9 17 (G1 hf r t) (by have:=Zv hf r t;omega) hR (by simp) rfl)) ?_;iterate 11 refine AA ?_
 refine AG ?_;refine AD (AM results21 (AE rfl)) ?_;intro ρ w' hr;exact⟨_,rfl,BR hr rfl,hr.1⟩
theorem Ss{c:Crt}{F:Nat→Prop}(hf:c.Fit)(hk:AJ w kv c.ky.length 1 (c.ky.map b8) F)(hK:Au w)(hH:BD w)(hb1:8<w.heap.size):CBy 20 #[(.agg #[.int .i64 c.se,.string (AI c.is),.string (AI c.su),.int .i64 c.fr,.int .i64 c.to,kv,.bool c.ca,.int .i64 c.pa,.int .i64 c.us])] w (.agg ((sha [(wrT c.body).1].flatten).map b8).toArray):=by
 go_enter func20,ntmps20
 refine AO ?_;iterate 4 refine AA ?_
 iterate 3 refine k_g ?_
 refine AA ?_;refine AB (by exact BG (D:=AQ c.body) [] rfl rfl gg rfl (eo func47) (fun ρ S w' hb hR=>YT w' hf (Aa hk hb))) ?_;refine AB (by exact DC [7] rfl rfl gg rfl (eo func46) (n:=(wrT (c.body)).1.length) (size:=1) (l:=(wrT (c.body)).1.map b8) (y:= .int .i64 (wrT (c.body)).2) (by simp) (fun ρ S w' hb hR=>Q9 7 (RH hf) (by have:=Ym hf;omega) hR (by simp) rfl)) ?_;iterate 9 refine AA ?_
 refine AB (by exact JH (ys:=[.d 8]) (size:=1) (l:=[.d 8]) (ls:=[[.d 8]]) [8] rfl rfl gg rfl rfl rfl (fun ρ S w' hb hR j y lj hy hl=>by have h8:=CO (id:=8) hR (by simp) rfl;rcases j with _|j<;>simp only[List.getElem?_cons_zero,List.getElem?_cons_succ,List.getElem?_nil,Option.some.injEq,reduceCtorEq]at hy hl<;>(subst hy hl;exact h8.1)) (by simp) rfl rfl underlying32 (by kernel_rfl) (by kernel_rfl) (by decide) (by decide)) ?_;refine AB (by exact Aj (v:= .agg ((sha [(wrT c.body).1].flatten).map b8).toArray) [8,12] rfl gg rfl (eo func48) (fun ρ S w' hb hR=>ZW (ls:=[(wrT c.body).1]) w' (hK.bw hb) (hH.bw hb) (Nat.lt_of_lt_of_le hb1 hb.size) (GN (id:=12) (n:=1) (by simp) (by rfl) rfl (by exact⟨⟨MJ (id:=8) (by simp) rfl,FT (RH hf)⟩,trivial⟩) ρ S w' hb hR) (He hb hR) (by have:=EW c.body;simp;omega) (by simp))) ?_;refine AA ?_;refine k_g ?_;exact AG (AD (AM results20 (Ad rfl rfl underlying46 rfl sizeOf46 rfl rfl)) fun _ _ hr=>⟨rfl,hr.1⟩)
def AL:List Nat→Tr→Tr
 | [],t=>t
 |i::is,.mk _ _ ks=>match ks[i]? with
  |some k=>AL is k
  |none=>noT
theorem fo:noT.ok:=E7 (fun _ h=>(by cases h)) (by simp)
theorem A8: ∀(p:List Nat) {t:Tr},t.ok→(AL p t).ok
 | [],_,h=>h
 |i::is,.mk _ _ ks,h=>by
  rw[AL];cases hk:ks[i]? with
  |none=>exact fo
  |some k=>simp only[Tr.ok]at h;exact A8 is (MU h.2.2.2 hk)
theorem eZ{t:Int}{k:Tr}(h:ks[i]? =some k):AL (i::is) (.mk t b ks)=AL is k:=by rw[AL,h]
theorem ef{t:Int}(h:ks.length≤i):AL (i::is) (.mk t b ks)=noT:=by rw[AL,List.getElem?_eq_none h]
theorem gG(a c:Nat):decide ((a:Int)≤(c:Int))=decide (a≤c):=decide_eq_decide.2 (by omega)
theorem UQ{w:World}{F:Nat→Prop}:DN w F noT [.int .i64 0,.slice none 0 0,.slice none 0 0]:=by
 simp only[noT,DN,DNs];exact⟨_,_,[],rfl,⟨none,0,rfl,Nat.le_refl _,rfl,.inl rfl⟩,⟨none,0,rfl,Nat.le_refl _,rfl,.inl rfl⟩,rfl⟩
theorem UJ{w:World}{F:Nat→Prop}{x y:Value}(h:DN w F t [x,y,z]):((Value.agg #[x,y,z]).cells.toList.all fun x=>x.oneCell')=true:=FR h
def DY(p:List Nat):List Value:=p.map fun i=>Value.int .i64 (i:Nat)
theorem mg{x:Nat}(h:p[i]? =some x):(DY p)[i]? =some (.int .i64 (x:Nat)):=by rw[DY,List.getElem?_map,h];rfl
theorem ec{c:List Value}{pv:Value}{F G:Nat→Prop}(hx:DN w F t c)(hp:AJ w pv p.length 1 (DY p) G)(hm:p.length≤1048576):Calls prog 92 #[.agg c.toArray,pv] w fun e w'=> ∃c',e= .returned (.agg c'.toArray)∧DN w F (AL p t) c'∧Bw w w':=by
 obtain⟨y0,y1,y2,rfl⟩:=FB (CM hx);obtain⟨R,hR0⟩: ∃R,AL p t=R:=⟨_,rfl⟩
 rw[hR0]
 go_enter func92,ntmps92
 refine AO ?_;iterate 9 refine AA ?_
 refine AB (by exact BM rfl gg rfl underlying194 (AW hp)) ?_;iterate 3 refine AA ?_
 refine B7 (α:={x:Nat×Tr×Value×Value×Value // x.1≤p.length∧DN w F x.2.1 [x.2.2.1,x.2.2.2.1,x.2.2.2.2]∧AL (p.drop x.1) x.2.1=R}) (fun(x:{x:Nat×Tr×Value×Value×Value // x.1≤p.length∧DN w F x.2.1 [x.2.2.1,x.2.2.2.1,x.2.2.2.2]∧AL (p.drop x.1) x.2.1=R}) f=>⟨.v (f 0):: .v pv:: .p 2 0:: .v (f 3):: .p 4 0:: .v (f 5):: .v (f 6):: .v pv:: .v (.int .i64 (p.length:Nat)):: .v (.int .i64 (x.1.1:Nat))::fv f 16 10 [],AK [(2,.cells [.v x.1.2.2.1,.v x.1.2.2.2.1,.v x.1.2.2.2.2] 108),(4,.cells [.v (.int .i64 0),.v (.slice none 0 0),.v (.slice none 0 0)] 108)]⟩) (fun x=>p.length-x.1.1) ?_ (⟨(0,t,y0,y1,y2),Nat.zero_le _,hx,hR0⟩) ?_
 ·rintro⟨⟨i,u,z0,z1,z2⟩,hi,hu,hu2⟩ f
  simp only at hi hu hu2;obtain⟨tg,b,ks,rfl⟩: ∃tg b ks,u=Tr.mk tg b ks:=by cases u with|mk tg b ks=>exact⟨tg,b,ks,rfl⟩
  have hu':=hu;simp only[DN]at hu';obtain⟨bv',kv',cs',h_e,hb',hk',hn'⟩:=hu';simp only[List.cons.injEq,and_true]at h_e;obtain⟨rfl,rfl,rfl⟩:=h_e;obtain⟨q,h_q⟩: ∃q,decide (i<p.length)=q:=⟨_,rfl⟩
  have h_q':=(Cw i p.length).trans h_q;change VOk _ _ _ _ _;simp only[fv,Nat.reduceAdd];iterate 2 refine k_g ?_
  refine AB (by exact A4 rfl gg rfl rfl h_q') ?_;iterate 2 refine k_g ?_
  cases q
  ·refine k_g ?_
   have hie:p.drop i=[]:=List.drop_eq_nil_of_le (by have:=of_decide_eq_false h_q;omega);rw[hie,AL]at hu2;refine Aq ?_;change VOk _ _ _ _ _;iterate 2 refine k_g ?_
   refine AA ?_;refine PF ?_;refine k_g ?_;refine AG ?_;refine AD (AM results92 (Ad rfl rfl underlying108 rfl sizeOf108 rfl rfl)) ?_;intro ρ w' hr;subst hu2;first|exact⟨_,rfl,UQ,hr.1⟩|exact⟨_,rfl,hu,hr.1⟩
  ·refine k_g ?_
   have hlt:=of_decide_eq_true h_q;obtain⟨j,hj⟩:=Gh hlt;obtain⟨r,h_r⟩: ∃r,decide (ks.length≤j)=r:=⟨_,rfl⟩
   have h_r':=(gG ks.length j).trans h_r;iterate 5 refine k_g ?_
   refine dp ?_;refine dn ?_;iterate 7 refine AA ?_
   refine AB (by first|exact Cl rfl gg rfl rfl underlying106 rfl rfl|exact Ck rfl gg rfl underlying106 rfl (by assumption)) ?_;refine AB (by exact BM rfl gg rfl underlying106 (AW hk')) ?_;refine AB (by exact Dh rfl gg rfl rfl h_r') ?_;refine k_g ?_;cases r
   ·refine k_g ?_
    have hjl:j<ks.length:=by have:=of_decide_eq_false h_r;omega
    obtain⟨kk,hk⟩:=Gh hjl;obtain⟨c2,hc2,hd2⟩:=LX hn' hk;obtain⟨tg2,b2,ks2,rfl⟩: ∃tg b ks,kk=Tr.mk tg b ks:=by cases kk with|mk tg b ks=>exact⟨tg,b,ks,rfl⟩
    have hd3:=hd2;simp only[DN]at hd3;obtain⟨bv2,kv2,cs2,rfl,_,_,_⟩:=hd3;iterate 2 refine k_g ?_
    refine AA ?_;refine AB (by first|exact Cl rfl gg rfl rfl underlying106 rfl rfl|exact Ck rfl gg rfl underlying106 rfl (by assumption)) ?_;refine AA ?_;refine AB (by exact BU (k:=j) rfl gg rfl rfl underlying106 sizeOf108 (AW hk') (hjl) (by decide)) ?_;refine AB (by exact NN rfl gg rfl underlying108 rfl sizeOf108 (AW hk') (hc2) rfl (by decide)) ?_;refine PF ?_;iterate 2 refine k_g ?_
    refine Fc ?_;iterate 2 refine AA ?_
    refine⟨⟨(i+1,.mk tg2 b2 ks2,.int .i64 tg2,bv2,kv2),by show i+1≤p.length;omega,hd2,by show AL (p.drop (i+1)) _=R;rw[←hu2,Di hj,eZ hk]⟩,by show p.length-(i+1)<p.length-i;omega,?_⟩;exact Al (fun i=>i==1||i==2||i==4||i==7||i==8||i==9) []
   ·refine k_g ?_
    have hge:=of_decide_eq_true h_r;rw[Di hj,ef hge]at hu2;iterate 2 refine k_g ?_
    refine k_9 ?_;refine PF ?_;refine k_g ?_;refine AG ?_;refine AD (AM results92 (Ad rfl rfl underlying108 rfl sizeOf108 rfl rfl)) ?_;intro ρ w' hr;subst hu2;first|exact⟨_,rfl,UQ,hr.1⟩|exact⟨_,rfl,hu,hr.1⟩
 ·exact(Al (fun i=>i==1||i==2||i==4||i==7||i==8||i==9) []).trans2 (fun f=>Le (by show(4:Nat)≠2;decide))
section
variable{P:Program}{w0:World}{ops:Array Oper}{o:Oper}{s:VS}
def Ro(w0:World)(m:Mem)(rd:List Nat)(y:SV)(n size:Nat):Prop:= ∀ρ S w,Bw w0 w→RelOn w0.heap.size ρ S w (restr rd m)→ ∃l F,AJ w (y.c ρ) n size l F
theorem NQ{t:TypeId}(ho:o.op= .call {callee:= .builtin .len,args:= #[x],argTypes:= #[t]})(hgd:AR ops o s)(hx:AC s x=y)
 (hu:P.underlying t=some (.slice e))(hr:Ro w0 s.mem rd y n size):Ev P ops w0 o s ⟨.v (.int .i64 (n:Nat)),[],[],[],rd⟩:=
 Ev.run _ _ hgd fun ρ S w hb hR=>by
  have e1:=AH s ρ x;rw[hx]at e1;obtain⟨_,_,ao,cap,h1,_⟩:=hr ρ S w hb hR;rw[h1]at e1;simp[execOp,ho,resolve,invoke,builtin,e1,Builtin.len_,run_underlying hu,SV.c,goInt]
theorem XL{ty:TypeId}{ix:Operand}(ho:o.op= .indexAddr ty x ix)(hgd:AR ops o s)(hx:AC s x=y)(hi:AC s ix= .v (.int ki (k:Nat)))
 (hu:P.underlying ty=some (.slice e))(hs: ∀w,(Go.sizeOf e).run P w= .ok size w)(hr:Ro w0 s.mem rd y n size)(hk:k<n)(hsz:0<size):Ev P ops w0 o s ⟨.fn (EH (k*size)) y,[],[],[],rd⟩:=
 Ev.run _ _ hgd fun ρ S w hb hR=>by
  have e1:=AH s ρ x;rw[hx]at e1;have e2:=AH s ρ ix;rw[hi]at e2;obtain⟨l,_,ao,cap,h3,h4,h5,h6⟩:=hr ρ S w hb hR;rw[h3]at e1;rcases h6 with h6|⟨g,rfl,_⟩
  ·exfalso
   rw[h6]at h5;have:0<n*size:=Nat.mul_pos (by omega) hsz;simp at h5;omega
  ·simp[execOp,ho,e1,e2,SV.c,Instr.indexAt,asIntOf,run_underlying hu,hs,h3,EH,hk]
theorem XH{ty:TypeId}{off:Nat}{D:Dat}(_hd:o.dst=some id)(ho:o.op= .load ty x)(hgd:AR ops o s)(hx:AC s x= .fn (EH off) y)
 (hu:P.underlying ty=some d)(hda:Bc d=true)(hs: ∀w,(Go.sizeOf ty).run P w= .ok k w)
 (hr: ∀ρ S w,Bw w0 w→RelOn w0.heap.size ρ S w (restr rd s.mem)→ ∃l F vs S',AJ w (y.c ρ) n size l F∧(l.drop off).take k=vs∧D.holds [.agg vs.toArray] w S'∧ ∀q,S' q→ ∃j∈rd,(s.mem j).isSome∧S j q)
 (hl: ∀(vs:List Value) w S,D.holds [.agg vs.toArray] w S→vs.length=k)(hk:0<k):Ev P ops w0 o s ⟨.d id,[(id,.dat D)],[],[id],rd⟩:=
 ⟨by simp[Eff.ok],.inr ⟨hgd,fun ρ S w hb hR=>by
  have e1:=AH s ρ x;rw[hx]at e1;obtain⟨l,F,vs,S',⟨ao,cap,h3,h4,h5,h6⟩,hv,hD,hS⟩:=hr ρ S w hb hR;have hlen:=hl vs w S' hD;rcases h6 with h6|⟨g,rfl,_,h6⟩
  ·exfalso;rw[h6]at hv;simp at hv;rw[hv]at hlen;simp at hlen;omega
  ·have hl':(loadCells (g.add off) vs.length).run P w= .ok vs.toArray w:=run_loadCells_list w _ vs fun j v hj=>by
    rw[Rc];refine h6 _ v ?_;rw[←hv,List.getElem?_take]at hj;split at hj
    ·rwa [List.getElem?_drop]at hj
    ·cases hj
   rw[hlen]at hl'
   have hrun:(execOp (s.act ρ).eval o).run P w= .ok (.value (.agg vs.toArray)) w:=by
    simp[execOp,ho,e1,SV.c,h3,EH,Instr.loadAt,Instr.sureAddr,loadVar,Bu hu,hda,hs,hl']
   refine .inl ⟨_,w,hrun,fun j=>if j=id then⟨0,.agg vs.toArray⟩else ρ j,fun _=>S',?_⟩
   have:=Cu (base:=w0.heap.size) (t:=s.mem) (ρ:=ρ) (S:=S) (w:=w) (w':=w) (val:= .d id) (rd:=rd) (up:=[]) (id:=id) (b:= .dat D) (m:=⟨0,.agg vs.toArray⟩) (S1:=S')
    rfl rfl rfl (Nat.le_refl _) (fun k hk _=>rfl) (fun ρ' g1 _=>by show D.holds [(ρ' id).val] w S';rw[g1];exact hD) (fun q hq=> .inl (hS q hq)) (fun ho=>ho.elim)
   simpa[SV.c] using this⟩⟩
end
theorem Xp(vs:List Value)(w:World)(S:Nat→Prop)(h:(AQ t).holds [.agg vs.toArray] w S):vs.length=3:=by
 obtain⟨c,h1,h2⟩:=h;simp only[List.cons.injEq,Value.agg.injEq,and_true]at h1;have:=CM h2;have e:vs=c:=by simpa using h1
 rw[e];exact this
section
variable{w0:World}{m:Mem}{id:Nat}{t:Int}{b:List Nat}{ks:List Tr}
theorem Is(hm:m id=some (.dat (AQ (.mk t b ks)))):Ro w0 m [id] (.fn (AU 2) (.d id)) ks.length 3:=fun ρ S w _ hR=>by
 obtain⟨c,h1,h2⟩:=CY hR (by simp) hm;rw[DN]at h2;obtain⟨bv,kv,cs,rfl,h3,h4,_⟩:=h2;exact⟨cs,_,by simp only[SV.c,h1];exact h4⟩
theorem Vh{_k:Nat}{u:Tr}(hm:m id=some (.dat (AQ (.mk t b ks))))(hk:ks[i]? =some u): ∀ρ S w,Bw w0 w→RelOn w0.heap.size ρ S w (restr [id] m)→ ∃l F vs S',AJ w ((SV.fn (AU 2) (.d id)).c ρ) ks.length 3 l F∧(l.drop (i*3)).take 3=vs∧(AQ u).holds [.agg vs.toArray] w S'∧ ∀q,S' q→ ∃j∈[id],(m j).isSome∧S j q:=fun ρ S w _ hR=>by
 obtain⟨c,h1,h2⟩:=CY hR (by simp) hm;rw[DN]at h2;obtain⟨bv,kv,cs,rfl,h3,h4,h5⟩:=h2;obtain⟨x,hx,hd⟩:=LX h5 hk;exact⟨cs,_,x,S id,by simp only[SV.c,h1];exact h4,hx,⟨x,rfl,hd⟩,fun q hq=>⟨id,by simp,by rw[hm];rfl,hq⟩⟩
end
theorem TX{m:Mem}(hm:m id=some (.dat (AQ t))):Rdg w0 m [id] (.fn (AU 1) (.d id)) (B6 t).length 1 ((B6 t).map b8):=fun ρ S w _ hR=>by
 obtain⟨c,h1,h2⟩:=CY hR (by simp) hm;cases t with
 |mk t b ks=>
  rw[DN]at h2;obtain⟨bv,kv,cs,rfl,h3,_,_⟩:=h2;exact⟨_,by simp only[SV.c,h1];exact h3⟩
theorem XM(ho:o.op= .field 108 x 1)(hgd:AR ops o s)(hx:AC s x= .d id)(hm:s.mem id=some (.dat (AQ t))):Ev prog ops w0 o s ⟨.fn (AU 1) (.d id),[],[],[],[id]⟩:=
 Ev.run _ _ hgd fun ρ S w _ hR=>by
  have e1:=AH s ρ x;rw[hx]at e1;obtain⟨c,h1,h2⟩:=CY (id:=id) hR (by simp) hm;obtain⟨y0,y1,y2,rfl⟩:=FB (CM h2);simp[execOp,ho,e1,SV.c,h1,AU,Value.cells,Instr.field,run_underlying underlying108,Bu underlying26,asAgg,part,Bc]
section
variable{w:World}{base:Nat}{ρ:Nat→Nm}{S:Nat→Nat→Prop}{m:Mem}{rd:List Nat}{t:Tr}
theorem EC(i q:Nat)(p:List Nat)(hR:RelOn base ρ S w (restr rd m))(hi:i∈rd)(hq:q∈rd)(h1:m i=some (.dat (AQ t)))(h2:m q=some (.row p.length 1 3 (.exact (DY p))))(hm:p.length≤1048576:=by decide):
 Calls prog 92 (SV.cs ρ [.agg [.fn (AU 0) (.d i),.fn (AU 1) (.d i),.fn (AU 2) (.d i)],.d q]).toArray w fun e w'=> ∃v S',e= .returned v∧(AQ (AL p t)).holds [v] w' S'∧(∀k,S' k→(∃j∈rd,(m j).isSome∧S j k)∨(w.heap.size≤k∧k<w'.heap.size))∧Bw w w':=by
 obtain⟨c,e1,d1⟩:=Y9 hR hi h1;have hs:=Dq hR hq h2;simp only[SV.cs,e1];exact(ec w d1 hs hm).mono fun e w' ⟨c',a1,a2,a3⟩=>⟨_,S i,a1,⟨c',rfl,Dk a3 a2⟩,fun k hk=> .inl ⟨i,hi,by rw[h1];rfl,hk⟩,a3⟩
end
def BF(t:Tr):Int:=bif decide ((tnN t).2≠0)then-1 else(tnN t).1
def CR(t:Tr):Tr:=(rdT (B6 t)).1
def Bv(t:Tr):List Nat:=(B6 t).drop 1
theorem Qa(h:t.ok):(CR t).ok:=by
 cases t with
 |mk t b ks=>simp only[Tr.ok]at h;exact J7 h.1 h.2.1
theorem Gp(h:t.ok):(∀x∈B6 t,x<256)∧(B6 t).length≤1048576:=by
 cases t with
 |mk t b ks=>simp only[Tr.ok]at h;exact⟨h.1,h.2.1⟩
theorem LB{w:World}{F:Nat→Prop}{x y:Value}(h:DN w F t [x,y,z]):AJ w y (B6 t).length 1 ((B6 t).map b8) F:=by
 cases t with
 |mk t b ks=>
  rw[DN]at h;obtain⟨bv,kv,cs,e,h3,_,_⟩:=h;simp only[List.cons.injEq,and_true]at e;obtain⟨rfl,rfl,rfl⟩:=e;exact h3
def wiB(n a c:Int):Bool:=decide (n≥a) && decide (n≤c)
def Fg(s:List Nat):Bool:=decide ((twN (utT s)).2=0) && decide ((twN (utT s)).1≠[])
theorem ff{c:List Value}{F:Nat→Prop}(hok:t.ok)(hx:DN w F t c):CBy 93 #[.agg c.toArray] w (.int .i64 (BF t)):=by
 obtain⟨y0,y1,y2,rfl⟩:=FB (CM hx);obtain⟨q,h_q⟩: ∃q,decide ((tnN t).2≠0)=q:=⟨_,rfl⟩
 have hn:BF t=bif q then-1 else(tnN t).1:=by rw[BF,h_q]
 rw[hn]
 go_enter func93,ntmps93
 refine AO ?_;iterate 8 refine AA ?_
 refine AB (by exact Ah (v:= .tuple #[.int .i64 (tnN t).1,.int .i64 (tnN t).2]) rfl gg rfl (eo func118) (fun w' hw'=>aO w' hok (Dk hw' hx))) ?_;iterate 10 refine AA ?_
 refine AB (by exact A0 rfl gg rfl rfl h_q) ?_;refine k_g ?_;cases q
 ·iterate 7 refine AA ?_
  exact AG (AD (AM results93 (AE rfl)) fun _ _ hr=>⟨rfl,hr.1⟩)
 ·iterate 5 refine AA ?_
  exact AG (AD (AM results93 (AE rfl)) fun _ _ hr=>⟨rfl,hr.1⟩)
theorem mi{c:List Value}{F:Nat→Prop}(hok:t.ok)(hx:DN w F t c):CDy 96 #[.agg c.toArray] w (AQ (CR t)):=by
 obtain⟨y0,y1,y2,rfl⟩:=FB (CM hx)
 go_enter func96,ntmps96
 refine AO ?_;iterate 4 refine AA ?_
 iterate 3 refine k_g ?_
 iterate 2 refine AA ?_
 refine AB (by exact Cg (D:=AQ (rdT (B6 t)).1) (ys:=[.int .i64 (rdT (B6 t)).2]) [] rfl rfl gg rfl (eo func91) (fun ρ S w' hb hR=>Rn w' (Aa (LB hx) hb) (Gp hok).1 (Gp hok).2)) ?_;iterate 4 refine AA ?_
 refine Ti ?_;iterate 5 refine AA ?_
 refine Ti ?_;refine k_g ?_;refine AG ?_;refine AD (AM results96 (BN rfl rfl underlying108 rfl sizeOf108 rfl)) ?_;intro ρ w' hr;exact⟨_,rfl,GH 8 hr rfl,hr.1⟩
theorem pt{c:List Value}{F:Nat→Prop}(_hok:t.ok)(hx:DN w F t c):Calls prog 95 #[.agg c.toArray] w fun e w'=> ∃v,e= .returned v∧AJ w' v (Bv t).length 1 ((Bv t).map b8) F∧Bw w w':=by
 obtain⟨y0,y1,y2,rfl⟩:=FB (CM hx);obtain⟨q,h_q⟩: ∃q,decide (((B6 t).length:Int)=0)=q:=⟨_,rfl⟩
 go_enter func95,ntmps95
 refine AO ?_;iterate 10 refine AA ?_
 refine AB (by exact BM rfl gg rfl underlying26 (AW (LB hx))) ?_;refine AB (by exact Ax rfl gg rfl rfl h_q) ?_;refine k_g ?_;cases q
 ·iterate 4 refine k_g ?_
  iterate 2 refine AA ?_
  refine AB (by exact Gl (a:=1) (b:=(B6 t).length) (v':=As (1) ((B6 t).length) 1 y1) rfl gg rfl underlying26 sizeOf5 (AW (LB hx)) rfl rfl (by have:=of_decide_eq_false h_q;omega) (Nat.le_refl _) rfl) ?_;iterate 2 refine AA ?_
  refine AG ?_;refine AD (AM results95 (AE rfl)) ?_;intro ρ w' hr;first|exact⟨_,rfl,by rw[Bv,hz];exact⟨none,0,rfl,Nat.le_refl _,rfl,.inl rfl⟩,hr.1⟩|exact⟨_,rfl,Aa (Lo (LB hx) (by have:=of_decide_eq_false h_q;omega)) hr.1,hr.1⟩
 ·refine k_g ?_
  have hz:B6 t=[]:=List.eq_nil_of_length_eq_zero (by have:=of_decide_eq_true h_q;omega);iterate 4 refine AA ?_
  refine AG ?_;refine AD (AM results95 (AE rfl)) ?_;intro ρ w' hr;first|exact⟨_,rfl,by rw[Bv,hz];exact⟨none,0,rfl,Nat.le_refl _,rfl,.inl rfl⟩,hr.1⟩|exact⟨_,rfl,Aa (Lo (LB hx) (by have:=of_decide_eq_false h_q;omega)) hr.1,hr.1⟩
theorem Dm{n a c:Int}:CBy 35 #[.int .i64 n,.int .i64 a,.int .i64 c] w (.bool (wiB n a c)):=by
 obtain⟨p,h_p⟩: ∃p,decide (n≥a)=p:=⟨_,rfl⟩
 obtain⟨q,h_q⟩: ∃q,decide (n≤c)=q:=⟨_,rfl⟩
 rw[wiB,h_p,h_q]
 go_enter func35,ntmps35
 refine AO ?_;cases p<;>cases q<;>
 (
  iterate 8 refine AA ?_
  refine AB (by exact K6 rfl gg rfl rfl h_p) ?_;iterate 3 refine AA ?_
  refine AB (by first|exact Ev.skip (fun _=>rfl)|exact Ev.skip (fun _=>rfl)|exact XI rfl (fun _=>rfl) rfl rfl h_q) ?_;refine k_9 ?_;iterate 2 refine AA ?_
  exact AG (AD (AM results35 (AE rfl)) fun _ _ hr=>⟨rfl,hr.1⟩)
 )
theorem Pe{s:List Nat}(h8: ∀x∈s,x<256)(hl:s.length≤1048576):CBy 36 #[.string (AI s)] w (.bool (Fg s)):=by
 obtain⟨p,h_p⟩: ∃p,decide ((twN (utT s)).2=0)=p:=⟨_,rfl⟩
 obtain⟨q,h_q⟩: ∃q,decide ((twN (utT s)).1≠[])=q:=⟨_,rfl⟩
 have ht8: ∀x∈(twN (utT s)).1,x<256:=by
  unfold twN;cases Lb (utT s)
  ·simp
  ·exact h8
 rw[Fg,h_p,h_q]
 go_enter func36,ntmps36
 refine AO ?_;cases p<;>cases q<;>
 (
  iterate 7 refine AA ?_
  refine AB (by exact BG (D:=AQ (utT s)) [] rfl rfl gg rfl (eo func67) (fun ρ S w' hb hR=>ZJ h8 (by simp only[maxLen];omega) w')) ?_;refine AB (by exact Aj (v:= .tuple #[.string (AI (twN (utT s)).1),.int .i64 (twN (utT s)).2]) [7] rfl gg rfl (eo func66) (fun ρ S w' hb hR=>qT 7 (E7 h8 hl) hR (by simp) rfl)) ?_;iterate 9 refine AA ?_
  refine AB (by exact Ax rfl gg rfl rfl h_p) ?_;iterate 2 refine AA ?_
  refine AB (by first|exact Ev.skip (fun _=>rfl)|exact Ev.skip (fun _=>rfl)|exact AN rfl (fun _=>rfl) rfl rfl (fun w=>L5 h_q ht8 (by simp) _ _ w)) ?_;refine k_9 ?_;iterate 2 refine AA ?_
  exact AG (AD (AM results36 (AE rfl)) fun _ _ hr=>⟨rfl,hr.1⟩)
 )
section
variable{w:World}{base:Nat}{ρ:Nat→Nm}{S:Nat→Nat→Prop}{m:Mem}{rd:List Nat}{t:Tr}
theorem JR(i:Nat)(hok:t.ok)(hR:RelOn base ρ S w (restr rd m))(hi:i∈rd)(h1:m i=some (.dat (AQ t))):CBy 93 (SV.cs ρ [.d i]).toArray w (.int .i64 (BF t)):=by
 obtain⟨c,e1,d1⟩:=CY hR hi h1;simp only[SV.cs,SV.c,e1];exact ff w hok d1
theorem RB(i:Nat)(hok:t.ok)(hR:RelOn base ρ S w (restr rd m))(hi:i∈rd)(h1:m i=some (.dat (AQ t))):CDy 96 (SV.cs ρ [.d i]).toArray w (AQ (CR t)):=by
 obtain⟨c,e1,d1⟩:=CY hR hi h1;simp only[SV.cs,SV.c,e1];exact mi w hok d1
theorem Ya(i:Nat)(hok:t.ok)(hR:RelOn base ρ S w (restr rd m))(hi:i∈rd)(h1:m i=some (.dat (AQ t))):Calls prog 95 (SV.cs ρ [.d i]).toArray w fun e w'=> ∃v S',e= .returned v∧(Dat.sl (Bv t).length 1 ((Bv t).map b8)).holds [v] w' S'∧(∀k,S' k→(∃j∈rd,(m j).isSome∧S j k)∨(w.heap.size≤k∧k<w'.heap.size))∧Bw w w':=by
 obtain⟨c,e1,d1⟩:=CY hR hi h1;simp only[SV.cs,SV.c,e1];exact(pt w hok d1).mono fun e w' ⟨v,a1,a2,a3⟩=>⟨v,S i,a1,⟨v,rfl,a2⟩,fun k hk=> .inl ⟨i,hi,by rw[h1];rfl,hk⟩,a3⟩
end
end Go.Proofs.YtefpajmkaaielaaGreatDoor
