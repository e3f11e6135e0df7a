import Derived.Test.YtafbhakmkbehiaaGreatDoorZ22
import Derived.Test.YtafbhakmkbehiaaGreatDoorZ23
import Derived.Test.YtafbhakmkbehiaaGreatDoorZ24
open Go.Proofs.Tryz
set_option maxHeartbeats 4000000
set_option maxRecDepth 100000
namespace Go.Proofs.YtafbhakmkbehiaaGreatDoor
open Go.RowKit Go.Vx
variable(w:World){parts:Array (Nat×Operand)}{ops:Array Oper}{xs:Array Operand}{ats:Array TypeId}{f:FuncId}{ki:IntKind}{b is p rd:List Nat}{vs:List SV}{ks:List Tr}{i id k n q r size:Nat}{S:Nat→Nat→Prop}{ρ:Nat→Nm}{o:Oper}{x:Operand}{P:Program}{y:SV}{t:Tr}{d:TypeDesc}{bt e ty:TypeId}{s:VS}{kv v z:Value}{w0:World}
open Go.Toll (Gw)
theorem A0(D:Dat)(rd:List Nat)(_hd:o.dst=some id)(ho:o.op= .call {callee:= .value (.func f),args:=xs,argTypes:=ats})(hgd:AQ ops o s)
 (hx:xs.toList.map (AE s)=vs)(he: ∀args w,(callFunc f args).run P w= .ok (.enter f args) w)
 (hc: ∀ρ S w,Bw w0 w→RelOn w0.heap.size ρ S w (restr rd s.mem)→Calls P f (SV.cs ρ vs).toArray w fun e w'=> ∃v S',e= .returned v∧D.holds [v] w' S'∧(∀k,S' k→(∃j∈rd,(s.mem j).isSome∧S j k)∨(w.heap.size≤k∧k<w'.heap.size))∧Bw w w'):Ev P ops w0 o s ⟨.d id,[(id,.dat D)],[],[id],rd⟩:=
 ⟨by simp[Eff.ok],.inr ⟨hgd,fun ρ S w hb hR=> .inr (.inr ⟨f,(SV.cs ρ vs).toArray,by
  obtain⟨dst,op,type,pos,after,guard⟩:=o;simp only at ho;subst ho;rw[execOp_call_go,G7,hx,←A8]
  simpa using he (SV.cs ρ vs).toArray w,(hc ρ S w hb hR).mono fun e w' ⟨v,S',h1,h3,h4,h5⟩=>⟨_,h1,_,_,by
   have:=Cj (base:=w0.heap.size) (t:=s.mem) (ρ:=ρ) (S:=S) (w:=w) (w':=w') (val:= .d id) (rd:=rd) (up:=[]) (id:=id) (b:= .dat D) (m:=⟨0,v⟩) (S1:=S')
    h5.os h5.tape h5.output h5.size (fun k hk _=>h5.block k hk) (fun ρ' g1 _=>by show D.holds [(ρ' id).val] w' S';rw[g1];exact h3) h4 (fun ho=>ho.elim)
   simpa[SV.c] using this⟩⟩)⟩⟩
theorem T1(a b:Bool)(p q:Operand)(w:World):(do eqGuard .eql 4 p q (.bool a) (.bool b);binOp .eql 4 (.bool a) (.bool b):Sem Value).run prog w= .ok (.bool (a==b)) w:=by
 go_simp
 try (cases a<;>cases b<;>rfl)
open TollMont
open TollEc (F pp cb Jp Pt Au add base nn neg)
open TollSha (sha CH)
def tri(is:List Nat):List SV:=is.flatMap fun i=>[.fn (AN 0) (.d i),.fn (AN 1) (.d i),.fn (AN 2) (.d i)]
def Jt(m:Mem):List Nat→List Tr→Prop
 | [],[]=>True
 |i::is,t::ts=>m i=some (.dat (AR t))∧Jt m is ts
 |_,_=>False
theorem Ub{m:Mem}: ∀{is:List Nat} {ks:List Tr},Jt m is ks→is.length=ks.length
 | [],[],_=>rfl
 |_::_,_::_,h=>by simp[Ub h.2]
 | [],_::_,h=>h.elim
 |_::_,[],h=>h.elim
theorem cT{m:Mem}: ∀{is:List Nat} {ks:List Tr},Jt m is ks→ ∀i∈is,∃t,m i=some (.dat (AR t))
 |_::_,_::_,h,i,hi=>by
  rcases List.mem_cons.1 hi with rfl|hi
  ·exact⟨_,h.1⟩
  ·exact cT h.2 i hi
 | [],_,_,_,hi=>by cases hi
 |_::_,[],h,_,_=>h.elim
section
variable{ρ:Nat→Nm}{S:Nat→Nat→Prop}{w:World}{base:Nat}{m:Mem}{rd:List Nat}
abbrev Ic(S:Nat→Nat→Prop)(m:Mem)(rd:List Nat):Nat→Prop:=fun k=> ∃j∈rd,(m j).isSome∧S j k
theorem Uc(hR:RelOn base ρ S w (restr rd m)): ∀{is:List Nat} {ks:List Tr},Jt m is ks→(∀i∈is,i∈rd)→ ∃cs,SV.cs ρ (tri is)=cs∧DNs w (Ic S m rd) ks cs∧cs.length=is.length*3∧cs.all (·.oneCell')=true
 | [],[],_,_=>⟨[],rfl,rfl,rfl,rfl⟩
 |i::is,t::ts,h,hi=>by
  obtain⟨cs,h1,h2,h3,h4⟩:=Uc hR h.2 fun j hj=>hi j (by simp[hj])
  obtain⟨c,e1,d1⟩:=Cd hR (hi i (by simp)) h.1;have f1:=(fn3 e1 (CS d1)).2;refine⟨c++cs,?_,⟨c,cs,rfl,Ur (fun k hk=>⟨i,hi i (by simp),by rw[h.1];rfl,hk⟩) d1,h2⟩,by rw[List.length_append,CS d1,h3,List.length_cons];omega,by rw[List.all_append,HB d1,h4];rfl⟩;rw[←f1,←h1];simp[tri,A8]
 | [],_::_,h,_=>h.elim
 |_::_,[],h,_=>h.elim
end
theorem Dh(hd:o.dst=some id)(ho:o.op= .buildSlice ty n parts)(hgd:AQ ops o s)
 (hp:parts.toList.map (·.1)=List.range' 0 n)(hx:parts.toList.map (fun p=>AE s p.2)=is.map .d)(ha:Jt s.mem is ks)(hid:SV.hasL id (tri is)=false)
 (hu:P.underlying ty=some (.slice e))(hsz:(P.info? e).map (·.size)=some 3)(hz:((P.info? e).bind (·.zero)).isSome=true)(hpos:0<n*3)(hsm:n*3≤2^24):
 Ev P ops w0 o s ⟨.s id 0 n n,[(id,.cells (tri is) e)],[],[id],is⟩:=
 NU (ys:=is.map .d) (ls:=is.map fun i=>[.fn (AN 0) (.d i),.fn (AN 1) (.d i),.fn (AN 2) (.d i)]) is hd ho hgd hp hx (by simp) (fun ρ S w _ hR j y lj hy hl=>by
  rw[List.getElem?_map]at hy hl;cases hi:is[j]? with
  |none=>rw[hi]at hy;cases hy
  |some i=>
   rw[hi]at hy hl;simp only[Option.map_some,Option.some.injEq]at hy hl;subst hy hl;have hm:i∈is:=List.mem_of_getElem? hi;obtain⟨t,ht⟩:=cT ha i hm;obtain⟨c,e1,d1⟩:=Cd hR hm ht;exact(fn3 e1 (CS d1)).1) (fun lj hl=>by obtain⟨i,_,rfl⟩:=List.mem_map.1 hl;rfl) (by rw[tri,List.flatMap_def]) hid hu hsz hz hpos hsm
theorem GG{y:Operand}{did:Nat}{l:List SV}(ho:o.op= .store ty x y)(hgd:AQ ops o s)(hx:AE s x= .p id 0)(hm:s.mem id=some (.cells l bt))(hy:AE s y= .d did)(hdm:s.mem did=some (.dat (AR t)))
 (hs: ∀w,(Go.sizeOf ty).run P w= .ok 3 w)(hl:l.length=3):Ev P ops w0 o s ⟨.v undef,[(id,.cells [.fn (AN 0) (.d did),.fn (AN 1) (.d did),.fn (AN 2) (.d did)] bt)],[id],[],[id,did]⟩:=by
 have:=Bh (w0:=w0) (l:=l) (vl:=[.fn (AN 0) (.d did),.fn (AN 1) (.d did),.fn (AN 2) (.d did)]) [id,did] ho hgd hx hm hy hs (by simp) (fun ρ S w _ hR=>by
  obtain⟨c,e1,d1⟩:=Cd (id:=did) hR (by simp) hdm;have f:=fn3 e1 (CS d1);exact⟨f.1,by rw[f.2];exact HB d1⟩) rfl (by omega)
 simpa[List.drop_eq_nil_of_le (Nat.le_of_eq hl)] using this
theorem Vv{cs:List Value}{F:Nat→Prop}(hv:AO w v n 3 cs F)(hone:cs.all (·.oneCell')=true)(hm:n≤1048576):Calls prog 23 #[v] w fun e w'=> ∃v,e= .returned (.agg #[.int .i64 48,.slice none 0 0,v])∧BN w w' v n 3 61 cs∧Bw w w':=by
 go_enter func23,ntmps23
 refine Ep ?_
 refine EL ?_;iterate 4 refine AL ?_
 refine AA (by exact oZ (n:=n) (size:=3) (ty:=61) (.exact cs) (ofV 48) [] rfl rfl gg rfl (eo func50) (fun ρ S w' hb hR=>(cu (t:=48) w' (A5 hv hb) hone hm).mono fun _ _ ⟨u,a1,a2,a3⟩=>⟨u,cs,fun _=>False,a1,by obtain⟨_,_,_,_,h,_⟩:=hv;exact h,a2,rfl,fun _ h=>h.elim,a3⟩)) ?_;refine AA (by exact Bh (vl:=[.v (.int .i64 48),.v (.slice none 0 0),.d 4]) [2,4] rfl gg rfl rfl rfl sizeOf61 rfl (fun ρ S w' _ hR=>⟨by simp only[SV.c,SV.cs];rfl,by have hh:=Cf (id:=4) hR (by simp) rfl;simp only[SV.cs,SV.c,List.all_cons,List.all_nil,hh.2];rfl⟩) rfl (by simp)) ?_;refine Dl ?_;refine AD (AH results23 (Am rfl rfl underlying61 rfl sizeOf61 rfl)) ?_;intro ρ w' hr;exact⟨_,rfl,B8 hr rfl,hr.1⟩
theorem EA{w:World}{base:Nat}{m:Mem}(hR:RelOn base ρ S w (restr rd m))(hq:q∈rd)(hi: ∀i∈is,i∈rd)(ha:Jt m is ks)(h3:m q=some (.cells (tri is) 61))(hn:is.length=n:=by rfl)(hm:n≤1048576:=by decide):
 Calls prog 23 #[.slice (some ⟨(ρ q).g,0,none⟩) n n] w fun e w'=> ∃v S',e= .returned v∧(AR (.mk 48 [] ks)).holds [v] w' S'∧(∀k,S' k→(∃j∈rd,(m j).isSome∧S j k)∨(w.heap.size≤k∧k<w'.heap.size))∧Bw w w':=by
 obtain⟨cs,h1,h2,h4,h5⟩:=Uc hR ha hi;rw[hn]at h4
 have hs:AO w (.slice (some ⟨(ρ q).g,0,none⟩) n n) n 3 cs (fun _=>True):=by
  have hg:=(relon_get hR h3 hq).2;refine⟨_,_,rfl,Nat.le_refl _,h4,.inr ⟨_,rfl,True.intro,fun i x hx=> ?_⟩⟩;rw[←h1]at hx;exact UE hg hx
 refine(Vv w hs h5 hm).mono fun e w' ⟨v,a1,⟨g,a2⟩,a3⟩=>⟨_,fun k=>Ic S m rd k∨(w.heap.size≤k∧k<w'.heap.size),a1,?_,?_,a3⟩
 ·refine⟨[.int .i64 48,.slice none 0 0,v],rfl,?_⟩
  have hr:=DX (a:=⟨g,v⟩) a2 h4
  have hr2:AO w' v n 3 cs (fun k=>Ic S m rd k∨(w.heap.size≤k∧k<w'.heap.size)):=by
   rcases a2 with⟨g1,g2⟩|⟨off,cap,cur,fz,g1,g2,g3,_⟩
   ·subst g2
    obtain⟨ao,cp,b1,b2,b3,_⟩:=hr;exact⟨ao,cp,b1,b2,b3,.inl (List.eq_nil_of_length_eq_zero (by simpa using h4))⟩
   ·exact Hq hr fun k hk=>by subst hk;exact .inr ⟨g2,(Array.getElem?_eq_some_iff.1 g3).1⟩
  have hkn:ks.length=n:=by rw[←Ub ha,hn]
  rw[DN];exact⟨_,_,cs,rfl,⟨none,0,rfl,Nat.le_refl _,rfl,.inl rfl⟩,by rw[hkn];exact hr2,LX (fun k hk=> .inl hk) (LY a3 h2)⟩
 ·exact fun k hk=>hk
theorem bL{w:World}{base:Nat}{m:Mem}{t:Int}(hR:RelOn base ρ S w (restr rd m))(hq:q∈rd)(hi: ∀i∈is,i∈rd)(ha:Jt m is ks)(h3:m q=some (.cells (tri is) 61))(hn:is.length=n:=by rfl)(hm:n≤1048576:=by decide):
 Calls prog 50 #[.int .i64 t,.slice (some ⟨(ρ q).g,0,none⟩) n n] w fun e w'=> ∃v S',e= .returned v∧(AR (.mk t [] ks)).holds [v] w' S'∧(∀k,S' k→(∃j∈rd,(m j).isSome∧S j k)∨(w.heap.size≤k∧k<w'.heap.size))∧Bw w w':=by
 obtain⟨cs,h1,h2,h4,h5⟩:=Uc hR ha hi;rw[hn]at h4
 have hs:AO w (.slice (some ⟨(ρ q).g,0,none⟩) n n) n 3 cs (fun _=>True):=by
  have hg:=(relon_get hR h3 hq).2;refine⟨_,_,rfl,Nat.le_refl _,h4,.inr ⟨_,rfl,True.intro,fun i x hx=> ?_⟩⟩;rw[←h1]at hx;exact UE hg hx
 refine(cu (t:=t) w hs h5 hm).mono fun e w' ⟨v,a1,⟨g,a2⟩,a3⟩=>⟨_,fun k=>Ic S m rd k∨(w.heap.size≤k∧k<w'.heap.size),a1,?_,?_,a3⟩
 ·refine⟨[.int .i64 t,.slice none 0 0,v],rfl,?_⟩
  have hr:=DX (a:=⟨g,v⟩) a2 h4
  have hr2:AO w' v n 3 cs (fun k=>Ic S m rd k∨(w.heap.size≤k∧k<w'.heap.size)):=by
   rcases a2 with⟨g1,g2⟩|⟨off,cap,cur,fz,g1,g2,g3,_⟩
   ·subst g2
    obtain⟨ao,cp,b1,b2,b3,_⟩:=hr;exact⟨ao,cp,b1,b2,b3,.inl (List.eq_nil_of_length_eq_zero (by simpa using h4))⟩
   ·exact Hq hr fun k hk=>by subst hk;exact .inr ⟨g2,(Array.getElem?_eq_some_iff.1 g3).1⟩
  have hkn:ks.length=n:=by rw[←Ub ha,hn]
  rw[DN];exact⟨_,_,cs,rfl,⟨none,0,rfl,Nat.le_refl _,rfl,.inl rfl⟩,by rw[hkn];exact hr2,LX (fun k hk=> .inl hk) (LY a3 h2)⟩
 ·exact fun k hk=>hk
theorem Jk(h8: ∀x∈b,x<256)(hm:b.length≤maxLen):Calls prog 107 #[.string (AB b)] w fun e w'=> ∃v,e= .returned v∧Ae w w' v (AR (.mk 6 b []))∧Bw w w':=by
 go_enter func107,ntmps107
 refine Ep ?_
 refine EL ?_;iterate 4 refine AL ?_
 refine AA (by exact Tw rfl rfl gg rfl underlying9 underlying23 underlying5 hm h8) ?_;refine AA (by exact Ji (n:=b.length) (size:=1) (l:=b.map b8) rfl gg rfl rfl (BI rfl) (fun p m q=>Jm 6 p m q)) ?_;refine AA (by exact Bh (vl:=[.v (.int .i64 6),.d 4,.v (.slice none 0 0)]) [2,4] rfl gg rfl rfl rfl sizeOf61 rfl (fun ρ S w' _ hR=>⟨DC _,by have hh:=Cf (id:=4) hR (by simp) rfl;simp only[SV.cs,SV.c,List.all_cons,List.all_nil,hh.2];rfl⟩) rfl (by simp)) ?_;refine Dl ?_;refine AD (AH results107 (Am rfl rfl underlying61 rfl sizeOf61 rfl)) ?_;intro ρ w' hr;refine⟨_,rfl,?_,hr.1⟩;have:=Gl (t:=6) (b:=b) 4 hr rfl;simpa[SV.c,SV.cs] using this
theorem dI:Calls prog 139 #[] w fun e w'=> ∃v,e= .returned v∧Ae w w' v (AR (.mk 1 [255] []))∧Bw w w':=by
 go_enter func139,ntmps139
 refine Ep ?_
 refine E6 ?_
 refine AA (by exact BL rfl rfl gg rfl (e:=5) (l:=[255].map b8) rfl (by decide) (fun _=>by kernel_rfl)) ?_;refine AA (by exact Ji (n:=1) (size:=1) (l:=[255].map b8) rfl gg rfl rfl (BI rfl) (fun p m q=>Jm 1 p m q)) ?_;refine AA (by exact Bh (vl:=[.v (.int .i64 1),.d 1,.v (.slice none 0 0)]) [0,1] rfl gg rfl rfl rfl sizeOf61 rfl (fun ρ S w' _ hR=>⟨DC _,by have hh:=Cf (id:=1) hR (by simp) rfl;simp only[SV.cs,SV.c,List.all_cons,List.all_nil,hh.2];rfl⟩) rfl (by simp)) ?_;refine Dl ?_;refine AD (AH results139 (Am rfl rfl underlying61 rfl sizeOf61 rfl)) ?_;intro ρ w' hr;refine⟨_,rfl,?_,hr.1⟩;have:=Gl (t:=1) (b:=[255]) 1 hr rfl;simpa[SV.c,SV.cs] using this
theorem V7{F:Nat→Prop}(hv:AO w v b.length 1 (b.map b8) F)(hm:b.length≤1048576):Calls prog 108 #[v] w fun e w'=> ∃v,e= .returned v∧Ae w w' v (AR (.mk 3 (0::b) []))∧Bw w w':=by
 go_enter func108,ntmps108
 refine Ep ?_
 refine E6 ?_
 refine AA (by exact BL rfl rfl gg rfl (e:=5) (l:=[0].map b8) rfl (by decide) (fun _=>by kernel_rfl)) ?_;refine AL ?_;refine AA (by exact Di rfl rfl gg rfl rfl rfl (AW hv) underlying23 el5 (by decide) (by simp) (DR _) (by simp only[maxLen];omega) (by omega) (by simp)) ?_;refine AA (by exact Ji (n:=1+b.length) (size:=1) (l:=[0].map b8++b.map b8) rfl gg rfl rfl (BI rfl) (fun p m q=>Jm 3 p m q)) ?_;refine AA (by exact Bh (vl:=[.v (.int .i64 3),.d 5,.v (.slice none 0 0)]) [2,5] rfl gg rfl rfl rfl sizeOf61 rfl (fun ρ S w' _ hR=>⟨DC _,by have hh:=Cf (id:=5) hR (by simp) rfl;simp only[SV.cs,SV.c,List.all_cons,List.all_nil,hh.2];rfl⟩) rfl (by simp)) ?_;refine Dl ?_;refine AD (AH results108 (Am rfl rfl underlying61 rfl sizeOf61 rfl)) ?_;intro ρ w' hr;refine⟨_,rfl,?_,hr.1⟩;have:=Gl (t:=3) (b:=0::b) 5 hr (by show some (Blk.row (1+b.length) 1 5 _)=_;rw[List.length_cons,Nat.add_comm];rfl);simpa[SV.c,SV.cs] using this
def B5(b:List Nat):Tr:= .mk 6 b []
def Ey:Tr:= .mk 1 [255] []
def Ix(b:List Nat):Tr:= .mk 3 (0::b) []
def C5(t:Tr):Tr:= .mk 4 (wrT t).1 []
def utT(b:List Nat):Tr:= .mk 12 b []
def Bm(ks:List Tr):Tr:= .mk 48 [] ks
def iT(n:Int):Tr:= .mk 2 (B2 (CW n.toNat)) []
def E0(s:List Nat):Tr:=Bm [Bm [B5 [85,4,3],utT s]]
def Fh(ca:Bool)(pa:Int):Tr:=bif ca then Bm [Ey,iT pa]else Bm []
structure Crt where
 se:Int
 is:List Nat
 su:List Nat
 fr:Int
 to:Int
 ky:List Nat
 ca:Bool
 pa:Int
 us:Int
deriving DecidableEq
def Hr:List Nat:=[42,134,72,206,61,4,3,2]
def Crt.body(c:Crt):Tr:=Bm [.mk 160 [] [iT 2],iT c.se,Bm [B5 Hr],E0 c.is,Bm [iT c.fr,iT c.to],E0 c.su,
 Bm [Bm [B5 [42,134,72,206,61,2,1],B5 [42,134,72,206,61,3,1,7]],Ix c.ky],
 .mk 163 [] [Bm [Bm [B5 [85,29,19],Ey,C5 (Fh c.ca c.pa)],Bm [B5 [85,29,15],Ey,C5 (iT (c.us %4))],Bm [B5 [85,29,37],C5 (iT (c.us/4))]]]]
def BH(r t:Nat):Tr:=Bm [tN (bl r),tN (bl t)]
def Crt.whole(c:Crt)(r t:Nat):Tr:=Bm [c.body,Bm [B5 Hr],Ix (wrT (BH r t)).1]
structure Crt.Fit(c:Crt):Prop where
 i8: ∀x∈c.is,x<256
 s8: ∀x∈c.su,x<256
 k8: ∀x∈c.ky,x<256
 il:c.is.length≤64
 sl:c.su.length≤64
 kl:c.ky.length≤65
 sm:c.se≤4611686018427387904
 fm:c.fr≤4611686018427387904
 tm:c.to≤4611686018427387904
 pm:c.pa≤5
 u0:0≤c.us
 um:c.us≤15
theorem F0{t:Int}(h: ∀x∈b,x<256)(hl:b.length≤1048576):(Tr.mk t b []).ok:=by simp only[Tr.ok,oks];exact⟨h,hl,by simp,trivial⟩
theorem DG{t:Int}(h:oks ks)(hl:ks.length≤1048576):(Tr.mk t [] ks).ok:=by simp only[Tr.ok];exact⟨fun _ h=>(by cases h),by simp,hl,h⟩
theorem YE(m:Nat): ∀x∈CW m,x<256:=fun x hx=>by
 simp only[CW,List.mem_cons,List.not_mem_nil,or_false]at hx;rcases hx with rfl|rfl|rfl|rfl|rfl|rfl|rfl|rfl<;>exact PO _
theorem GD(n:Int):(iT n).ok:=F0 (VL (YE _)) (by have:=PL (CW n.toNat);have e:(CW n.toNat).length=8:=rfl;omega)
theorem HU(n:Int):wt (iT n)≤19:=by
 have:=PL (CW n.toNat);have e:(CW n.toNat).length=8:=rfl;simp only[iT,wt,wts];omega
theorem Vb(hl:b.length≤64):wt (tN b)≤75:=by have:=PL b;simp only[tN,wt,wts];omega
theorem Sa(h:t.ok):(C5 t).ok:=F0 (EE h) (by have:=GN t;omega)
theorem SZ(t:Tr):wt (C5 t)≤2058:=by have:=GN t;simp only[C5,wt,wts];omega
theorem UB(h: ∀x∈b,x<256)(hl:b.length≤100):(B5 b).ok:=F0 h (by omega)
theorem QX(ca:Bool)(pa:Int):(Fh ca pa).ok:=by
 unfold Fh;cases ca
 ·exact DG trivial (by simp)
 ·exact DG ⟨F0 (by decide) (by decide),GD _,trivial⟩ (by simp)
theorem UX(ca:Bool)(pa:Int):wt (Fh ca pa)≤100:=by
 have:=HU pa;unfold Fh Ey Bm;cases ca<;>simp only[cond_true,cond_false,wt,wts,List.length_nil,List.length_cons]<;>omega
theorem US{c:Crt}(h:c.Fit):c.body.ok:=by
 have hw: ∀{s:List Nat},(∀x∈s,x<256)→s.length≤64→(E0 s).ok:=fun h1 h2=>DG ⟨DG ⟨UB (by decide) (by decide),F0 h1 (by omega),trivial⟩ (by simp),trivial⟩ (by simp)
 have kl:=h.kl;have hr:(Ix c.ky).ok:=F0 (fun x hx=>by rcases List.mem_cons.1 hx with rfl|hx;decide;exact h.k8 x hx) (by simp;omega)
 have o: ∀b:List Nat,(b.all (· <256) && decide (b.length≤100))=true→(B5 b).ok:=fun b hb=>by
  simp only[Bool.and_eq_true,decide_eq_true_eq,List.all_eq_true]at hb;exact UB hb.1 hb.2
 have y:Ey.ok:=F0 (by decide) (by decide)
 exact DG ⟨DG ⟨GD _,trivial⟩ (by simp),GD _,DG ⟨o _ (by decide),trivial⟩ (by simp),hw h.i8 h.il,DG ⟨GD _,GD _,trivial⟩ (by simp),hw h.s8 h.sl,
  DG ⟨DG ⟨o _ (by decide),o _ (by decide),trivial⟩ (by simp),hr,trivial⟩ (by simp),
  DG ⟨DG ⟨DG ⟨o _ (by decide),y,Sa (QX _ _),trivial⟩ (by simp),DG ⟨o _ (by decide),y,Sa (GD _),trivial⟩ (by simp),DG ⟨o _ (by decide),Sa (GD _),trivial⟩ (by simp),trivial⟩ (by simp),trivial⟩ (by simp),trivial⟩ (by simp)
theorem bq{c:Crt}(h:c.Fit):wt c.body≤10000:=by
 have a:=HU 2;have b:=HU c.se;have d:=HU c.fr;have e:=HU c.to;have p1:=SZ (Fh c.ca c.pa);have p2:=SZ (iT (c.us %4));have p3:=SZ (iT (c.us/4));have il:=h.il;have sl:=h.sl;have kl:=h.kl;unfold Crt.body Bm B5 E0 utT Ey Ix Hr Bm B5;simp only[wt,wts,List.length_nil,List.length_cons];omega
theorem HI(r t:Nat):(BH r t).ok:=DG ⟨Vd (EZ r) (by rw[EB];decide),Vd (EZ t) (by rw[EB];decide),trivial⟩ (by simp)
theorem Rm(r t:Nat):wt (BH r t)≤200:=by
 have a:=Vb (b:=bl r) (by rw[EB];decide);have b:=Vb (b:=bl t) (by rw[EB];decide);unfold BH Bm;simp only[wt,wts,List.length_nil];omega
theorem Lb{c:Crt}(h:c.Fit)(r t:Nat):(c.whole r t).ok:=by
 have hl:=GN (BH r t);exact DG ⟨US h,DG ⟨UB (by decide) (by decide),trivial⟩ (by simp),F0 (fun x hx=>by rcases List.mem_cons.1 hx with rfl|hx;decide;exact EE (HI r t) x hx) (by simp;omega),trivial⟩ (by simp)
theorem U8{c:Crt}(h:c.Fit)(r t:Nat):wt (c.whole r t)≤20000:=by
 have a:=bq h;have hl:=GN (BH r t);unfold Crt.whole Bm B5 Ix Hr;simp only[wt,wts,List.length_nil,List.length_cons];omega
theorem fY:Calls prog 23 #[.slice none 0 0] w fun e w'=> ∃v,e= .returned v∧Ae w w' v (AR (Bm []))∧Bw w w':=
 (Vv w (n:=0) (cs:=[]) (F:=fun _=>False) ⟨none,0,rfl,Nat.le_refl _,rfl,.inl rfl⟩ rfl (by decide)).mono fun e w' ⟨v,a1,⟨g,a2⟩,a3⟩=>by
  have hr:=DX (a:=⟨g,v⟩) a2 rfl;refine⟨_,a1,⟨fun _=>False,⟨[.int .i64 48,.slice none 0 0,v],rfl,?_⟩,fun k hk=>hk.elim⟩,a3⟩;rw[Bm,DN];obtain⟨ao,cp,b1,b2,b3,_⟩:=hr;exact⟨_,_,[],rfl,⟨none,0,rfl,Nat.le_refl _,rfl,.inl rfl⟩,⟨ao,cp,b1,b2,b3,.inl rfl⟩,rfl⟩
theorem kS{x0 x1 x2:Value}{F:Nat→Prop}(hok:t.ok)(hx:DN w F t [x0,x1,x2])(hwt:wt t≤1073741824):Calls prog 140 #[.agg #[x0,x1,x2]] w fun e w'=> ∃v,e= .returned v∧Ae w w' v (AR (C5 t))∧Bw w w':=by
 go_enter func140,ntmps140
 refine FJ ?_
 refine E6 ?_
 refine q_8 ?_;refine AA (by exact IU [] rfl rfl gg rfl (eo func22) (n:=(wrT t).1.length) (size:=1) (l:=(wrT t).1.map b8) (y:= .int .i64 (wrT t).2) (by simp) (fun ρ S w' hb hR=>ce w' hok (ED hb hx) hwt)) ?_;iterate 9 refine AL ?_
 refine AA (by exact Ji (n:=(wrT t).1.length) (size:=1) (l:=(wrT t).1.map b8) rfl gg rfl rfl (BI rfl) (fun p m q=>Jm 4 p m q)) ?_;refine AA (by exact Bh (vl:=[.v (.int .i64 4),.d 7,.v (.slice none 0 0)]) [2,7] rfl gg rfl rfl rfl sizeOf61 rfl (fun ρ S w' _ hR=>⟨DC _,by have hh:=Cf (id:=7) hR (by simp) rfl;simp only[SV.cs,SV.c,List.all_cons,List.all_nil,hh.2];rfl⟩) rfl (by simp)) ?_;refine Dl ?_;refine AD (AH results140 (Am rfl rfl underlying61 rfl sizeOf61 rfl)) ?_;intro ρ w' hr;refine⟨_,rfl,?_,hr.1⟩;have:=Gl (t:=4) (b:=(wrT t).1) 7 hr rfl;simpa[SV.c,SV.cs,C5] using this
theorem UI{w:World}{base:Nat}{m:Mem}(hR:RelOn base ρ S w (restr rd m))(hid:id∈rd)(hm:m id=some (.dat (AR t)))(hok:t.ok)(hwt:wt t≤1073741824):Calls prog 140 #[(ρ id).val] w fun e w'=> ∃v,e= .returned v∧Ae w w' v (AR (C5 t))∧Bw w w':=by
 obtain⟨c,h1,h2⟩:=Cd hR hid hm;obtain⟨x0,x1,x2,rfl⟩:=DI (CS h2);rw[h1];exact kS w hok h2 hwt
theorem VB(h8: ∀x∈b,x<256)(hm:b.length≤maxLen):Calls prog 138 #[.string (AB b)] w fun e w'=> ∃v,e= .returned v∧Ae w w' v (AR (E0 b))∧Bw w w':=by
 go_enter func138,ntmps138
 refine Ep ?_
 refine E6 ?_
 refine AA (by exact Al (D:=AR (B5 [85,4,3])) [] rfl rfl gg rfl (eo func107) (fun ρ S w' hb hR=>Jk (b:=[85,4,3]) w' (by decide) (by decide))) ?_;refine AL ?_;refine AA (by exact Al (D:=AR (utT b)) [] rfl rfl gg rfl (eo func156) (fun ρ S w' hb hR=>cf h8 hm w')) ?_;refine AA (by exact Dh (is:=[3,5]) (ks:=[_,_]) rfl rfl gg rfl rfl ⟨rfl,rfl,trivial⟩ rfl underlying59 (by kernel_rfl) (by kernel_rfl) (by decide) (by decide)) ?_;refine AA (by exact A0 (AR (.mk 48 [] [_,_])) [6,3,5] rfl rfl gg rfl (eo func23) (fun ρ S w' hb hR=>EA (is:=[3,5]) (q:=6) hR (by simp) (by simp) ⟨rfl,rfl,trivial⟩ rfl)) ?_;refine AA (by exact Dh (is:=[7]) (ks:=[_]) rfl rfl gg rfl rfl ⟨rfl,trivial⟩ rfl underlying59 (by kernel_rfl) (by kernel_rfl) (by decide) (by decide)) ?_;refine AA (by exact A0 (AR (.mk 48 [] [_])) [8,7] rfl rfl gg rfl (eo func23) (fun ρ S w' hb hR=>EA (is:=[7]) (q:=8) hR (by simp) (by simp) ⟨rfl,trivial⟩ rfl)) ?_;refine AA (by exact GG (did:=9) rfl gg rfl rfl rfl rfl sizeOf61 rfl) ?_;refine Dl ?_;refine AD (AH results138 (Am rfl rfl underlying61 rfl sizeOf61 rfl)) ?_;intro ρ w' hr;exact⟨_,rfl,Hs 9 hr rfl,hr.1⟩
theorem rL{c:Crt}(hf:c.Fit)(hc:c.ca=true):Calls prog 141 #[(.agg #[.int .i64 c.se,.string (AB c.is),.string (AB c.su),.int .i64 c.fr,.int .i64 c.to,kv,.bool c.ca,.int .i64 c.pa,.int .i64 c.us])] w fun e w'=> ∃v,e= .returned v∧Ae w w' v (AR (Bm [Ey,iT c.pa]))∧Bw w w':=by
 rw[hc]
 go_enter func141,ntmps141
 refine FJ ?_
 refine EL ?_;iterate 4 refine q_k ?_
 refine Ou ?_;refine MF ?_;iterate 4 refine q_k ?_
 refine SA ?_;refine C3 ?_;refine q_6 ?_;refine AA (by exact Al (D:=AR (iT (c.pa))) [] rfl rfl gg rfl (eo func137) (fun ρ S w' hb hR=>Js (c.pa) (by have:=hf.pm;omega) w')) ?_;refine AA (by exact Dh (is:=[5,8]) (ks:=[_,_]) rfl rfl gg rfl rfl ⟨rfl,rfl,trivial⟩ rfl underlying59 (by kernel_rfl) (by kernel_rfl) (by decide) (by decide)) ?_;refine AA (by exact A0 (AR (.mk 48 [] [_,_])) [9,5,8] rfl rfl gg rfl (eo func23) (fun ρ S w' hb hR=>EA (is:=[5,8]) (q:=9) hR (by simp) (by simp) ⟨rfl,rfl,trivial⟩ rfl)) ?_;refine AA (by exact GG (did:=10) rfl gg rfl rfl rfl rfl sizeOf61 rfl) ?_;refine Dl ?_;refine AD (AH results141 (Am rfl rfl underlying61 rfl sizeOf61 rfl)) ?_;intro ρ w' hr;exact⟨_,rfl,Hs 10 hr rfl,hr.1⟩
theorem rN{c:Crt}(hc:c.ca=false):Calls prog 141 #[(.agg #[.int .i64 c.se,.string (AB c.is),.string (AB c.su),.int .i64 c.fr,.int .i64 c.to,kv,.bool c.ca,.int .i64 c.pa,.int .i64 c.us])] w fun e w'=> ∃v,e= .returned v∧Ae w w' v (AR (Bm []))∧Bw w w':=by
 rw[hc]
 go_enter func141,ntmps141
 refine FJ ?_
 refine EL ?_;iterate 4 refine q_k ?_
 refine Ou ?_;refine MF ?_;iterate 5 refine q_k ?_
 refine AA (by exact Al (D:=AR (Bm [])) [] rfl rfl gg rfl (eo func23) (fun ρ S w' hb hR=>fY w')) ?_;refine AA (by exact GG (did:=11) rfl gg rfl rfl rfl rfl sizeOf61 rfl) ?_;refine Dl ?_;refine AD (AH results141 (Am rfl rfl underlying61 rfl sizeOf61 rfl)) ?_;intro ρ w' hr;exact⟨_,rfl,Hs 11 hr rfl,hr.1⟩
theorem rM{c:Crt}(hf:c.Fit):Calls prog 141 #[(.agg #[.int .i64 c.se,.string (AB c.is),.string (AB c.su),.int .i64 c.fr,.int .i64 c.to,kv,.bool c.ca,.int .i64 c.pa,.int .i64 c.us])] w fun e w'=> ∃v,e= .returned v∧Ae w w' v (AR (Fh c.ca c.pa))∧Bw w w':=by
 unfold Fh;cases h:c.ca with
 |true=>have a:=rL (kv:=kv) w hf h;rw[h]at a;exact a
 |false=>have a:=rN (kv:=kv) w h;rw[h]at a;exact a
theorem Rw{n:Int}(h0:0≤n)(_hm:n≤15)(p q:Operand)(w:World):(do eqGuard .rem 3 p q (.int .i64 n) (.int .i64 4);binOp .rem 3 (.int .i64 n) (.int .i64 4):Sem Value).run prog w= .ok (.int .i64 (n %4)) w:=by
 go_simp
 exact Int.tmod_eq_emod_of_nonneg h0
theorem R7{n:Int}(h0:0≤n)(hm:n≤15)(p q:Operand)(w:World):(do eqGuard .quo 3 p q (.int .i64 n) (.int .i64 4);binOp .quo 3 (.int .i64 n) (.int .i64 4):Sem Value).run prog w= .ok (.int .i64 (n/4)) w:=by
 have e:IntKind.i64.wrap (n.tdiv 4)=n/4:=by rw[Int.tdiv_eq_ediv_of_nonneg h0,Ah (by omega) (by omega)]
 go_simp
 try exact e
theorem bF{c:Crt}{F:Nat→Prop}(hf:c.Fit)(hk:AO w kv c.ky.length 1 (c.ky.map b8) F):Calls prog 89 #[(.agg #[.int .i64 c.se,.string (AB c.is),.string (AB c.su),.int .i64 c.fr,.int .i64 c.to,kv,.bool c.ca,.int .i64 c.pa,.int .i64 c.us])] w fun e w'=> ∃v,e= .returned v∧Ae w w' v (AR c.body)∧Bw w w':=by
 go_enter func89,ntmps89
 refine FJ ?_
 refine E6 ?_
 refine AA (by exact Al (D:=AR (iT (2))) [] rfl rfl gg rfl (eo func137) (fun ρ S w' hb hR=>Js (2) (by decide) w')) ?_;refine AA (by exact Dh (is:=[3]) (ks:=[_]) rfl rfl gg rfl rfl ⟨rfl,trivial⟩ rfl underlying59 (by kernel_rfl) (by kernel_rfl) (by decide) (by decide)) ?_;refine AA (by exact A0 (AR (.mk 160 [] [_])) [4,3] rfl rfl gg rfl (eo func50) (fun ρ S w' hb hR=>bL (is:=[3]) (q:=4) hR (by simp) (by simp) ⟨rfl,trivial⟩ rfl)) ?_;refine C3 ?_;refine q_6 ?_;refine AA (by exact Al (D:=AR (iT (c.se))) [] rfl rfl gg rfl (eo func137) (fun ρ S w' hb hR=>Js (c.se) (by have:=hf.sm;omega) w')) ?_;refine XH ?_;refine AA (by exact Dh (is:=[9]) (ks:=[_]) rfl rfl gg rfl rfl ⟨rfl,trivial⟩ rfl underlying59 (by kernel_rfl) (by kernel_rfl) (by decide) (by decide)) ?_;refine AA (by exact A0 (AR (.mk 48 [] [_])) [10,9] rfl rfl gg rfl (eo func23) (fun ρ S w' hb hR=>EA (is:=[9]) (q:=10) hR (by simp) (by simp) ⟨rfl,trivial⟩ rfl)) ?_;refine KP ?_;refine Eg ?_;refine AA (by exact Al (D:=AR (E0 c.is)) [] rfl rfl gg rfl (eo func138) (fun ρ S w' hb hR=>VB (b:=c.is) w' hf.i8 (by have:=hf.il;simp only[maxLen];omega))) ?_;refine C3 ?_;refine q_6 ?_;refine AA (by exact Al (D:=AR (iT (c.fr))) [] rfl rfl gg rfl (eo func137) (fun ρ S w' hb hR=>Js (c.fr) (by have:=hf.fm;omega) w')) ?_;refine C3 ?_;refine q_6 ?_;refine AA (by exact Al (D:=AR (iT (c.to))) [] rfl rfl gg rfl (eo func137) (fun ρ S w' hb hR=>Js (c.to) (by have:=hf.tm;omega) w')) ?_;refine AA (by exact Dh (is:=[17,20]) (ks:=[_,_]) rfl rfl gg rfl rfl ⟨rfl,rfl,trivial⟩ rfl underlying59 (by kernel_rfl) (by kernel_rfl) (by decide) (by decide)) ?_;refine AA (by exact A0 (AR (.mk 48 [] [_,_])) [21,17,20] rfl rfl gg rfl (eo func23) (fun ρ S w' hb hR=>EA (is:=[17,20]) (q:=21) hR (by simp) (by simp) ⟨rfl,rfl,trivial⟩ rfl)) ?_;refine KP ?_;refine Eg ?_;refine AA (by exact Al (D:=AR (E0 c.su)) [] rfl rfl gg rfl (eo func138) (fun ρ S w' hb hR=>VB (b:=c.su) w' hf.s8 (by have:=hf.sl;simp only[maxLen];omega))) ?_;refine AA (by exact Al (D:=AR (B5 [42,134,72,206,61,2,1])) [] rfl rfl gg rfl (eo func107) (fun ρ S w' hb hR=>Jk (b:=[42,134,72,206,61,2,1]) w' (by decide) (by decide))) ?_;refine AA (by exact Al (D:=AR (B5 [42,134,72,206,61,3,1,7])) [] rfl rfl gg rfl (eo func107) (fun ρ S w' hb hR=>Jk (b:=[42,134,72,206,61,3,1,7]) w' (by decide) (by decide))) ?_;refine AA (by exact Dh (is:=[26,27]) (ks:=[_,_]) rfl rfl gg rfl rfl ⟨rfl,rfl,trivial⟩ rfl underlying59 (by kernel_rfl) (by kernel_rfl) (by decide) (by decide)) ?_;refine AA (by exact A0 (AR (.mk 48 [] [_,_])) [28,26,27] rfl rfl gg rfl (eo func23) (fun ρ S w' hb hR=>EA (is:=[26,27]) (q:=28) hR (by simp) (by simp) ⟨rfl,rfl,trivial⟩ rfl)) ?_;refine Ow ?_;refine I5 ?_;refine AA (by exact Al (D:=AR (Ix c.ky)) [] rfl rfl gg rfl (eo func108) (fun ρ S w' hb hR=>V7 w' (A5 hk hb) (by have:=hf.kl;omega))) ?_;refine AA (by exact Dh (is:=[29,32]) (ks:=[_,_]) rfl rfl gg rfl rfl ⟨rfl,rfl,trivial⟩ rfl underlying59 (by kernel_rfl) (by kernel_rfl) (by decide) (by decide)) ?_;refine AA (by exact A0 (AR (.mk 48 [] [_,_])) [33,29,32] rfl rfl gg rfl (eo func23) (fun ρ S w' hb hR=>EA (is:=[29,32]) (q:=33) hR (by simp) (by simp) ⟨rfl,rfl,trivial⟩ rfl)) ?_;refine AA (by exact Al (D:=AR (B5 [85,29,19])) [] rfl rfl gg rfl (eo func107) (fun ρ S w' hb hR=>Jk (b:=[85,29,19]) w' (by decide) (by decide))) ?_;refine SA ?_;refine Gi ?_;refine AA (by exact Al (D:=AR (Fh c.ca c.pa)) [] rfl rfl gg rfl (eo func141) (fun ρ S w' hb hR=>rM w' hf)) ?_;refine AA (by exact Al (D:=AR (C5 (Fh c.ca c.pa))) [38] rfl rfl gg rfl (eo func140) (fun ρ S w' hb hR=>UI (id:=38) hR (by simp) rfl (QX _ _) (by have:=UX c.ca c.pa;omega))) ?_;refine AA (by exact Dh (is:=[35,36,39]) (ks:=[_,_,_]) rfl rfl gg rfl rfl ⟨rfl,rfl,rfl,trivial⟩ rfl underlying59 (by kernel_rfl) (by kernel_rfl) (by decide) (by decide)) ?_;refine AA (by exact A0 (AR (.mk 48 [] [_,_,_])) [40,35,36,39] rfl rfl gg rfl (eo func23) (fun ρ S w' hb hR=>EA (is:=[35,36,39]) (q:=40) hR (by simp) (by simp) ⟨rfl,rfl,rfl,trivial⟩ rfl)) ?_;refine AA (by exact Al (D:=AR (B5 [85,29,15])) [] rfl rfl gg rfl (eo func107) (fun ρ S w' hb hR=>Jk (b:=[85,29,15]) w' (by decide) (by decide))) ?_;refine SA ?_;refine C3 ?_;refine q_6 ?_;refine AA (by exact AK rfl gg rfl rfl (fun w=>Rw hf.u0 hf.um _ _ w)) ?_;refine AA (by exact Al (D:=AR (iT (c.us %4))) [] rfl rfl gg rfl (eo func137) (fun ρ S w' hb hR=>Js (c.us %4) (by have:=hf.um;omega) w')) ?_;refine AA (by exact Al (D:=AR (C5 (iT (c.us %4)))) [47] rfl rfl gg rfl (eo func140) (fun ρ S w' hb hR=>UI (id:=47) hR (by simp) rfl (GD _) (by have:=HU (c.us %4);omega))) ?_;refine AA (by exact Dh (is:=[42,43,48]) (ks:=[_,_,_]) rfl rfl gg rfl rfl ⟨rfl,rfl,rfl,trivial⟩ rfl underlying59 (by kernel_rfl) (by kernel_rfl) (by decide) (by decide)) ?_;refine AA (by exact A0 (AR (.mk 48 [] [_,_,_])) [49,42,43,48] rfl rfl gg rfl (eo func23) (fun ρ S w' hb hR=>EA (is:=[42,43,48]) (q:=49) hR (by simp) (by simp) ⟨rfl,rfl,rfl,trivial⟩ rfl)) ?_;refine AA (by exact Al (D:=AR (B5 [85,29,37])) [] rfl rfl gg rfl (eo func107) (fun ρ S w' hb hR=>Jk (b:=[85,29,37]) w' (by decide) (by decide))) ?_;refine C3 ?_;refine q_6 ?_;refine AA (by exact AK rfl gg rfl rfl (fun w=>R7 hf.u0 hf.um _ _ w)) ?_;refine AA (by exact Al (D:=AR (iT (c.us/4))) [] rfl rfl gg rfl (eo func137) (fun ρ S w' hb hR=>Js (c.us/4) (by have:=hf.um;omega) w')) ?_;refine AA (by exact Al (D:=AR (C5 (iT (c.us/4)))) [55] rfl rfl gg rfl (eo func140) (fun ρ S w' hb hR=>UI (id:=55) hR (by simp) rfl (GD _) (by have:=HU (c.us/4);omega))) ?_;refine AA (by exact Dh (is:=[51,56]) (ks:=[_,_]) rfl rfl gg rfl rfl ⟨rfl,rfl,trivial⟩ rfl underlying59 (by kernel_rfl) (by kernel_rfl) (by decide) (by decide)) ?_;refine AA (by exact A0 (AR (.mk 48 [] [_,_])) [57,51,56] rfl rfl gg rfl (eo func23) (fun ρ S w' hb hR=>EA (is:=[51,56]) (q:=57) hR (by simp) (by simp) ⟨rfl,rfl,trivial⟩ rfl)) ?_;refine AA (by exact Dh (is:=[41,50,58]) (ks:=[_,_,_]) rfl rfl gg rfl rfl ⟨rfl,rfl,rfl,trivial⟩ rfl underlying59 (by kernel_rfl) (by kernel_rfl) (by decide) (by decide)) ?_;refine AA (by exact A0 (AR (.mk 48 [] [_,_,_])) [59,41,50,58] rfl rfl gg rfl (eo func23) (fun ρ S w' hb hR=>EA (is:=[41,50,58]) (q:=59) hR (by simp) (by simp) ⟨rfl,rfl,rfl,trivial⟩ rfl)) ?_;refine AA (by exact Dh (is:=[60]) (ks:=[_]) rfl rfl gg rfl rfl ⟨rfl,trivial⟩ rfl underlying59 (by kernel_rfl) (by kernel_rfl) (by decide) (by decide)) ?_;refine AA (by exact A0 (AR (.mk 163 [] [_])) [61,60] rfl rfl gg rfl (eo func50) (fun ρ S w' hb hR=>bL (is:=[60]) (q:=61) hR (by simp) (by simp) ⟨rfl,trivial⟩ rfl)) ?_;refine AA (by exact Dh (is:=[5,8,11,14,22,25,34,62]) (ks:=[_,_,_,_,_,_,_,_]) rfl rfl gg rfl rfl ⟨rfl,rfl,rfl,rfl,rfl,rfl,rfl,rfl,trivial⟩ rfl underlying59 (by kernel_rfl) (by kernel_rfl) (by decide) (by decide)) ?_;refine AA (by exact A0 (AR (.mk 48 [] [_,_,_,_,_,_,_,_])) [63,5,8,11,14,22,25,34,62] rfl rfl gg rfl (eo func23) (fun ρ S w' hb hR=>EA (is:=[5,8,11,14,22,25,34,62]) (q:=63) hR (by simp) (by simp) ⟨rfl,rfl,rfl,rfl,rfl,rfl,rfl,rfl,trivial⟩ rfl)) ?_;refine AA (by exact GG (did:=64) rfl gg rfl rfl rfl rfl sizeOf61 rfl) ?_;refine Dl ?_;refine AD (AH results89 (Am rfl rfl underlying61 rfl sizeOf61 rfl)) ?_;intro ρ w' hr;exact⟨_,rfl,Hs 64 hr rfl,hr.1⟩
theorem Qi{t:Nat}:Calls prog 7 #[PT r t] w fun e w'=> ∃v,e= .returned v∧BN w w' v ((wrT (BH r t)).1.length) 1 5 ((wrT (BH r t)).1.map b8)∧Bw w w':=by
 go_enter func7,ntmps7
 refine FG ?_
 refine AA (by exact LD (a:=0) (b:=32) rfl gg rfl underlying22 sizeOf5 rfl rfl (by decide) (by decide) (by decide)) ?_;refine AA (by exact NV rfl gg rfl underlying64 (by decide)) ?_;refine H2 ?_;refine AA (by exact Al (D:=AR (tN (bl r))) [] rfl rfl gg rfl (eo func24) (fun ρ S w' hb hR=>dE (bs:=bl r) (EB r) w')) ?_;refine R9 ?_;refine AA (by exact NV rfl gg rfl underlying64 (by decide)) ?_;refine H2 ?_;refine AA (by exact Al (D:=AR (tN (bl t))) [] rfl rfl gg rfl (eo func24) (fun ρ S w' hb hR=>dE (bs:=bl t) (EB t) w')) ?_;refine AA (by exact Dh (is:=[9,13]) (ks:=[_,_]) rfl rfl gg rfl rfl ⟨rfl,rfl,trivial⟩ rfl underlying59 (by kernel_rfl) (by kernel_rfl) (by decide) (by decide)) ?_;refine AA (by exact A0 (AR (.mk 48 [] [_,_])) [14,9,13] rfl rfl gg rfl (eo func23) (fun ρ S w' hb hR=>EA (is:=[9,13]) (q:=14) hR (by simp) (by simp) ⟨rfl,rfl,trivial⟩ rfl)) ?_;refine AA (by exact IU [15] rfl rfl gg rfl (eo func22) (n:=(wrT (BH r t)).1.length) (size:=1) (l:=(wrT (BH r t)).1.map b8) (y:= .int .i64 (wrT (BH r t)).2) (by simp) (fun ρ S w' hb hR=>UG 15 (HI r t) (by have:=Rm r t;omega) hR (by simp) rfl)) ?_;iterate 11 refine AL ?_
 refine AG ?_;refine AD (AH results7 (AF rfl)) ?_;intro ρ w' hr;exact⟨_,rfl,B8 hr rfl,hr.1⟩
theorem VA{c:Crt}{F:Nat→Prop}(hf:c.Fit)(hk:AO w kv c.ky.length 1 (c.ky.map b8) F){t:Nat}:Calls prog 59 #[(.agg #[.int .i64 c.se,.string (AB c.is),.string (AB c.su),.int .i64 c.fr,.int .i64 c.to,kv,.bool c.ca,.int .i64 c.pa,.int .i64 c.us]),PT r t] w fun e w'=> ∃v,e= .returned v∧BN w w' v ((wrT (c.whole r t)).1.length) 1 5 ((wrT (c.whole r t)).1.map b8)∧Bw w w':=by
 go_enter func59,ntmps59
 refine A4 ?_;iterate 8 refine AL ?_
 refine Gi ?_;refine AA (by exact Al (D:=AR c.body) [] rfl rfl gg rfl (eo func89) (fun ρ S w' hb hR=>bF w' hf (A5 hk hb))) ?_;refine XH ?_;refine AA (by exact Dh (is:=[10]) (ks:=[_]) rfl rfl gg rfl rfl ⟨rfl,trivial⟩ rfl underlying59 (by kernel_rfl) (by kernel_rfl) (by decide) (by decide)) ?_;refine AA (by exact A0 (AR (.mk 48 [] [_])) [11,10] rfl rfl gg rfl (eo func23) (fun ρ S w' hb hR=>EA (is:=[10]) (q:=11) hR (by simp) (by simp) ⟨rfl,trivial⟩ rfl)) ?_;refine C4 ?_;refine AA (by exact Cs [] rfl rfl gg rfl (eo func7) (n:=(wrT (BH r t)).1.length) (size:=1) (l:=(wrT (BH r t)).1.map b8) (by simp) (fun ρ S w' hb hR=>Qi w')) ?_;refine AA (by exact Al (D:=AR (Ix (wrT (BH r t)).1)) [14] rfl rfl gg rfl (eo func108) (fun ρ S w' hb hR=>V7 w' (EH (id:=14) hR (by simp) rfl) (by have:=GN (BH r t);omega))) ?_;refine AA (by exact Dh (is:=[9,12,15]) (ks:=[_,_,_]) rfl rfl gg rfl rfl ⟨rfl,rfl,rfl,trivial⟩ rfl underlying59 (by kernel_rfl) (by kernel_rfl) (by decide) (by decide)) ?_;refine AA (by exact A0 (AR (.mk 48 [] [_,_,_])) [16,9,12,15] rfl rfl gg rfl (eo func23) (fun ρ S w' hb hR=>EA (is:=[9,12,15]) (q:=16) hR (by simp) (by simp) ⟨rfl,rfl,rfl,trivial⟩ rfl)) ?_;refine AA (by exact IU [17] rfl rfl gg rfl (eo func22) (n:=(wrT (c.whole r t)).1.length) (size:=1) (l:=(wrT (c.whole r t)).1.map b8) (y:= .int .i64 (wrT (c.whole r t)).2) (by simp) (fun ρ S w' hb hR=>UG 17 (Lb hf r t) (by have:=U8 hf r t;omega) hR (by simp) rfl)) ?_;iterate 11 refine AL ?_
 refine AG ?_;refine AD (AH results59 (AF rfl)) ?_;intro ρ w' hr;exact⟨_,rfl,B8 hr rfl,hr.1⟩
theorem Ve{c:Crt}{F:Nat→Prop}(hf:c.Fit)(hk:AO w kv c.ky.length 1 (c.ky.map b8) F)(hK:B6 w)(hH:CQ w)(hb1:7<w.heap.size):Calls prog 47 #[(.agg #[.int .i64 c.se,.string (AB c.is),.string (AB c.su),.int .i64 c.fr,.int .i64 c.to,kv,.bool c.ca,.int .i64 c.pa,.int .i64 c.us])] w fun e w'=>e= .returned (.agg ((sha [(wrT c.body).1].flatten).map b8).toArray)∧Bw w w':=by
 go_enter func47,ntmps47
 refine FJ ?_
 refine I4 ?_;iterate 3 refine q_k ?_
 refine Gi ?_;refine AA (by exact Al (D:=AR c.body) [] rfl rfl gg rfl (eo func89) (fun ρ S w' hb hR=>bF w' hf (A5 hk hb))) ?_;refine AA (by exact IU [7] rfl rfl gg rfl (eo func22) (n:=(wrT (c.body)).1.length) (size:=1) (l:=(wrT (c.body)).1.map b8) (y:= .int .i64 (wrT (c.body)).2) (by simp) (fun ρ S w' hb hR=>UG 7 (US hf) (by have:=bq hf;omega) hR (by simp) rfl)) ?_;iterate 9 refine AL ?_
 refine AA (by exact NU (ys:=[.d 8]) (size:=1) (l:=[.d 8]) (ls:=[[.d 8]]) [8] rfl rfl gg rfl rfl rfl (fun ρ S w' hb hR j y lj hy hl=>by have h8:=Cf (id:=8) hR (by simp) rfl;rcases j with _|j<;>simp only[List.getElem?_cons_zero,List.getElem?_cons_succ,List.getElem?_nil,Option.some.injEq,reduceCtorEq]at hy hl<;>(subst hy hl;exact h8.1)) (by simp) rfl rfl underlying43 (by kernel_rfl) (by kernel_rfl) (by decide) (by decide)) ?_;refine AA (by exact Aj (v:= .agg ((sha [(wrT c.body).1].flatten).map b8).toArray) [8,12] rfl gg rfl (eo func90) (fun ρ S w' hb hR=>cw (ls:=[(wrT c.body).1]) w' (hK.bw hb) (hH.bw hb) (Nat.lt_of_lt_of_le hb1 hb.size) (H4 (id:=12) (n:=1) (by simp) (by rfl) rfl (by exact⟨⟨Ol (id:=8) (by simp) rfl,EE (US hf)⟩,trivial⟩) ρ S w' hb hR) (Ja hb hR) (by have:=GN c.body;simp;omega) (by simp))) ?_;refine KM ?_;refine q_k ?_;exact AG (AD (AH results47 (Ac rfl rfl underlying64 rfl sizeOf64 rfl rfl)) fun _ _ hr=>⟨rfl,hr.1⟩)
def AC:List Nat→Tr→Tr
 | [],t=>t
 |i::is,.mk _ _ ks=>match ks[i]? with
  |some k=>AC is k
  |none=>noT
theorem lI:noT.ok:=F0 (fun _ h=>(by cases h)) (by simp)
theorem Af: ∀(p:List Nat) {t:Tr},t.ok→(AC p t).ok
 | [],_,h=>h
 |i::is,.mk _ _ ks,h=>by
  rw[AC];cases hk:ks[i]? with
  |none=>exact lI
  |some k=>simp only[Tr.ok]at h;exact Af is (Ei h.2.2.2 hk)
theorem Xo{t:Int}{k:Tr}(h:ks[i]? =some k):AC (i::is) (.mk t b ks)=AC is k:=by rw[AC,h]
theorem Xp{t:Int}(h:ks.length≤i):AC (i::is) (.mk t b ks)=noT:=by rw[AC,List.getElem?_eq_none h]
theorem Sn(a c:Nat):decide ((a:Int)≤(c:Int))=decide (a≤c):=decide_eq_decide.2 (by omega)
theorem YO{w:World}{F:Nat→Prop}:DN w F noT [.int .i64 0,.slice none 0 0,.slice none 0 0]:=by
 simp only[noT,DN,DNs];exact⟨_,_,[],rfl,⟨none,0,rfl,Nat.le_refl _,rfl,.inl rfl⟩,⟨none,0,rfl,Nat.le_refl _,rfl,.inl rfl⟩,rfl⟩
theorem X9{w:World}{F:Nat→Prop}{x y:Value}(h:DN w F t [x,y,z]):((Value.agg #[x,y,z]).cells.toList.all fun x=>x.oneCell')=true:=HB h
def CE(p:List Nat):List Value:=p.map fun i=>Value.int .i64 (i:Nat)
theorem nD{x:Nat}(h:p[i]? =some x):(CE p)[i]? =some (.int .i64 (x:Nat)):=by rw[CE,List.getElem?_map,h];rfl
theorem kK{c:List Value}{pv:Value}{F G:Nat→Prop}(hx:DN w F t c)(hp:AO w pv p.length 1 (CE p) G)(hm:p.length≤1048576):Calls prog 61 #[.agg c.toArray,pv] w fun e w'=> ∃c',e= .returned (.agg c'.toArray)∧DN w F (AC p t) c'∧Bw w w':=by
 obtain⟨y0,y1,y2,rfl⟩:=DI (CS hx);obtain⟨R,hR0⟩: ∃R,AC p t=R:=⟨_,rfl⟩
 rw[hR0]
 go_enter func61,ntmps61
 refine FJ ?_
 refine EL ?_;iterate 5 refine AL ?_
 refine AA (by exact BU rfl gg rfl underlying124 (AW hp)) ?_;iterate 3 refine AL ?_
 refine Bo (α:={x:Nat×Tr×Value×Value×Value // x.1≤p.length∧DN w F x.2.1 [x.2.2.1,x.2.2.2.1,x.2.2.2.2]∧AC (p.drop x.1) x.2.1=R}) (fun(x:{x:Nat×Tr×Value×Value×Value // x.1≤p.length∧DN w F x.2.1 [x.2.2.1,x.2.2.2.1,x.2.2.2.2]∧AC (p.drop x.1) x.2.1=R}) f=>⟨[.v (f 0),.v pv,.p 2 0,.v (f 3),.p 4 0,.v (f 5),.v (f 6),.v pv,.v (.int .i64 (p.length:Nat)),.v (.int .i64 (x.1.1:Nat)),.v (f 10),.v (f 11),.v (f 12),.v (f 13),.v (f 14),.v (f 15),.v (f 16),.v (f 17),.v (f 18),.v (f 19),.v (f 20),.v (f 21),.v (f 22),.v (f 23),.v (f 24),.v (f 25)],AJ [(2,.cells [.v x.1.2.2.1,.v x.1.2.2.2.1,.v x.1.2.2.2.2] 61),(4,.cells [.v (.int .i64 0),.v (.slice none 0 0),.v (.slice none 0 0)] 61)]⟩) (fun x=>p.length-x.1.1) ?_ (⟨(0,t,y0,y1,y2),Nat.zero_le _,hx,hR0⟩) ?_
 ·rintro⟨⟨i,u,z0,z1,z2⟩,hi,hu,hu2⟩ f
  simp only at hi hu hu2;obtain⟨tg,b,ks,rfl⟩: ∃tg b ks,u=Tr.mk tg b ks:=by cases u with|mk tg b ks=>exact⟨tg,b,ks,rfl⟩
  have hu':=hu;simp only[DN]at hu';obtain⟨bv',kv',cs',h_e,hb',hk',hn'⟩:=hu';simp only[List.cons.injEq,and_true]at h_e;obtain⟨rfl,rfl,rfl⟩:=h_e;obtain⟨q,h_q⟩: ∃q,decide (i<p.length)=q:=⟨_,rfl⟩
  have h_q':=(CL i p.length).trans h_q;refine HR ?_
  refine AA (by exact BM rfl gg rfl rfl h_q') ?_;iterate 2 refine q_k ?_
  cases q
  ·refine q_k ?_
   have hie:p.drop i=[]:=List.drop_eq_nil_of_le (by have:=of_decide_eq_false h_q;omega);rw[hie,AC]at hu2;refine As ?_;refine HR ?_
   refine q_8 ?_;refine SH ?_;refine Dl ?_;refine AD (AH results61 (Ac rfl rfl underlying61 rfl sizeOf61 rfl rfl)) ?_;intro ρ w' hr;subst hu2;first|exact⟨_,rfl,YO,hr.1⟩|exact⟨_,rfl,hu,hr.1⟩
  ·refine q_k ?_
   have hlt:=of_decide_eq_true h_q;obtain⟨j,hj⟩:=EV hlt;obtain⟨r,h_r⟩: ∃r,decide (ks.length≤j)=r:=⟨_,rfl⟩
   have h_r':=(Sn ks.length j).trans h_r;iterate 5 refine q_k ?_
   refine SQ ?_;refine SO ?_;iterate 6 refine AL ?_
   refine Ov ?_;refine AA (by first|exact BK rfl gg rfl rfl underlying59 rfl rfl|exact BR rfl gg rfl underlying59 rfl (by assumption)) ?_;refine AA (by exact BU rfl gg rfl underlying59 (AW hk')) ?_;refine AA (by exact B4 rfl gg rfl rfl h_r') ?_;refine q_k ?_;cases r
   ·refine q_k ?_
    have hjl:j<ks.length:=by have:=of_decide_eq_false h_r;omega
    obtain⟨kk,hk⟩:=EV hjl;obtain⟨c2,hc2,hd2⟩:=Nx hn' hk;obtain⟨tg2,b2,ks2,rfl⟩: ∃tg b ks,kk=Tr.mk tg b ks:=by cases kk with|mk tg b ks=>exact⟨tg,b,ks,rfl⟩
    have hd3:=hd2;simp only[DN]at hd3;obtain⟨bv2,kv2,cs2,rfl,_,_,_⟩:=hd3;iterate 2 refine q_k ?_
    refine Ov ?_;refine AA (by first|exact BK rfl gg rfl rfl underlying59 rfl rfl|exact BR rfl gg rfl underlying59 rfl (by assumption)) ?_;refine AL ?_;refine AA (by exact Bc (k:=j) rfl gg rfl rfl underlying59 sizeOf61 (AW hk') (hjl) (by decide)) ?_;refine AA (by exact LF rfl gg rfl underlying61 rfl sizeOf61 (AW hk') (hc2) rfl (by decide)) ?_;refine SH ?_;iterate 2 refine q_k ?_
    refine SS ?_;iterate 2 refine AL ?_
    refine⟨⟨(i+1,.mk tg2 b2 ks2,.int .i64 tg2,bv2,kv2),by show i+1≤p.length;omega,hd2,by show AC (p.drop (i+1)) _=R;rw[←hu2,Bj hj,Xo hk]⟩,by show p.length-(i+1)<p.length-i;omega,?_⟩;exact Ar (fun i=>i==1||i==2||i==4||i==7||i==8||i==9) []
   ·refine q_k ?_
    have hge:=of_decide_eq_true h_r;rw[Bj hj,Xp hge]at hu2;iterate 2 refine q_k ?_
    refine q_0 ?_;refine SH ?_;refine Dl ?_;refine AD (AH results61 (Ac rfl rfl underlying61 rfl sizeOf61 rfl rfl)) ?_;intro ρ w' hr;subst hu2;first|exact⟨_,rfl,YO,hr.1⟩|exact⟨_,rfl,hu,hr.1⟩
 ·exact(Ar (fun i=>i==1||i==2||i==4||i==7||i==8||i==9) []).trans2 (fun f=>Lc (by show(4:Nat)≠2;decide))
section
variable{P:Program}{w0:World}{ops:Array Oper}{o:Oper}{s:VS}
def Ql(w0:World)(m:Mem)(rd:List Nat)(y:SV)(n size:Nat):Prop:= ∀ρ S w,Bw w0 w→RelOn w0.heap.size ρ S w (restr rd m)→ ∃l F,AO w (y.c ρ) n size l F
theorem Jg{t:TypeId}(ho:o.op= .call {callee:= .builtin .len,args:= #[x],argTypes:= #[t]})(hgd:AQ ops o s)(hx:AE s x=y)
 (hu:P.underlying t=some (.slice e))(hr:Ql w0 s.mem rd y n size):Ev P ops w0 o s ⟨.v (.int .i64 (n:Nat)),[],[],[],rd⟩:=
 Ev.run _ _ hgd fun ρ S w hb hR=>by
  have e1:=AI s ρ x;rw[hx]at e1;obtain⟨_,_,ao,cap,h1,_⟩:=hr ρ S w hb hR;rw[h1]at e1;simp[execOp,ho,resolve,invoke,builtin,e1,Builtin.len_,run_underlying hu,SV.c,goInt]
theorem QC{ix:Operand}(ho:o.op= .indexAddr ty x ix)(hgd:AQ ops o s)(hx:AE s x=y)(hi:AE s ix= .v (.int ki (k:Nat)))
 (hu:P.underlying ty=some (.slice e))(hs: ∀w,(Go.sizeOf e).run P w= .ok size w)(hr:Ql w0 s.mem rd y n size)(hk:k<n)(hsz:0<size):Ev P ops w0 o s ⟨.fn (FK (k*size)) y,[],[],[],rd⟩:=
 Ev.run _ _ hgd fun ρ S w hb hR=>by
  have e1:=AI s ρ x;rw[hx]at e1;have e2:=AI s ρ ix;rw[hi]at e2;obtain⟨l,_,ao,cap,h3,h4,h5,h6⟩:=hr ρ S w hb hR;rw[h3]at e1;rcases h6 with h6|⟨g,rfl,_⟩
  ·exfalso
   rw[h6]at h5;have:0<n*size:=Nat.mul_pos (by omega) hsz;simp at h5;omega
  ·simp[execOp,ho,e1,e2,SV.c,Instr.indexAt,asIntOf,run_underlying hu,hs,h3,FK,hk]
theorem P9{off:Nat}{D:Dat}(_hd:o.dst=some id)(ho:o.op= .load ty x)(hgd:AQ ops o s)(hx:AE s x= .fn (FK off) y)
 (hu:P.underlying ty=some d)(hda:Ba d=true)(hs: ∀w,(Go.sizeOf ty).run P w= .ok k w)
 (hr: ∀ρ S w,Bw w0 w→RelOn w0.heap.size ρ S w (restr rd s.mem)→ ∃l F vs S',AO w (y.c ρ) n size l F∧(l.drop off).take k=vs∧D.holds [.agg vs.toArray] w S'∧ ∀q,S' q→ ∃j∈rd,(s.mem j).isSome∧S j q)
 (hl: ∀(vs:List Value) w S,D.holds [.agg vs.toArray] w S→vs.length=k)(hk:0<k):Ev P ops w0 o s ⟨.d id,[(id,.dat D)],[],[id],rd⟩:=
 ⟨by simp[Eff.ok],.inr ⟨hgd,fun ρ S w hb hR=>by
  have e1:=AI s ρ x;rw[hx]at e1;obtain⟨l,F,vs,S',⟨ao,cap,h3,h4,h5,h6⟩,hv,hD,hS⟩:=hr ρ S w hb hR;have hlen:=hl vs w S' hD;rcases h6 with h6|⟨g,rfl,_,h6⟩
  ·exfalso;rw[h6]at hv;simp at hv;rw[hv]at hlen;simp at hlen;omega
  ·have hl':(loadCells (g.add off) vs.length).run P w= .ok vs.toArray w:=run_loadCells_list w _ vs fun j v hj=>by
    rw[Uf];refine h6 _ v ?_;rw[←hv,List.getElem?_take]at hj;split at hj
    ·rwa [List.getElem?_drop]at hj
    ·cases hj
   rw[hlen]at hl'
   have hrun:(execOp (s.act ρ).eval o).run P w= .ok (.value (.agg vs.toArray)) w:=by
    simp[execOp,ho,e1,SV.c,h3,FK,Instr.loadAt,Instr.sureAddr,loadVar,Bp hu,hda,hs,hl']
   refine .inl ⟨_,w,hrun,fun j=>if j=id then⟨0,.agg vs.toArray⟩else ρ j,fun _=>S',?_⟩
   have:=Cj (base:=w0.heap.size) (t:=s.mem) (ρ:=ρ) (S:=S) (w:=w) (w':=w) (val:= .d id) (rd:=rd) (up:=[]) (id:=id) (b:= .dat D) (m:=⟨0,.agg vs.toArray⟩) (S1:=S')
    rfl rfl rfl (Nat.le_refl _) (fun k hk _=>rfl) (fun ρ' g1 _=>by show D.holds [(ρ' id).val] w S';rw[g1];exact hD) (fun q hq=> .inl (hS q hq)) (fun ho=>ho.elim)
   simpa[SV.c] using this⟩⟩
end
theorem au(vs:List Value)(w:World)(S:Nat→Prop)(h:(AR t).holds [.agg vs.toArray] w S):vs.length=3:=by
 obtain⟨c,h1,h2⟩:=h;simp only[List.cons.injEq,Value.agg.injEq,and_true]at h1;have:=CS h2;have e:vs=c:=by simpa using h1
 rw[e];exact this
section
variable{w0:World}{m:Mem}{id:Nat}{t:Int}{b:List Nat}{ks:List Tr}
theorem Ka(hm:m id=some (.dat (AR (.mk t b ks)))):Ql w0 m [id] (.fn (AN 2) (.d id)) ks.length 3:=fun ρ S w _ hR=>by
 obtain⟨c,h1,h2⟩:=Cd hR (by simp) hm;rw[DN]at h2;obtain⟨bv,kv,cs,rfl,h3,h4,_⟩:=h2;exact⟨cs,_,by simp only[SV.c,h1];exact h4⟩
theorem ZD{_k:Nat}{u:Tr}(hm:m id=some (.dat (AR (.mk t b ks))))(hk:ks[i]? =some u): ∀ρ S w,Bw w0 w→RelOn w0.heap.size ρ S w (restr [id] m)→ ∃l F vs S',AO w ((SV.fn (AN 2) (.d id)).c ρ) ks.length 3 l F∧(l.drop (i*3)).take 3=vs∧(AR u).holds [.agg vs.toArray] w S'∧ ∀q,S' q→ ∃j∈[id],(m j).isSome∧S j q:=fun ρ S w _ hR=>by
 obtain⟨c,h1,h2⟩:=Cd hR (by simp) hm;rw[DN]at h2;obtain⟨bv,kv,cs,rfl,h3,h4,h5⟩:=h2;obtain⟨x,hx,hd⟩:=Nx h5 hk;exact⟨cs,_,x,S id,by simp only[SV.c,h1];exact h4,hx,⟨x,rfl,hd⟩,fun q hq=>⟨id,by simp,by rw[hm];rfl,hq⟩⟩
end
theorem WW{m:Mem}(hm:m id=some (.dat (AR t))):Rdg w0 m [id] (.fn (AN 1) (.d id)) (Az t).length 1 ((Az t).map b8):=fun ρ S w _ hR=>by
 obtain⟨c,h1,h2⟩:=Cd hR (by simp) hm;cases t with
 |mk t b ks=>
  rw[DN]at h2;obtain⟨bv,kv,cs,rfl,h3,_,_⟩:=h2;exact⟨_,by simp only[SV.c,h1];exact h3⟩
theorem aV(ho:o.op= .field 61 x 1)(hgd:AQ ops o s)(hx:AE s x= .d id)(hm:s.mem id=some (.dat (AR t))):Ev prog ops w0 o s ⟨.fn (AN 1) (.d id),[],[],[],[id]⟩:=
 Ev.run _ _ hgd fun ρ S w _ hR=>by
  have e1:=AI s ρ x;rw[hx]at e1;obtain⟨c,h1,h2⟩:=Cd (id:=id) hR (by simp) hm;obtain⟨y0,y1,y2,rfl⟩:=DI (CS h2);simp[execOp,ho,e1,SV.c,h1,AN,Value.cells,Instr.field,run_underlying underlying61,Bp underlying23,asAgg,part,Ba]
section
variable{w:World}{base:Nat}{ρ:Nat→Nm}{S:Nat→Nat→Prop}{m:Mem}{rd:List Nat}{t:Tr}
theorem Ex(i q:Nat)(p:List Nat)(hR:RelOn base ρ S w (restr rd m))(hi:i∈rd)(hq:q∈rd)(h1:m i=some (.dat (AR t)))(h2:m q=some (.row p.length 1 3 (.exact (CE p))))(hm:p.length≤1048576:=by decide):
 Calls prog 61 (SV.cs ρ [.agg [.fn (AN 0) (.d i),.fn (AN 1) (.d i),.fn (AN 2) (.d i)],.d q]).toArray w fun e w'=> ∃v S',e= .returned v∧(AR (AC p t)).holds [v] w' S'∧(∀k,S' k→(∃j∈rd,(m j).isSome∧S j k)∨(w.heap.size≤k∧k<w'.heap.size))∧Bw w w':=by
 obtain⟨c,e1,d1⟩:=cW hR hi h1;have hs:=EH hR hq h2;simp only[SV.cs,e1];exact(kK w d1 hs hm).mono fun e w' ⟨c',a1,a2,a3⟩=>⟨_,S i,a1,⟨c',rfl,ED a3 a2⟩,fun k hk=> .inl ⟨i,hi,by rw[h1];rfl,hk⟩,a3⟩
end
def Ax(t:Tr):Int:=bif decide ((tnN t).2≠0)then-1 else(tnN t).1
def Bt(t:Tr):Tr:=(rdT (Az t)).1
def BO(t:Tr):List Nat:=(Az t).drop 1
theorem K9(h:t.ok):(Bt t).ok:=by
 cases t with
 |mk t b ks=>simp only[Tr.ok]at h;exact I3 h.1 h.2.1
theorem EY(h:t.ok):(∀x∈Az t,x<256)∧(Az t).length≤1048576:=by
 cases t with
 |mk t b ks=>simp only[Tr.ok]at h;exact⟨h.1,h.2.1⟩
theorem NY{w:World}{F:Nat→Prop}{x y:Value}(h:DN w F t [x,y,z]):AO w y (Az t).length 1 ((Az t).map b8) F:=by
 cases t with
 |mk t b ks=>
  rw[DN]at h;obtain⟨bv,kv,cs,e,h3,_,_⟩:=h;simp only[List.cons.injEq,and_true]at e;obtain⟨rfl,rfl,rfl⟩:=e;exact h3
def wiB(n a c:Int):Bool:=decide (n≥a) && decide (n≤c)
def Db(s:List Nat):Bool:=decide ((twN (utT s)).2=0) && decide ((twN (utT s)).1≠[])
theorem lF{c:List Value}{F:Nat→Prop}(hok:t.ok)(hx:DN w F t c):Calls prog 62 #[.agg c.toArray] w fun e w'=>e= .returned (.int .i64 (Ax t))∧Bw w w':=by
 obtain⟨y0,y1,y2,rfl⟩:=DI (CS hx);obtain⟨q,h_q⟩: ∃q,decide ((tnN t).2≠0)=q:=⟨_,rfl⟩
 have hn:Ax t=bif q then-1 else(tnN t).1:=by rw[Ax,h_q]
 rw[hn]
 go_enter func62,ntmps62
 refine FG ?_
 refine q_8 ?_;refine AA (by exact Ad (v:= .tuple #[.int .i64 (tnN t).1,.int .i64 (tnN t).2]) rfl gg rfl (eo func110) (fun w' hw'=>dw w' hok (ED hw' hx))) ?_;iterate 10 refine AL ?_
 refine AA (by exact BB rfl gg rfl rfl h_q) ?_;refine q_k ?_;cases q
 ·iterate 7 refine AL ?_
  exact AG (AD (AH results62 (AF rfl)) fun _ _ hr=>⟨rfl,hr.1⟩)
 ·iterate 5 refine AL ?_
  exact AG (AD (AH results62 (AF rfl)) fun _ _ hr=>⟨rfl,hr.1⟩)
theorem nE{c:List Value}{F:Nat→Prop}(hok:t.ok)(hx:DN w F t c):Calls prog 65 #[.agg c.toArray] w fun e w'=> ∃v,e= .returned v∧Ae w w' v (AR (Bt t))∧Bw w w':=by
 obtain⟨y0,y1,y2,rfl⟩:=DI (CS hx)
 go_enter func65,ntmps65
 refine FJ ?_
 refine E6 ?_
 refine SC ?_;refine I5 ?_;refine AA (by exact DL (D:=AR (rdT (Az t)).1) (ys:=[.int .i64 (rdT (Az t)).2]) [] rfl rfl gg rfl (eo func25) (fun ρ S w' hb hR=>Uk w' (A5 (NY hx) hb) (EY hok).1 (EY hok).2)) ?_;iterate 3 refine AL ?_
 refine EL ?_;refine Wu ?_;iterate 4 refine AL ?_
 refine q_8 ?_;refine Wu ?_;refine Dl ?_;refine AD (AH results65 (Am rfl rfl underlying61 rfl sizeOf61 rfl)) ?_;intro ρ w' hr;exact⟨_,rfl,Hs 8 hr rfl,hr.1⟩
theorem pL{c:List Value}{F:Nat→Prop}(_hok:t.ok)(hx:DN w F t c):Calls prog 64 #[.agg c.toArray] w fun e w'=> ∃v,e= .returned v∧AO w' v (BO t).length 1 ((BO t).map b8) F∧Bw w w':=by
 obtain⟨y0,y1,y2,rfl⟩:=DI (CS hx);obtain⟨q,h_q⟩: ∃q,decide (((Az t).length:Int)=0)=q:=⟨_,rfl⟩
 go_enter func64,ntmps64
 refine A4 ?_;iterate 8 refine AL ?_
 refine SC ?_;refine I5 ?_;refine AA (by exact BU rfl gg rfl underlying23 (AW (NY hx))) ?_;refine AA (by exact Ag rfl gg rfl rfl h_q) ?_;refine q_k ?_;cases q
 ·iterate 4 refine q_k ?_
  refine SC ?_;refine I5 ?_;refine AA (by exact Fa (a:=1) (b:=(Az t).length) (v':=Ay (1) ((Az t).length) 1 y1) rfl gg rfl underlying23 sizeOf5 (AW (NY hx)) rfl rfl (by have:=of_decide_eq_false h_q;omega) (Nat.le_refl _) rfl) ?_;iterate 2 refine AL ?_
  refine AG ?_;refine AD (AH results64 (AF rfl)) ?_;intro ρ w' hr;first|exact⟨_,rfl,by rw[BO,hz];exact⟨none,0,rfl,Nat.le_refl _,rfl,.inl rfl⟩,hr.1⟩|exact⟨_,rfl,A5 (N8 (NY hx) (by have:=of_decide_eq_false h_q;omega)) hr.1,hr.1⟩
 ·refine q_k ?_
  have hz:Az t=[]:=List.eq_nil_of_length_eq_zero (by have:=of_decide_eq_true h_q;omega);iterate 4 refine AL ?_
  refine AG ?_;refine AD (AH results64 (AF rfl)) ?_;intro ρ w' hr;first|exact⟨_,rfl,by rw[BO,hz];exact⟨none,0,rfl,Nat.le_refl _,rfl,.inl rfl⟩,hr.1⟩|exact⟨_,rfl,A5 (N8 (NY hx) (by have:=of_decide_eq_false h_q;omega)) hr.1,hr.1⟩
theorem EF{n a c:Int}:Calls prog 66 #[.int .i64 n,.int .i64 a,.int .i64 c] w fun e w'=>e= .returned (.bool (wiB n a c))∧Bw w w':=by
 obtain⟨p,h_p⟩: ∃p,decide (n≥a)=p:=⟨_,rfl⟩
 obtain⟨q,h_q⟩: ∃q,decide (n≤c)=q:=⟨_,rfl⟩
 rw[wiB,h_p,h_q]
 go_enter func66,ntmps66
 refine A4 ?_;cases p<;>cases q<;>
 (
  iterate 8 refine AL ?_
  refine AA (by exact Ew rfl gg rfl rfl h_p) ?_;refine AL ?_;iterate 2 refine DY ?_
  refine AA (by first|exact Ev.skip (fun _=>rfl)|exact Ev.skip (fun _=>rfl)|exact LG rfl (fun _=>rfl) rfl rfl h_q) ?_;refine HZ ?_
  exact AG (AD (AH results66 (AF rfl)) fun _ _ hr=>⟨rfl,hr.1⟩)
 )
theorem Sp{s:List Nat}(h8: ∀x∈s,x<256)(hl:s.length≤1048576):Calls prog 104 #[.string (AB s)] w fun e w'=>e= .returned (.bool (Db s))∧Bw w w':=by
 obtain⟨p,h_p⟩: ∃p,decide ((twN (utT s)).2=0)=p:=⟨_,rfl⟩
 obtain⟨q,h_q⟩: ∃q,decide ((twN (utT s)).1≠[])=q:=⟨_,rfl⟩
 have ht8: ∀x∈(twN (utT s)).1,x<256:=by
  unfold twN;cases Ju (utT s)
  ·simp
  ·exact h8
 rw[Db,h_p,h_q]
 go_enter func104,ntmps104
 refine A4 ?_;cases p<;>cases q<;>
 (
  iterate 7 refine AL ?_
  refine AA (by exact Al (D:=AR (utT s)) [] rfl rfl gg rfl (eo func156) (fun ρ S w' hb hR=>cf h8 (by simp only[maxLen];omega) w')) ?_;refine AA (by exact Aj (v:= .tuple #[.string (AB (twN (utT s)).1),.int .i64 (twN (utT s)).2]) [7] rfl gg rfl (eo func155) (fun ρ S w' hb hR=>p9 7 (F0 h8 hl) hR (by simp) rfl)) ?_;iterate 9 refine AL ?_
  refine AA (by exact Ag rfl gg rfl rfl h_p) ?_;refine AL ?_;refine DY ?_;refine AA (by first|exact Ev.skip (fun _=>rfl)|exact Ev.skip (fun _=>rfl)|exact AK rfl (fun _=>rfl) rfl rfl (fun w=>Hp h_q ht8 (by simp) _ _ w)) ?_;refine HZ ?_
  exact AG (AD (AH results104 (AF rfl)) fun _ _ hr=>⟨rfl,hr.1⟩)
 )
section
variable{w:World}{base:Nat}{ρ:Nat→Nm}{S:Nat→Nat→Prop}{m:Mem}{rd:List Nat}{t:Tr}
theorem LN(i:Nat)(hok:t.ok)(hR:RelOn base ρ S w (restr rd m))(hi:i∈rd)(h1:m i=some (.dat (AR t))):Calls prog 62 (SV.cs ρ [.d i]).toArray w fun e w'=>e= .returned (.int .i64 (Ax t))∧Bw w w':=by
 obtain⟨c,e1,d1⟩:=Cd hR hi h1;simp only[SV.cs,SV.c,e1];exact lF w hok d1
theorem UJ(i:Nat)(hok:t.ok)(hR:RelOn base ρ S w (restr rd m))(hi:i∈rd)(h1:m i=some (.dat (AR t))):Calls prog 65 (SV.cs ρ [.d i]).toArray w fun e w'=> ∃v,e= .returned v∧Ae w w' v (AR (Bt t))∧Bw w w':=by
 obtain⟨c,e1,d1⟩:=Cd hR hi h1;simp only[SV.cs,SV.c,e1];exact nE w hok d1
theorem bN(i:Nat)(hok:t.ok)(hR:RelOn base ρ S w (restr rd m))(hi:i∈rd)(h1:m i=some (.dat (AR t))):Calls prog 64 (SV.cs ρ [.d i]).toArray w fun e w'=> ∃v S',e= .returned v∧(Dat.sl (BO t).length 1 ((BO t).map b8)).holds [v] w' S'∧(∀k,S' k→(∃j∈rd,(m j).isSome∧S j k)∨(w.heap.size≤k∧k<w'.heap.size))∧Bw w w':=by
 obtain⟨c,e1,d1⟩:=Cd hR hi h1;simp only[SV.cs,SV.c,e1];exact(pL w hok d1).mono fun e w' ⟨v,a1,a2,a3⟩=>⟨v,S i,a1,⟨v,rfl,a2⟩,fun k hk=> .inl ⟨i,hi,by rw[h1];rfl,hk⟩,a3⟩
end
end Go.Proofs.YtafbhakmkbehiaaGreatDoor
