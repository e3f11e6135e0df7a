import Derived.Lib.BufferWrite
import Derived.Test.YtafbhakmkbehiaaGreatDoorY28
open Go.Proofs.Tryz
set_option maxHeartbeats 4000000
set_option maxRecDepth 100000
namespace Go.Proofs.YtafbhakmkbehiaaGreatDoor
open Go.RowKit Go.Vx
variable(w:World){parts:Array (Nat×Operand)}{ops:Array Oper}{D:Dat}{n:Int}{b is p rd:List Nat}{ks:List Tr}{i id q r:Nat}{S:Nat→Nat→Prop}{ρ:Nat→Nm}{G:Nat→Prop}{o:Oper}{x y:Operand}{P:Program}{t:Tr}{bt e ty:TypeId}{s:VS}{kv u v:Value}{X Y:Value→World→Prop}{w0:World}
open TollMont
open Go.Toll (Gw)
open TollEc (F pp cb Jp Pt Au add base nn neg)
open TollSha (sha CH)
theorem fW{t:Nat}(h8: ∀x∈b,x<256)(hbl:b.length≤1048576)(h:sgT b=some (r,t)):r<R∧t<R:=by
 have hok:=I3 h8 hbl;unfold sgT at h;generalize rdT b=z at h hok;obtain⟨⟨tg,bd,ks⟩,E⟩:=z;simp only at h hok;cases h1:decide (E≠0)with
 |true=>rw[h1]at h;cases h
 |false=>
  rw[h1,cond_false,KA]at h;cases h2:decide (tg≠48)with
  |true=>rw[h2]at h;cases h
  |false=>
   rw[h2,cond_false]at h;have hks:oks ks:=by simp only[Tr.ok]at hok;exact hok.2.2.2
   match ks,hks,h with
   | [],_,h=>cases h
   | [_],_,h=>cases h
   |_::_::_::_,_,h=>cases h
   | [k0,k1],hks,h=>
     rw[H5]at h;cases h3:decide ((tbN k0).2≠0)with
     |true=>rw[h3]at h;cases h
     |false=>
      cases h4:decide ((tbN k1).2≠0)with
      |true=>rw[h3,h4]at h;cases h
      |false=>
       rw[h3,h4]at h;simp only[cond_false,Option.some.injEq,Prod.mk.injEq]at h;obtain⟨rfl,rfl⟩:=h;exact⟨VU hks.1,VU hks.2.1⟩
def G5(c:Crt):Dat:=⟨fun xs w S=> ∃kv,xs=[CVV c kv]∧AO w kv c.ky.length 1 (c.ky.map b8) S,fun⟨kv,e,h⟩ hk=>⟨kv,e,h.keep hk⟩⟩
theorem Nb{w:World}{base:Nat}{m:Mem}{c:Crt}(hR:RelOn base ρ S w (restr rd m))(hid:id∈rd)(hm:m id=some (.dat (G5 c))): ∃kv,(ρ id).val=CVV c kv∧AO w kv c.ky.length 1 (c.ky.map b8) (S id):=by
 obtain⟨kv,h1,h2⟩:=Gc hR hid hm;simp only[List.cons.injEq,and_true]at h1;exact⟨kv,h1,h2⟩
theorem f8{w w':World}{n:Nat}{l:List Value}(h:BN w w' v n 1 ty l)(hl:l.length=n): ∃S,AO w' v n 1 l S∧ ∀k,S k→w.heap.size≤k∧k<w'.heap.size:=by
 obtain⟨g,h⟩:=h;have hs:=DX h (by omega);rcases h with⟨h1,h2⟩|⟨off,cap,cur,fz,h1,h2,h3,_⟩
 ·refine⟨fun _=>False,?_,fun k hk=>hk.elim⟩
  obtain⟨ao,cp,a1,a2,a3,_⟩:=hs;exact⟨ao,cp,a1,a2,a3,.inl (List.eq_nil_of_length_eq_zero (by omega))⟩
 ·exact⟨_,hs,fun k hk=>by subst hk;exact⟨h2,(Array.getElem?_eq_some_iff.1 h3).1⟩⟩
theorem iG{c:Crt}{t:Nat}(h8: ∀x∈b,x<256)(hbl:b.length≤1048576)(h:rdC b=some (c,r,t)):C2 c=true∧c.Fit∧r<R∧t<R∧(wrT (c.whole r t)).1=b:=by
 have hok:=I3 h8 hbl;unfold rdC at h;generalize rdT b=z at h hok;obtain⟨n0,E⟩:=z;simp only at h hok;cases h1:decide (E≠0)with
 |true=>rw[h1]at h;cases h
 |false=>
  rw[h1,cond_false,Gz]at h;cases h2: !(wiB (CX n0) 0 3 && wiB (Cl n0) 0 3)with
  |true=>rw[h2]at h;cases h
  |false=>
   rw[h2,cond_false]at h;have hsg:=Hv (Af [2] hok);have hsl:=KE (Af [2] hok);generalize hgg:BO (AC [2] n0)=gb at h hsg hsl;cases h3:sgT gb with
   |none=>rw[h3,GF]at h;cases h
   |some rt=>
    obtain⟨r',t'⟩:=rt;rw[h3,GF]at h;cases h4:C2 (GJ n0)with
    |false=>rw[h4]at h;cases h
    |true=>
     rw[h4]at h;cases h5:decide ((wrT ((GJ n0).whole r' t')).1=b)with
     |false=>rw[h5]at h;cases h
     |true=>
      rw[h5]at h;simp only[Bool.not_true,cond_false,Option.some.injEq,Prod.mk.injEq]at h;obtain⟨rfl,rfl,rfl⟩:=h;have hlt:=fW hsg hsl h3;exact⟨h4,KD (EY (Af [3,0,1] (Af [0] hok))).1 (EY (Af [5,0,1] (Af [0] hok))).1 (Hv (Af [6,1] (Af [0] hok))) h4,hlt.1,hlt.2,of_decide_eq_true h5⟩
def Ed(c:Crt):Nat:=TollBy.beV (sha (wrT c.body).1) 0
theorem eX(c:Crt):Ed c<R:=IX (TollSha.sha_len _) (Oa _)
theorem Vf(c:Crt):Value.agg ((sha [(wrT c.body).1].flatten).map b8).toArray=B32 (Ed c):=by
 rw[Qq,Ed,G6 (TollSha.sha_len _) (Oa _)];rw[List.flatten_cons,List.flatten_nil,List.append_nil]
open Classical in
noncomputable def Ob(b l:List Nat):Int:=match rdC b with
 |none=>2
 |some (c,r,t)=>EX l (Ed c) r t
theorem QL{w:World}{S:Nat→Prop}{c:Crt}(h1:(ρ id).val=CVV c kv)(h2:AO w kv c.ky.length 1 (c.ky.map b8) S):((SV.d id).c ρ).cells.toList=SV.cs ρ [.v (.int .i64 c.se),.v (.string (AB c.is)),.v (.string (AB c.su)),.v (.int .i64 c.fr),.v (.int .i64 c.to),.fn (AN 5) (.d id),.v (.bool c.ca),.v (.int .i64 c.pa),.v (.int .i64 c.us)]∧(SV.cs ρ [.v (.int .i64 c.se),.v (.string (AB c.is)),.v (.string (AB c.su)),.v (.int .i64 c.fr),.v (.int .i64 c.to),.fn (AN 5) (.d id),.v (.bool c.ca),.v (.int .i64 c.pa),.v (.int .i64 c.us)]).all (·.oneCell')=true:=by
 obtain⟨ao,cp,rfl,_⟩:=h2;simp[SV.c,SV.cs,h1,CVV,AN,Value.cells,Value.oneCell']
theorem cX{w:World}{base:Nat}{m:Mem}{c:Crt}(hR:RelOn base ρ S w (restr rd m))(hid:id∈rd)(hm:m id=some (.dat (G5 c))): ∃kv,SV.c ρ (.agg [.v (.int .i64 c.se),.v (.string (AB c.is)),.v (.string (AB c.su)),.v (.int .i64 c.fr),.v (.int .i64 c.to),.fn (AN 5) (.d id),.v (.bool c.ca),.v (.int .i64 c.pa),.v (.int .i64 c.us)])=CVV c kv∧AO w kv c.ky.length 1 (c.ky.map b8) (S id):=by
 obtain⟨kv,h1,h2⟩:=Nb hR hid hm;refine⟨kv,?_,h2⟩;simp[SV.c,SV.cs,h1,CVV,AN,Value.cells]
theorem gR{w:World}(id:Nat){c:Crt}(hr:Rel w0 ρ s w)(hm:s.mem id=some (.dat (G5 c))):Ae w0 w (SV.c ρ (.agg [.v (.int .i64 c.se),.v (.string (AB c.is)),.v (.string (AB c.su)),.v (.int .i64 c.fr),.v (.int .i64 c.to),.fn (AN 5) (.d id),.v (.bool c.ca),.v (.int .i64 c.pa),.v (.int .i64 c.us)])) (G5 c):=by
 obtain⟨hb,S,hR⟩:=hr;obtain⟨kv,h1,h2⟩:=hR.good id _ hm;simp only[List.cons.injEq,and_true]at h1;have e:SV.c ρ (.agg [.v (.int .i64 c.se),.v (.string (AB c.is)),.v (.string (AB c.su)),.v (.int .i64 c.fr),.v (.int .i64 c.to),.fn (AN 5) (.d id),.v (.bool c.ca),.v (.int .i64 c.pa),.v (.int .i64 c.us)])=CVV c kv:=by simp[SV.c,SV.cs,h1,CVV,AN,Value.cells]
 rw[e];exact⟨S id,⟨kv,rfl,h2⟩,fun k hk=>⟨hR.fr id k (by rw[hm];rfl) hk,hR.lt id k (by rw[hm];rfl) hk⟩⟩
theorem gz{F:Nat→Prop}{c:Crt}{t:Nat}(hL:Laid w)(hv:AO w v b.length 1 (b.map b8) F)(h8: ∀x∈b,x<256)(hbl:b.length≤1048576)(h:rdC b=some (c,r,t)):
 Calls prog 34 #[v] w fun e w'=> ∃u,e= .returned (.tuple #[u,PT r t,.int .i64 0])∧Ae w w' u (G5 c)∧Bw w w':=by
 have a:=WO w hL hv h8 hbl;rw[h]at a;refine a.mono fun e w' ⟨⟨kv,h1,h2⟩,h3⟩=>⟨_,h1,?_,h3⟩
 obtain⟨S,s1,s2⟩:=f8 h2 (by simp);exact⟨S,⟨kv,rfl,s1⟩,s2⟩
theorem gu{F:Nat→Prop}(hL:Laid w)(hv:AO w v b.length 1 (b.map b8) F)(h8: ∀x∈b,x<256)(hbl:b.length≤1048576)(h:rdC b=none):
 Calls prog 34 #[v] w fun e w'=>e= .returned (.tuple #[CZ,ZV,.int .i64 2])∧Bw w w':=by
 have a:=WO w hL hv h8 hbl;rw[h]at a;exact a
theorem qC{w:World}{base:Nat}{m:Mem}{c:Crt}(id:Nat)(hf:c.Fit)(hK:B6 w)(hH:CQ w)(hb1:7<w.heap.size)(hR:RelOn base ρ S w (restr rd m))(hid:id∈rd)(hm:m id=some (.dat (G5 c))):
 Calls prog 47 (SV.cs ρ [.agg [.v (.int .i64 c.se),.v (.string (AB c.is)),.v (.string (AB c.su)),.v (.int .i64 c.fr),.v (.int .i64 c.to),.fn (AN 5) (.d id),.v (.bool c.ca),.v (.int .i64 c.pa),.v (.int .i64 c.us)]]).toArray w fun e w'=>e= .returned (B32 (Ed c))∧Bw w w':=by
 obtain⟨kv,e,h⟩:=cX hR hid hm;simp only[SV.cs,e];rw[←Vf];exact Ve w hf h hK hH hb1
theorem sJ{l:List Nat}{F:Nat→Prop}(hL:Laid w)(_hK:B6 w)(_hH:CQ w)(_hb1:7<w.heap.size)(hv:AO w v b.length 1 (b.map b8) F)(_hu:AO w u l.length 1 (l.map b8) G)(h8: ∀x∈b,x<256)(_hu8: ∀x∈l,x<256)(hbl:b.length≤1048576)(hc:rdC b=none):Calls prog 20 #[v,u] w fun e w'=>e= .returned (.int .i64 2)∧Bw w w':=by
 go_enter func20,ntmps20
 refine Fy ?_
 refine XF ?_;iterate 4 refine AL ?_
 refine Gh ?_;refine Ef ?_;refine PC ?_;refine ME ?_
 refine AA (by exact BB (p:=true) rfl gg rfl rfl (by decide)) ?_;iterate 7 refine AL ?_
 exact AG (AD (AH results20 (AF rfl)) fun _ _ hr=>⟨rfl,hr.1⟩)
theorem sH{l:List Nat}{F:Nat→Prop}(hL:Laid w)(hK:B6 w)(hH:CQ w)(hb1:7<w.heap.size)(hv:AO w v b.length 1 (b.map b8) F)(hu:AO w u l.length 1 (l.map b8) G)(h8: ∀x∈b,x<256)(hu8: ∀x∈l,x<256)(hbl:b.length≤1048576){c:Crt}{t:Nat}(hc:rdC b=some (c,r,t)):Calls prog 20 #[v,u] w fun e w'=>e= .returned (.int .i64 (EX l (Ed c) r t))∧Bw w w':=by
 have hs:=iG h8 hbl hc
 go_enter func20,ntmps20
 refine Fy ?_
 refine Wg ?_;iterate 4 refine AL ?_
 refine Gh ?_;refine Ef ?_;refine AA (by exact Bh (vl:=[.v (.int .i64 c.se),.v (.string (AB c.is)),.v (.string (AB c.su)),.v (.int .i64 c.fr),.v (.int .i64 c.to),.fn (AN 5) (.d 10),.v (.bool c.ca),.v (.int .i64 c.pa),.v (.int .i64 c.us)]) [10,5] rfl gg rfl rfl rfl sizeOf34 rfl (fun ρ S w' _ hR=>by obtain⟨kv,e,h⟩:=Nb (id:=10) hR (by simp) rfl;exact QL e h) rfl (by simp)) ?_;refine ME ?_
 refine AA (by exact BB (p:=false) rfl gg rfl rfl (by decide)) ?_;iterate 6 refine AL ?_
 refine Gi ?_;refine AA (by exact Aj (v:=B32 (Ed c)) [10] rfl gg rfl (eo func47) (fun ρ S w' hb hR=>qC 10 hs.2.1 (hK.bw hb) (hH.bw hb) (Nat.lt_of_lt_of_le hb1 hb.size) hR (by simp) rfl)) ?_;refine C4 ?_;refine AA (by exact Ad (v:= .int .i64 (EX l (Ed c) r t)) rfl gg rfl (eo func46) (fun w' hw'=>sa (A5 hu hw') hu8 (eX c) hs.2.2.1 hs.2.2.2.1 (hL.bw hw'))) ?_;iterate 2 refine AL ?_
 exact AG (AD (AH results20 (AF rfl)) fun _ _ hr=>⟨rfl,hr.1⟩)
theorem sI{l:List Nat}{F:Nat→Prop}(hL:Laid w)(hK:B6 w)(hH:CQ w)(hb1:7<w.heap.size)(hv:AO w v b.length 1 (b.map b8) F)(hu:AO w u l.length 1 (l.map b8) G)(h8: ∀x∈b,x<256)(hu8: ∀x∈l,x<256)(hbl:b.length≤1048576):Calls prog 20 #[v,u] w fun e w'=>e= .returned (.int .i64 (Ob b l))∧Bw w w':=by
 unfold Ob;rcases hc:rdC b with _|⟨c,r,t⟩
 ·exact sJ w hL hK hH hb1 hv hu h8 hu8 hbl hc
 ·exact sH w hL hK hH hb1 hv hu h8 hu8 hbl hc
theorem qF{F:Nat→Prop}(hL:Laid w)(hv:AO w v b.length 1 (b.map b8) F)(h8: ∀x∈b,x<256)(hbl:b.length≤1048576)(hc:rdC b=none):Calls prog 12 #[v] w fun e w'=>e= .returned (.tuple #[CZ,.int .i64 2])∧Bw w w':=by
 go_enter func12,ntmps12
 refine Dn ?_
 refine Gh ?_;iterate 5 refine AL ?_
 refine XF ?_;iterate 4 refine AL ?_
 refine Gh ?_;refine Ef ?_;refine PC ?_;refine KG ?_
 refine Gi ?_;refine AL ?_;refine PC ?_;iterate 2 refine AL ?_
 exact AG (AD (Av results12 (Ac rfl rfl underlying34 rfl sizeOf34 rfl rfl) (AF rfl)) fun _ _ hr=>⟨rfl,hr.1⟩)
theorem qE{F:Nat→Prop}{c:Crt}{t:Nat}(hL:Laid w)(hv:AO w v b.length 1 (b.map b8) F)(h8: ∀x∈b,x<256)(hbl:b.length≤1048576)(hc:rdC b=some (c,r,t)):Calls prog 12 #[v] w fun e w'=> ∃u,e= .returned (.tuple #[u,.int .i64 0])∧Ae w w' u (G5 c)∧Bw w w':=by
 go_enter func12,ntmps12
 refine Dn ?_
 refine Gh ?_;iterate 5 refine AL ?_
 refine Wg ?_;iterate 4 refine AL ?_
 refine Gh ?_;refine Ef ?_;refine Wx ?_;refine KG ?_
 refine Gi ?_;refine AL ?_;refine Wx ?_;iterate 2 refine AL ?_
 refine AG ?_;refine AD (Av results12 (Am rfl rfl underlying34 rfl sizeOf34 rfl) (AF rfl)) ?_;intro ρ w' hr;exact⟨_,rfl,gR 9 hr rfl,hr.1⟩
theorem qG{c:Crt}{F:Nat→Prop}{d t:Nat}(hL:Laid w)(hK:B6 w)(hH:CQ w)(hb1:7<w.heap.size)(hk:AO w kv c.ky.length 1 (c.ky.map b8) F)(hf:c.Fit)(hrg:C2 c=true)(hsg: ∀w',Bw w w'→Calls prog 58 #[B32 d,B32 (Ed c)] w' fun e w2=>e= .returned (.tuple #[PT r t,.int .i64 0])∧Bw w' w2):Calls prog 30 #[(.agg #[.int .i64 c.se,.string (AB c.is),.string (AB c.su),.int .i64 c.fr,.int .i64 c.to,kv,.bool c.ca,.int .i64 c.pa,.int .i64 c.us]),B32 d] w fun e w'=> ∃v,e= .returned (.tuple #[v,.int .i64 0])∧BN w w' v ((wrT (c.whole r t)).1.length) 1 5 ((wrT (c.whole r t)).1.map b8)∧Bw w w':=by
 go_enter func30,ntmps30
 refine A4 ?_;iterate 10 refine AL ?_
 refine Gi ?_;refine AA (by exact CI hrg rfl gg rfl (eo func57) (fun w' hw'=>WE w' (hL.bw hw') (A5 hk hw') hf.k8 hf.i8 hf.s8 (by have:=hf.il;omega) (by have:=hf.sl;omega))) ?_;refine KJ ?_
 refine H2 ?_;refine Gi ?_;refine AA (by exact Ad (v:=B32 (Ed c)) rfl gg rfl (eo func47) (fun w' hw'=>by rw[←Vf];exact Ve w' hf (A5 hk hw') (hK.bw hw') (hH.bw hw') (Nat.lt_of_lt_of_le hb1 hw'.size))) ?_;refine AA (by exact Ad (v:= .tuple #[PT r t,.int .i64 0]) rfl gg rfl (eo func58) (fun w' hw'=>hsg w' hw')) ?_;iterate 3 refine AL ?_
 refine Ef ?_;refine ME ?_
 refine AA (by exact BB (p:=false) rfl gg rfl rfl (by decide)) ?_;iterate 5 refine q_k ?_
 refine Gi ?_;refine C4 ?_;refine AA (by exact Cs [] rfl rfl gg rfl (eo func59) (n:=(wrT (c.whole r t)).1.length) (size:=1) (l:=(wrT (c.whole r t)).1.map b8) (by simp) (fun ρ S w' hb hR=>VA w' hf (A5 hk hb))) ?_;iterate 3 refine AL ?_
 refine AG ?_;refine AD (Av results30 (AF rfl) (AF rfl)) ?_;intro ρ w' hr;exact⟨_,rfl,B8 hr rfl,hr.1⟩
def LZ(m:Mem):List Nat→List Tr→Prop
 | [],[]=>True
 |i::is,t::ts=>m i=some (.dat (AU t))∧LZ m is ts
 |_,_=>False
theorem cQ{m:Mem}: ∀{is:List Nat} {ks:List Tr},LZ m is ks→is.length=ks.length
 | [],[],_=>rfl
 |_::_,_::_,h=>by simp[cQ h.2]
 | [],_::_,h=>h.elim
 |_::_,[],h=>h.elim
theorem cR{m:Mem}: ∀{is:List Nat} {ks:List Tr},LZ m is ks→ ∀i∈is,∃t,m i=some (.dat (AU t))
 |_::_,_::_,h,i,hi=>by
  rcases List.mem_cons.1 hi with rfl|hi
  ·exact⟨_,h.1⟩
  ·exact cR h.2 i hi
 | [],_,_,_,hi=>by cases hi
 |_::_,[],h,_,_=>h.elim
section
variable{ρ:Nat→Nm}{S:Nat→Nat→Prop}{w:World}{base:Nat}{m:Mem}{rd:List Nat}
theorem cS(hR:RelOn base ρ S w (restr rd m)): ∀{is:List Nat} {ks:List Tr},LZ m is ks→(∀i∈is,i∈rd)→ ∃cs,SV.cs ρ (tri is)=cs∧RNs w (Ic S m rd) ks cs∧cs.length=is.length*3∧cs.all (·.oneCell')=true
 | [],[],_,_=>⟨[],rfl,rfl,rfl,rfl⟩
 |i::is,t::ts,h,hi=>by
  obtain⟨cs,h1,h2,h3,h4⟩:=cS hR h.2 fun j hj=>hi j (by simp[hj])
  obtain⟨c,e1,d1⟩:=C9 hR (hi i (by simp)) h.1;have f1:=(fn3 e1 (Cu d1)).2;refine⟨c++cs,?_,⟨c,cs,rfl,Un (fun k hk=>⟨i,hi i (by simp),by rw[h.1];rfl,hk⟩) d1,h2⟩,by rw[List.length_append,Cu d1,h3,List.length_cons];omega,by rw[List.all_append,Ib d1,h4];rfl⟩;rw[←f1,←h1];simp[tri,A8]
 | [],_::_,h,_=>h.elim
 |_::_,[],h,_=>h.elim
end
theorem oj{n:Nat}(hd:o.dst=some id)(ho:o.op= .buildSlice ty n parts)(hgd:AQ ops o s)
 (hp:parts.toList.map (·.1)=List.range' 0 n)(hx:parts.toList.map (fun p=>AE s p.2)=is.map .d)(ha:LZ s.mem is ks)(hid:SV.hasL id (tri is)=false)
 (hu:P.underlying ty=some (.slice e))(hsz:(P.info? e).map (·.size)=some 3)(hz:((P.info? e).bind (·.zero)).isSome=true)(hpos:0<n*3)(hsm:n*3≤2^24):
 Ev P ops w0 o s ⟨.s id 0 n n,[(id,.cells (tri is) e)],[],[id],is⟩:=
 NU (ys:=is.map .d) (ls:=is.map fun i=>[.fn (AN 0) (.d i),.fn (AN 1) (.d i),.fn (AN 2) (.d i)]) is hd ho hgd hp hx (by simp) (fun ρ S w _ hR j y lj hy hl=>by
  rw[List.getElem?_map]at hy hl;cases hi:is[j]? with
  |none=>rw[hi]at hy;cases hy
  |some i=>
   rw[hi]at hy hl;simp only[Option.map_some,Option.some.injEq]at hy hl;subst hy hl;have hm:i∈is:=List.mem_of_getElem? hi;obtain⟨t,ht⟩:=cR ha i hm;obtain⟨c,e1,d1⟩:=C9 hR hm ht;exact(fn3 e1 (Cu d1)).1) (fun lj hl=>by obtain⟨i,_,rfl⟩:=List.mem_map.1 hl;rfl) (by rw[tri,List.flatMap_def]) hid hu hsz hz hpos hsm
theorem an{a:Act}{w:World}(h:Up P o a w X)(hm: ∀v w',X v w'→Y v w'):Up P o a w Y:=by
 rcases h with⟨v,w',e,h⟩|⟨w',e,h⟩|⟨f,args,e,h⟩
 ·exact .inl ⟨v,w',e,hm _ _ h⟩
 ·exact .inr (.inl ⟨w',e,hm _ _ h⟩)
 ·exact .inr (.inr ⟨f,args,e,h.mono fun _ _ ⟨v,h1,h2⟩=>⟨v,h1,hm _ _ h2⟩⟩)
def NZ(ks:List Tr):Dat:=⟨fun xs w S=> ∃v cs,xs=[v]∧AO w v ks.length 3 cs S∧RNs w S ks cs,fun⟨v,cs,e,h,g⟩ hk=>⟨v,cs,e,h.keep hk,Nv hk g⟩⟩
theorem bA{ρ':Nat→Nm}(h: ∀i∈is,ρ' i=ρ i):SV.cs ρ' (tri is)=SV.cs ρ (tri is):=by
 rw[A8,A8];apply List.map_congr_left;intro x hx;obtain⟨i,hi,hx⟩:=List.mem_flatMap.1 hx;simp only[List.mem_cons,List.not_mem_nil,or_false]at hx;rcases hx with rfl|rfl|rfl<;>simp[SV.c,h i hi]
theorem Dg{n:Nat}(hd:o.dst=some id)(ho:o.op= .buildSlice ty n parts)(hgd:AQ ops o s)
 (hp:parts.toList.map (·.1)=List.range' 0 n)(hx:parts.toList.map (fun p=>AE s p.2)=is.map .d)(ha:LZ s.mem is ks)(hid:SV.hasL id (tri is)=false)
 (hu:P.underlying ty=some (.slice e))(hsz:(P.info? e).map (·.size)=some 3)(hz:((P.info? e).bind (·.zero)).isSome=true)(hpos:0<n*3)(hsm:n*3≤2^24)(hni:id∉is):
 Ev P ops w0 o s ⟨.d id,[(id,.dat (NZ ks))],[],[id],is⟩:=
 ⟨by simp[Eff.ok],.inr ⟨hgd,fun ρ S w hb hR=>by
  have h:=oj (w0:=w0) hd ho hgd hp hx ha hid hu hsz hz hpos hsm
  have hin:is.length=n:=by
   have h1:=congrArg List.length hp;have h2:=congrArg List.length hx;simp only[List.length_map,List.length_range']at h1 h2;omega
  rcases h.does with⟨_,h2⟩|⟨_,h2⟩
  ·cases h2
  ·refine an (h2 ρ S w hb hR) fun v w' ⟨ρ',S',ho⟩=> ?_
   obtain⟨cs,c1,c2,c3,c4⟩:=cS hR ha (fun i hi=>hi);have hg:=ho.good id (.cells (tri is) e) (by simp[AJ]);have hr': ∀i∈is,ρ' i=ρ i:=fun i hi=>ho.same i (by simp only[List.mem_singleton];intro c;exact hni (c▸hi))
   have hh:w'.heap[(ρ' id).g]? =some (.cells cs.toArray e (0,0)):=by
    have:=hg.2;rw[CP,bA hr',c1]at this;exact this
   have hfr:w.heap.size≤(ρ' id).g:=by
    rcases ho.own id (.cells (tri is) e) (by simp[AJ]) trivial with⟨i,hi,_⟩|⟨h3,_⟩
    ·cases hi
    ·exact h3
   have hlt: ∀k,Ic S s.mem is k→k<w.heap.size:=fun k ⟨j,hj,h3,h4⟩=>hR.lt j k (by unfold restr;rw[if_pos (by simpa using hj)];exact h3) h4
   have hv:=ho.val;simp only[SV.c]at hv
   have:=Cj (base:=w0.heap.size) (t:=s.mem) (ρ:=ρ) (S:=S) (w:=w) (w':=w') (val:= .d id) (rd:=is) (up:=[]) (id:=id) (b:= .dat (NZ ks)) (m:=⟨0,v⟩) (S1:=fun k=>Ic S s.mem is k∨k=(ρ' id).g)
    ho.os ho.tape ho.output ho.size (fun k hk _=>ho.block k hk (fun i hi=>by cases hi)) (fun ρ2 g1 _=>by
     show(NZ ks).holds [(ρ2 id).val] w' _;rw[g1];refine⟨v,cs,rfl,?_,Nu (fun k hk=> .inl hk) (Nv (fun k hk=>ho.block k (hlt k hk) (fun i hi=>by cases hi)) c2)⟩;rw[hv,←cQ ha,hin];refine⟨_,_,rfl,Nat.le_refl _,by rw[c3,hin],.inr ⟨_,rfl,.inr rfl,fun i x hx=> ?_⟩⟩;exact UE (l:=tri is) (ρ:=ρ') hg.2 (by rw[bA hr',c1];exact hx)) (fun k hk=>by
     rcases hk with hk|rfl
     ·exact .inl hk
     ·exact .inr ⟨hfr,(Array.getElem?_eq_some_iff.1 hh).1⟩) (fun ho=>ho.elim)
   exact⟨_,_,by simpa[SV.c] using this⟩⟩⟩
theorem Ev.datD(rd:List Nat)(hgd:AQ ops o s)(h: ∀ρ S w,Bw w0 w→RelOn w0.heap.size ρ S w (restr rd s.mem)→ ∃v S1,(execOp (s.act ρ).eval o).run P w= .ok (.value v) w∧D.holds [v] w S1∧ ∀k,S1 k→ ∃j∈rd,(s.mem j).isSome∧S j k):
 Ev P ops w0 o s ⟨.d id,[(id,.dat D)],[],[id],rd⟩:=
 ⟨by simp[Eff.ok],.inr ⟨hgd,fun ρ S w hb hR=>by
  obtain⟨v,S1,h1,h2,h3⟩:=h ρ S w hb hR;refine .inl ⟨v,w,h1,fun j=>if j=id then⟨0,v⟩else ρ j,fun _=>S1,?_⟩
  have:=Cj (base:=w0.heap.size) (t:=s.mem) (ρ:=ρ) (S:=S) (w:=w) (w':=w) (val:= .d id) (rd:=rd) (up:=[]) (id:=id) (b:= .dat D) (m:=⟨0,v⟩) (S1:=S1)
   rfl rfl rfl (Nat.le_refl _) (fun k hk _=>rfl) (fun ρ' g1 _=>by show D.holds [(ρ' id).val] w S1;rw[g1];exact h2) (fun q hq=> .inl (h3 q hq)) (fun ho=>ho.elim)
  simpa[SV.c] using this⟩⟩
theorem Ev.asD(h:Ev P ops w0 o s ⟨.v v,[],[],[],rd⟩)(hu:v≠undef)(hgd:AQ ops o s)(hD: ∀w,D.holds [v] w (fun _=>False)):Ev P ops w0 o s ⟨.d id,[(id,.dat D)],[],[id],rd⟩:=
 ⟨by simp[Eff.ok],.inr ⟨hgd,fun ρ S w hb hR=>by
  rcases h.does with⟨_,h2⟩|⟨_,h2⟩
  ·injection h2 with h3;injection h3 with h4;exact absurd h4 hu
  ·refine an (h2 ρ S w hb hR) fun v' w' ⟨ρ',S',ho⟩=> ?_
   have hv:=ho.val;simp only[SV.c]at hv;subst hv
   have:=Cj (base:=w0.heap.size) (t:=s.mem) (ρ:=ρ) (S:=S) (w:=w) (w':=w') (val:= .d id) (rd:=rd) (up:=[]) (id:=id) (b:= .dat D) (m:=⟨0,v'⟩) (S1:=fun _=>False)
    ho.os ho.tape ho.output ho.size (fun k hk _=>ho.block k hk (fun i hi=>by cases hi)) (fun ρ2 g1 _=>by show D.holds [(ρ2 id).val] w' _;rw[g1];exact hD w') (fun k hk=>hk.elim) (fun ho=>ho.elim)
   exact⟨_,_,by simpa[SV.c] using this⟩⟩⟩
theorem KZ(t:Int)(b:List Nat)(w:World)(S:Nat→Prop):(AU (.mk t b [])).holds [.agg #[.int .i64 t,.string (AB b),.slice none 0 0]] w S:=by
 refine⟨[_,_,_],rfl,?_⟩;simp only[RN,RNs];exact⟨_,[],rfl,⟨none,0,rfl,Nat.le_refl _,rfl,.inl rfl⟩,rfl⟩
theorem LH{t:Int}(_hd:o.dst=some id)(ho:o.op= .build 71 #[(0,x),(1,y)])(hgd:AQ ops o s)(hx:AE s x= .v (.int .i64 t))(hy:AE s y= .v (.string (AB b))):
 Ev prog ops w0 o s ⟨.d id,[(id,.dat (AU (.mk t b [])))],[],[id],[]⟩:=
 Ev.asD (v:= .agg #[.int .i64 t,.string (AB b),.slice none 0 0]) (A6 (pl:=[(0,.int .i64 t),(1,.string (AB b))]) ho hgd (by simp[hx,hy,CG]) (LP t (AB b))) (fun h=>by cases h) hgd fun w=>KZ t b w _
theorem Y9{t:Int}{cs:List Value}{w:World}{S:Nat→Prop}(h:AO w v ks.length 3 cs S)(g:RNs w S ks cs):(AU (.mk t [] ks)).holds [.agg #[.int .i64 t,.string (AB []),v]] w S:=by
 refine⟨[_,_,_],rfl,?_⟩;rw[RN];exact⟨_,cs,rfl,h,g⟩
theorem QA{t:Int}(_hd:o.dst=some id)(ho:o.op= .build 71 #[(0,x),(2,y)])(hgd:AQ ops o s)(hx:AE s x= .v (.int .i64 t))(hy:AE s y= .d q)(hq:s.mem q=some (.dat (NZ ks))):
 Ev prog ops w0 o s ⟨.d id,[(id,.dat (AU (.mk t [] ks)))],[],[id],[q]⟩:=
 Ev.datD [q] hgd fun ρ S w hb hR=>by
  obtain⟨v,cs,e,h1,h2⟩:=Gc (id:=q) hR (by simp) hq;simp only[List.cons.injEq,and_true]at e;have e0:=AI s ρ x;rw[hx]at e0;have e1:=AI s ρ y;rw[hy]at e1;refine⟨.agg #[.int .i64 t,.string (AB []),v],S q,?_,Y9 h1 h2,fun k hk=>⟨q,by simp,by rw[hq];rfl,hk⟩⟩;obtain⟨ao,cp,rfl,_⟩:=h1;simp only[execOp,ho,List.map_toArray,List.map_cons,List.map_nil,e0,e1,SV.c,e];rw[Sem.run_bind,run_build w 71 _ _ (bm t ao ks.length cp)];rfl
theorem Eu{did:Nat}{l:List SV}(ho:o.op= .store ty x y)(hgd:AQ ops o s)(hx:AE s x= .p id 0)(hm:s.mem id=some (.cells l bt))(hy:AE s y= .d did)(hdm:s.mem did=some (.dat (AU t)))
 (hs: ∀w,(Go.sizeOf ty).run P w= .ok 3 w)(hl:l.length=3):Ev P ops w0 o s ⟨.v undef,[(id,.cells [.fn (AN 0) (.d did),.fn (AN 1) (.d did),.fn (AN 2) (.d did)] bt)],[id],[],[id,did]⟩:=by
 have:=Bh (w0:=w0) (l:=l) (vl:=[.fn (AN 0) (.d did),.fn (AN 1) (.d did),.fn (AN 2) (.d did)]) [id,did] ho hgd hx hm hy hs (by simp) (fun ρ S w _ hR=>by
  obtain⟨c,e1,d1⟩:=C9 (id:=did) hR (by simp) hdm;have f:=fn3 e1 (Cu d1);exact⟨f.1,by rw[f.2];exact Ib d1⟩) rfl (by omega)
 simpa[List.drop_eq_nil_of_le (Nat.le_of_eq hl)] using this
theorem V0(h: ∃ao n cp,v= .slice ao n cp):Calls prog 32 #[v] w fun e w'=>e= .returned (.agg #[.int .i64 48,.string (AB []),v])∧Bw w w':=by
 obtain⟨ao,n,cp,rfl⟩:=h
 go_enter func32,ntmps32
 refine Dn ?_
 refine EK ?_;iterate 4 refine AL ?_
 refine AA (by exact A6 rfl gg rfl (bm 48 _ _ _)) ?_;refine AA (by exact BA rfl gg rfl rfl rfl sizeOf71 rfl (by simp) rfl) ?_;refine q_k ?_;exact AG (AD (AH results32 (Ac rfl rfl underlying71 rfl sizeOf71 rfl rfl)) fun _ _ hr=>⟨rfl,hr.1⟩)
theorem D9{w:World}{base:Nat}{m:Mem}(hR:RelOn base ρ S w (restr rd m))(hq:q∈rd)(h3:m q=some (.dat (NZ ks))):
 Calls prog 32 (SV.cs ρ [.d q]).toArray w fun e w'=> ∃v S',e= .returned v∧(AU (.mk 48 [] ks)).holds [v] w' S'∧(∀k,S' k→(∃j∈rd,(m j).isSome∧S j k)∨(w.heap.size≤k∧k<w'.heap.size))∧Bw w w':=by
 obtain⟨v,cs,e,h1,h2⟩:=Gc hR hq h3;simp only[List.cons.injEq,and_true]at e;simp only[SV.cs,SV.c,e];have hs: ∃ao n cp,v= .slice ao n cp:=by obtain⟨ao,cp,h,_⟩:=h1;exact⟨_,_,_,h⟩
 exact(V0 w hs).mono fun e w' ⟨a1,a2⟩=>⟨_,S q,a1,Y9 (A5 h1 a2) (Um a2 h2),fun k hk=> .inl ⟨q,hq,by rw[h3];rfl,hk⟩,a2⟩
theorem Iy:Calls prog 72 #[.string (AB b)] w fun e w'=> ∃v,e= .returned v∧Ae w w' v (AU (B5 b))∧Bw w w':=by
 go_enter func72,ntmps72
 refine Dn ?_
 refine EK ?_;iterate 4 refine AL ?_
 refine AA (by exact LH (t:=6) (b:=b) rfl rfl gg rfl rfl) ?_;refine AA (by exact Eu (did:=4) rfl gg rfl rfl rfl rfl sizeOf71 rfl) ?_;refine Cg ?_;refine AD (AH results72 (Am rfl rfl underlying71 rfl sizeOf71 rfl)) ?_;intro ρ w' hr;exact⟨_,rfl,Fw 4 hr rfl,hr.1⟩
theorem lG(m:Nat):(CW m).length≤64:=Nat.le_of_ble_eq_true rfl
theorem bu(n:Nat):(bl n).length≤64:=by rw[EB];decide
theorem Iz(h0:0≤n)(hm:n<9223372036854775808):Calls prog 113 #[.int .i64 n] w fun e w'=> ∃v,e= .returned v∧Ae w w' v (AU (iT n))∧Bw w w':=by
 go_enter func113,ntmps113
 refine Dn ?_
 refine EK ?_;iterate 4 refine AL ?_
 refine AA (by exact Ad (v:= .string (AB (CW n.toNat))) rfl gg rfl (eo func167) (fun w' hw'=>by have a:=sY n.toNat (by omega) w';rw[Int.toNat_of_nonneg h0]at a;exact a)) ?_;refine AA (by exact Al (D:=AU (iT n)) [] rfl rfl gg rfl (eo func33) (fun ρ S w' hb hR=>R6 (YE _) (lG _) w')) ?_;refine AA (by exact Eu (did:=5) rfl gg rfl rfl rfl rfl sizeOf71 rfl) ?_;refine Cg ?_;refine AD (AH results113 (Am rfl rfl underlying71 rfl sizeOf71 rfl)) ?_;intro ρ w' hr;exact⟨_,rfl,Fw 5 hr rfl,hr.1⟩
theorem Oc:Calls prog 114 #[.string (AB b)] w fun e w'=> ∃v,e= .returned v∧Ae w w' v (AU (E0 b))∧Bw w w':=by
 go_enter func114,ntmps114
 refine Dn ?_
 refine MB ?_
 refine AA (by exact Al (D:=AU (B5 [85,4,3])) [] rfl rfl gg rfl (eo func72) (fun ρ S w' hb hR=>Iy (b:=[85,4,3]) w')) ?_;refine AL ?_;refine AA (by exact LH (t:=12) (b:=b) rfl rfl gg rfl rfl) ?_;refine AA (by exact Dg (is:=[3,5]) (ks:=[_,_]) rfl rfl gg rfl rfl ⟨rfl,rfl,trivial⟩ rfl underlying69 (by kernel_rfl) (by kernel_rfl) (by decide) (by decide) (by decide)) ?_;refine AA (by exact A0 (AU (.mk 48 [] [_,_])) [6] rfl rfl gg rfl (eo func32) (fun ρ S w' hb hR=>D9 (q:=6) hR (by simp) rfl)) ?_;refine AA (by exact Dg (is:=[7]) (ks:=[_]) rfl rfl gg rfl rfl ⟨rfl,trivial⟩ rfl underlying69 (by kernel_rfl) (by kernel_rfl) (by decide) (by decide) (by decide)) ?_;refine AA (by exact A0 (AU (.mk 48 [] [_])) [8] rfl rfl gg rfl (eo func32) (fun ρ S w' hb hR=>D9 (q:=8) hR (by simp) rfl)) ?_;refine AA (by exact Eu (did:=9) rfl gg rfl rfl rfl rfl sizeOf71 rfl) ?_;refine Cg ?_;refine AD (AH results114 (Am rfl rfl underlying71 rfl sizeOf71 rfl)) ?_;intro ρ w' hr;exact⟨_,rfl,Fw 9 hr rfl,hr.1⟩
theorem V6{x0 x1 x2:Value}{F:Nat→Prop}(hok:t.ok)(hx:RN w F t [x0,x1,x2])(hwt:wt t≤1048576):Calls prog 115 #[.agg #[x0,x1,x2]] w fun e w'=> ∃v,e= .returned v∧Ae w w' v (AU (C5 t))∧Bw w w':=by
 go_enter func115,ntmps115
 refine Ee ?_
 refine MB ?_
 refine q_9 ?_;refine AA (by exact Ad (v:= .tuple #[.string (AB (wrT t).1),.int .i64 (wrT t).2]) rfl gg rfl (eo func31) (fun w' hw'=>R2 w' hok (G9 hw' hx) hwt)) ?_;iterate 9 refine AL ?_
 refine AA (by exact LH (t:=4) (b:=(wrT t).1) rfl rfl gg rfl rfl) ?_;refine AA (by exact Eu (did:=11) rfl gg rfl rfl rfl rfl sizeOf71 rfl) ?_;refine Cg ?_;refine AD (AH results115 (Am rfl rfl underlying71 rfl sizeOf71 rfl)) ?_;intro ρ w' hr;exact⟨_,rfl,Fw 11 hr rfl,hr.1⟩
theorem bJ{w:World}{base:Nat}{m:Mem}(hR:RelOn base ρ S w (restr rd m))(hid:id∈rd)(hm:m id=some (.dat (AU t)))(hok:t.ok)(hwt:wt t≤1048576):Calls prog 115 #[(ρ id).val] w fun e w'=> ∃v,e= .returned v∧Ae w w' v (AU (C5 t))∧Bw w w':=by
 obtain⟨c,h1,h2⟩:=C9 hR hid hm;obtain⟨x0,x1,x2,rfl⟩:=DI (Cu h2);rw[h1];exact V6 w hok h2 hwt
theorem bK{w:World}{base:Nat}{m:Mem}(hR:RelOn base ρ S w (restr rd m))(hid:id∈rd)(hm:m id=some (.dat (AU t)))(hok:t.ok)(hwt:wt t≤1048576):Calls prog 115 (SV.cs ρ [.agg [.fn (AN 0) (.d id),.fn (AN 1) (.d id),.fn (AN 2) (.d id)]]).toArray w fun e w'=> ∃v,e= .returned v∧Ae w w' v (AU (C5 t))∧Bw w w':=by
 obtain⟨c,h1,h2⟩:=Ud hR hid hm;obtain⟨x0,x1,x2,rfl⟩:=DI (Cu h2);simp only[SV.cs,h1];exact V6 w hok h2 hwt
theorem bG{w:World}{base:Nat}{m:Mem}(hR:RelOn base ρ S w (restr rd m))(hid:id∈rd)(hm:m id=some (.dat (AU t)))(hok:t.ok)(hwt:wt t≤1048576):Calls prog 31 (SV.cs ρ [.d id]).toArray w fun e w'=>e= .returned (.tuple #[.string (AB (wrT t).1),.int .i64 (wrT t).2])∧Bw w w':=by
 obtain⟨c,h1,h2⟩:=C9 hR hid hm;obtain⟨x0,x1,x2,rfl⟩:=DI (Cu h2);simp only[SV.cs,SV.c,h1];exact R2 w hok h2 hwt
theorem V4:Calls prog 32 #[.slice none 0 0] w fun e w'=> ∃v,e= .returned v∧Ae w w' v (AU (Bm []))∧Bw w w':=
 (V0 w ⟨none,0,0,rfl⟩).mono fun _e w' ⟨a1,a2⟩=>⟨_,a1,⟨fun _=>False,KZ 48 [] w' _,fun _k hk=>hk.elim⟩,a2⟩
theorem R4{t:Nat}:Calls prog 11 #[PT r t] w fun e w'=>e= .returned (.string (AB (wrT (BH r t)).1))∧Bw w w':=by
 go_enter func11,ntmps11
 refine Fy ?_
 refine AA (by exact LD (a:=0) (b:=32) rfl gg rfl underlying22 sizeOf5 rfl rfl (by decide) (by decide) (by decide)) ?_;refine AA (by exact Cc (bs:=bl r) rfl gg rfl underlying23 underlying5 underlying9 (Hw rfl rfl rfl (by decide))) ?_;refine AA (by exact Al (D:=AU (tN (bl r))) [] rfl rfl gg rfl (eo func33) (fun ρ S w' hb hR=>R6 (EZ r) (bu r) w')) ?_;refine R9 ?_;refine AA (by exact Cc (bs:=bl t) rfl gg rfl underlying23 underlying5 underlying9 (Hw rfl rfl rfl (by decide))) ?_;refine AA (by exact Al (D:=AU (tN (bl t))) [] rfl rfl gg rfl (eo func33) (fun ρ S w' hb hR=>R6 (EZ t) (bu t) w')) ?_;refine AA (by exact Dg (is:=[8,11]) (ks:=[_,_]) rfl rfl gg rfl rfl ⟨rfl,rfl,trivial⟩ rfl underlying69 (by kernel_rfl) (by kernel_rfl) (by decide) (by decide) (by decide)) ?_;refine AA (by exact A0 (AU (.mk 48 [] [_,_])) [12] rfl rfl gg rfl (eo func32) (fun ρ S w' hb hR=>D9 (q:=12) hR (by simp) rfl)) ?_;refine AA (by exact Aj (v:= .tuple #[.string (AB (wrT (BH r t)).1),.int .i64 (wrT (BH r t)).2]) [13] rfl gg rfl (eo func31) (fun ρ S w' hb hR=>bG (t:=BH r t) hR (by simp) rfl (HI r t) (by have:=Rm r t;omega))) ?_;iterate 11 refine AL ?_
 exact AG (AD (AH results11 (AF rfl)) fun _ _ hr=>⟨rfl,hr.1⟩)
theorem Tv{dT sT:TypeId}{off len cap:Nat}{l:List SV}(ho:o.op= .call {callee:= .builtin .copy,args:= #[x,y],argTypes:= #[dT,sT]})(hgd:AQ ops o s)
 (hx:AE s x= .s id off len cap)(hm:s.mem id=some (.cells l bt))(hy:AE s y= .v (.string (AB b)))(h8: ∀x∈b,x<256)(hu:P.underlying dT=some (.slice e))(hs:(P.info? e).map (·.size)=some 1)
 (hle:b.length≤len)(hfit:off+b.length≤l.length):
 Ev P ops w0 o s ⟨.v (.int .i64 (b.length:Nat)),[(id,.cells (l.take off++(b.map b8).map .v++l.drop (off+b.length)) bt)],[id],[],[id]⟩:=
 Ev.wrv id _ _ _ _ hgd hm (by simp) fun ρ S w hb hR=>by
  have e1:=AI s ρ x;rw[hx]at e1;have e2:=AI s ρ y;rw[hy]at e2;obtain⟨hg0,hg⟩:=relon_get hR hm (by simp);simp only[SV.c]at e1 e2
  have hbc:Go.Lib.byteCells (AB b).data.toList=b.map b8:=by
   simp only[Go.Lib.byteCells,AB,List.map_map];exact List.map_congr_left fun x hx=>by simp[Nat.mod_eq_of_lt (h8 x hx)];rfl
  have hsz:(AB b).size=b.length:=Ff b;have hrun:=Go.Lib.run_copy_row_string (P:=P) w dT sT o.type e (ρ id).g off len cap (AB b) (SV.cs ρ l).toArray bt hu hs hg (by rw[hsz];exact hle) (by rw[hsz];simp[A8];omega);rw[hbc,hsz]at hrun;refine⟨True.intro,w.setRow (ρ id).g ((SV.cs ρ l).toArray.toList.take off++b.map b8++(SV.cs ρ l).toArray.toList.drop (off+b.length)).toArray,?_,⟨rfl,rfl,rfl,by simp,fun k hk=>setRow_other w _ k _ hk⟩,hg0,(setRow_heap w (ρ id).g _ _ _ _ hg).trans ?_⟩
  ·unfold execOp
   simp only[ho,resolve,invoke,builtin,Sem.run_bind,Sem.run_pure,Result.andThen_ok,List.map_toArray,List.map_cons,List.map_nil,e1,e2,hrun,SV.c,goInt]
  ·simp[CP,A8,List.map_take,List.map_drop,SV.c,Function.comp_def]
theorem YN{w:World}{F:Nat→Prop}:RN w F noT [.int .i64 0,.string (ByteArray.mk #[]),.slice none 0 0]:=by
 simp only[noT,RN,RNs];exact⟨_,[],rfl,⟨none,0,rfl,Nat.le_refl _,rfl,.inl rfl⟩,rfl⟩
theorem X8{w:World}{F:Nat→Prop}{x y z:Value}(h:RN w F t [x,y,z]):((Value.agg #[x,y,z]).cells.toList.all fun x=>x.oneCell')=true:=Ib h
theorem mV{c:List Value}{pv:Value}{F:Nat→Prop}(hx:RN w F t c)(hp:AO w pv p.length 1 (CE p) G)(hm:p.length≤1048576):Calls prog 35 #[.agg c.toArray,pv] w fun e w'=> ∃c',e= .returned (.agg c'.toArray)∧RN w F (AC p t) c'∧Bw w w':=by
 obtain⟨y0,y1,y2,rfl⟩:=DI (Cu hx);obtain⟨R,hR0⟩: ∃R,AC p t=R:=⟨_,rfl⟩
 rw[hR0]
 go_enter func35,ntmps35
 refine Ee ?_
 refine EK ?_;iterate 7 refine AL ?_
 refine Bo (α:={x:Nat×Tr×Value×Value×Value // x.1≤p.length∧RN w F x.2.1 [x.2.2.1,x.2.2.2.1,x.2.2.2.2]∧AC (p.drop x.1) x.2.1=R}) (fun(x:{x:Nat×Tr×Value×Value×Value // x.1≤p.length∧RN w F x.2.1 [x.2.2.1,x.2.2.2.1,x.2.2.2.2]∧AC (p.drop x.1) x.2.1=R}) f=>⟨[.v (f 0),.v pv,.p 2 0,.v (f 3),.p 4 0,.v (.int .i64 (x.1.1:Nat)),.v (f 6),.v (f 7),.v (f 8),.v (f 9),.v (f 10),.v (f 11),.v (f 12),.v (f 13),.v (f 14),.v (f 15),.v (f 16),.v (f 17),.v (f 18),.v (f 19),.v (f 20),.v (f 21),.v (f 22),.v (f 23),.v (f 24),.v (f 25),.v (f 26),.v (f 27),.v (f 28),.v (f 29)],AJ [(2,.cells [.v x.1.2.2.1,.v x.1.2.2.2.1,.v x.1.2.2.2.2] 71),(4,.cells [.v (.int .i64 0),.v (.string (ByteArray.mk #[])),.v (.slice none 0 0)] 71)]⟩) (fun x=>p.length-x.1.1) ?_ (⟨(0,t,y0,y1,y2),Nat.zero_le _,hx,hR0⟩) ?_
 ·rintro⟨⟨i,u,z0,z1,z2⟩,hi,hu,hu2⟩ f
  simp only at hi hu hu2;obtain⟨tg,b,ks,rfl⟩: ∃tg b ks,u=Tr.mk tg b ks:=by cases u with|mk tg b ks=>exact⟨tg,b,ks,rfl⟩
  have hu':=hu;simp only[RN]at hu';obtain⟨kv',cs',h_e,hk',hn'⟩:=hu';simp only[List.cons.injEq,and_true]at h_e;obtain⟨rfl,rfl,rfl⟩:=h_e;obtain⟨q,h_q⟩: ∃q,decide (i<p.length)=q:=⟨_,rfl⟩
  have h_q':=(CL i p.length).trans h_q;change VOk _ _ _ _ _;iterate 5 refine AL ?_
  refine AA (by exact BU rfl gg rfl underlying124 (AW hp)) ?_;refine AA (by exact BM rfl gg rfl rfl h_q') ?_;refine q_k ?_;cases q
  ·refine q_k ?_
   have hie:p.drop i=[]:=List.drop_eq_nil_of_le (by have:=of_decide_eq_false h_q;omega);rw[hie,AC]at hu2;refine As ?_;refine L9 ?_
   refine q_9 ?_;refine SI ?_;refine Cg ?_;refine AD (AH results35 (Ac rfl rfl underlying71 rfl sizeOf71 rfl rfl)) ?_;intro ρ w' hr;subst hu2;first|exact⟨_,rfl,YN,hr.1⟩|exact⟨_,rfl,hu,hr.1⟩
  ·refine q_k ?_
   have hlt:=of_decide_eq_true h_q;obtain⟨j,hj⟩:=EV hlt;obtain⟨r,h_r⟩: ∃r,decide (ks.length≤j)=r:=⟨_,rfl⟩
   have h_r':=(Sn ks.length j).trans h_r;iterate 8 refine AL ?_
   refine SQ ?_;refine SO ?_;refine SL ?_;refine AA (by first|exact BK rfl gg rfl rfl underlying69 rfl rfl|exact BR rfl gg rfl underlying69 rfl (by assumption)) ?_;refine AA (by exact BU rfl gg rfl underlying69 (AW hk')) ?_;refine AA (by exact B4 rfl gg rfl rfl h_r') ?_;refine q_k ?_;cases r
   ·refine q_k ?_
    have hjl:j<ks.length:=by have:=of_decide_eq_false h_r;omega
    obtain⟨kk,hk⟩:=EV hjl;obtain⟨c2,hc2,hd2⟩:=Nw hn' hk;obtain⟨tg2,b2,ks2,rfl⟩: ∃tg b ks,kk=Tr.mk tg b ks:=by cases kk with|mk tg b ks=>exact⟨tg,b,ks,rfl⟩
    have hd3:=hd2;simp only[RN]at hd3;obtain⟨kv2,cs2,rfl,_,_⟩:=hd3;iterate 2 refine q_k ?_
    refine SL ?_;refine AA (by first|exact BK rfl gg rfl rfl underlying69 rfl rfl|exact BR rfl gg rfl underlying69 rfl (by assumption)) ?_;iterate 2 refine AL ?_
    refine SQ ?_;refine SO ?_;refine AA (by exact Bc (k:=j) rfl gg rfl rfl underlying69 sizeOf71 (AW hk') (hjl) (by decide)) ?_;refine AA (by exact LF rfl gg rfl underlying71 rfl sizeOf71 (AW hk') (hc2) rfl (by decide)) ?_;refine SI ?_;iterate 3 refine AL ?_
    refine SS ?_;iterate 2 refine AL ?_
    refine⟨⟨(i+1,.mk tg2 b2 ks2,.int .i64 tg2,.string (AB b2),kv2),by show i+1≤p.length;omega,hd2,by show AC (p.drop (i+1)) _=R;rw[←hu2,Bj hj,Xo hk]⟩,by show p.length-(i+1)<p.length-i;omega,?_⟩;exact Ar (fun i=>i==1||i==2||i==4||i==5) []
   ·refine q_k ?_
    have hge:=of_decide_eq_true h_r;rw[Bj hj,Xp hge]at hu2;iterate 2 refine q_k ?_
    refine AA (by exact A6 rfl gg rfl UR) ?_;refine SI ?_;refine Cg ?_;refine AD (AH results35 (Ac rfl rfl underlying71 rfl sizeOf71 rfl rfl)) ?_;intro ρ w' hr;subst hu2;first|exact⟨_,rfl,YN,hr.1⟩|exact⟨_,rfl,hu,hr.1⟩
 ·exact(Ar (fun i=>i==1||i==2||i==4||i==5) []).trans2 (fun f=>Lc (by show(4:Nat)≠2;decide))
section
variable{w:World}{base:Nat}{ρ:Nat→Nm}{S:Nat→Nat→Prop}{m:Mem}{rd:List Nat}{t:Tr}
theorem Fb(i q:Nat)(p:List Nat)(hR:RelOn base ρ S w (restr rd m))(hi:i∈rd)(hq:q∈rd)(h1:m i=some (.dat (AU t)))(h2:m q=some (.row p.length 1 3 (.exact (CE p))))(hm:p.length≤1048576:=by decide):
 Calls prog 35 (SV.cs ρ [.agg [.fn (AN 0) (.d i),.fn (AN 1) (.d i),.fn (AN 2) (.d i)],.d q]).toArray w fun e w'=> ∃v S',e= .returned v∧(AU (AC p t)).holds [v] w' S'∧(∀k,S' k→(∃j∈rd,(m j).isSome∧S j k)∨(w.heap.size≤k∧k<w'.heap.size))∧Bw w w':=by
 obtain⟨c,e1,d1⟩:=Ud hR hi h1;have hs:=EH hR hq h2;simp only[SV.cs,e1];exact(mV w d1 hs hm).mono fun e w' ⟨c',a1,a2,a3⟩=>⟨_,S i,a1,⟨c',rfl,G9 a3 a2⟩,fun k hk=> .inl ⟨i,hi,by rw[h1];rfl,hk⟩,a3⟩
end
theorem dh{c:List Value}{F:Nat→Prop}(hok:t.ok)(hx:RN w F t c):Calls prog 36 #[.agg c.toArray] w fun e w'=> ∃v,e= .returned v∧Ae w w' v (AU (Bt t))∧Bw w w':=by
 obtain⟨kv,rfl⟩:=L0 hx;obtain⟨q,h_q⟩: ∃q,decide ((rdT (Az t)).2≠0)=q:=⟨_,rfl⟩
 go_enter func36,ntmps36
 refine Ee ?_
 refine MB ?_
 refine AA (by first|exact BG rfl gg rfl underlying71 rfl sizeOf9|exact BF rfl gg rfl underlying71 rfl sizeOf9) ?_;refine Eg ?_;refine AA (by exact DL (D:=AU (rdT (Az t)).1) (ys:=[.int .i64 (rdT (Az t)).2]) [] rfl rfl gg rfl (eo func27) (fun ρ S w' hb hR=>R5 w' (EY hok).1 (EY hok).2)) ?_;iterate 3 refine AL ?_
 refine EK ?_;refine SK ?_;iterate 6 refine AL ?_
 refine AA (by exact BB rfl gg rfl rfl h_q) ?_;refine q_k ?_;cases q
 ·iterate 4 refine q_k ?_
  refine q_9 ?_;refine SK ?_;refine Cg ?_;refine AD (AH results36 (Am rfl rfl underlying71 rfl sizeOf71 rfl)) ?_;intro ρ w' hr;first|exact⟨_,rfl,by rw[Bt,hz];exact Fw 13 hr rfl,hr.1⟩|exact⟨_,rfl,Fw 8 hr rfl,hr.1⟩
 ·refine q_k ?_
  have hz:=iC (of_decide_eq_true h_q);iterate 2 refine q_k ?_
  refine AA (by exact Ev.asD (D:=AU noT) (id:=13) (v:= .agg #[.int .i64 0,.string (ByteArray.mk #[]),.slice none 0 0]) (A6 rfl gg rfl UR) (fun h=>by cases h) gg fun w=>KZ 0 [] w _) ?_;refine SK ?_;refine Cg ?_;refine AD (AH results36 (Am rfl rfl underlying71 rfl sizeOf71 rfl)) ?_;intro ρ w' hr;first|exact⟨_,rfl,by rw[Bt,hz];exact Fw 13 hr rfl,hr.1⟩|exact⟨_,rfl,Fw 8 hr rfl,hr.1⟩
theorem cD{l:List Nat}(h8: ∀x∈l,x<256)(hl:l.length=8):decide (l.headD 0≥64)= !decide (beN l<4611686018427387904):=by
 match l,hl with
 | [a,b,c,d,e,f,g,h],_=>
   have ha:=h8 a (by simp);have hb:=h8 b (by simp);have hc:=h8 c (by simp);have hd:=h8 d (by simp);have he:=h8 e (by simp);have hf:=h8 f (by simp);have hg:=h8 g (by simp);have hh:=h8 h (by simp);simp only[beN,List.foldl_cons,List.foldl_nil,List.headD_cons];have e:(a≥64)↔ ¬((((((((0*256+a)*256+b)*256+c)*256+d)*256+e)*256+f)*256+g)*256+h<4611686018427387904):=by omega
   exact(decide_eq_decide.2 e).trans decide_not
theorem rk{l:List Nat}{b:Nat}(_h: ∀x∈l,x<256)(hlt:beN (l.take (i+1))<9223372036854775808)(hb:l[i]? =some b)(p q:Operand)(w:World):(do eqGuard .add 3 p q (.int .i64 (((beN (l.take i)*256:Nat)):Int)) (.int .i64 (b:Nat));binOp .add 3 (.int .i64 (((beN (l.take i)*256:Nat)):Int)) (.int .i64 (b:Nat)):Sem Value).run prog w= .ok (.int .i64 ((beN (l.take (i+1)):Nat):Int)) w:=by
 have e:=UU hb;have e2:IntKind.i64.wrap ((beN (l.take i):Int)*256+(b:Nat))=(beN (l.take i):Int)*256+(b:Nat):=Ah (by omega) (by omega);rw[e]
 go_simp
 try first|exact e2|simp
theorem fR{l:List Nat}(_h: ∀x∈l,x<256)(_hi:i<8)(hlt:beN (l.take i)*256<9223372036854775808)(p q:Operand)(w:World):(do eqGuard .shl 3 p q (.int .i64 ((beN (l.take i):Nat):Int)) (.int .u64 8);binOp .shl 3 (.int .i64 ((beN (l.take i):Nat):Int)) (.int .u64 8):Sem Value).run prog w= .ok (.int .i64 (((beN (l.take i)*256:Nat)):Int)) w:=by
 have e2:IntKind.i64.wrap (((beN (l.take i):Nat):Int)*256)=((beN (l.take i)*256:Nat):Int):=by rw[Ah (by omega) (by omega)];omega
 go_simp
 try first|exact e2|(simp;exact e2)
theorem cC{l:List Nat}(i:Nat):beN (l.take i)≤beN l:=by
 have h: ∀(r:List Nat) (a:Nat),a≤r.foldl (fun a b=>a*256+b) a:=by
  intro r
  induction r with
  |nil=>intro a;exact Nat.le_refl _
  |cons b r ih=>intro a;rw[List.foldl_cons];exact Nat.le_trans (by omega) (ih (a*256+b))
 have e:beN l=(l.drop i).foldl (fun a b=>a*256+b) (beN (l.take i)):=by
  unfold beN;rw[←List.foldl_append,List.take_append_drop]
 rw[e];exact h _ _
theorem dx{c:List Value}{F:Nat→Prop}(hok:t.ok)(hx:RN w F t c)(h:BW t 8=none):Calls prog 37 #[.agg c.toArray] w fun e w'=>e= .returned (.int .i64 (-1))∧Bw w w':=by
 obtain⟨kv,rfl⟩:=L0 hx
 go_enter func37,ntmps37
 refine Fy ?_
 refine q_9 ?_;refine AA (by exact Ad (v:= .tuple #[.string (AB []),.bool false]) rfl gg rfl (eo func28) (fun w' hw'=>by have a:=R3 (sz:=8) w' hok (G9 hw' hx) (by decide);rw[h]at a;exact a)) ?_;iterate 10 refine AL ?_
 refine D1 ?_;iterate 2 refine q_3 ?_
 refine MD ?_
 exact AG (AD (AH results37 (AF rfl)) fun _ _ hr=>⟨rfl,hr.1⟩)
theorem d5{c:List Value}{F:Nat→Prop}(hok:t.ok)(hx:RN w F t c){l:List Nat}(h:BW t 8=some l)(hz:decide (beN l<4611686018427387904)=false):Calls prog 37 #[.agg c.toArray] w fun e w'=>e= .returned (.int .i64 (-1))∧Bw w w':=by
 obtain⟨kv,rfl⟩:=L0 hx;have hl:=Ik h;have h8:=Ij hok h;have hd:=(Ej (l.headD 0) 64).trans ((cD h8 hl).trans (by rw[hz]))
 go_enter func37,ntmps37
 refine Fy ?_
 refine q_9 ?_;refine Wk ?_;iterate 10 refine AL ?_
 refine D1 ?_;refine SF ?_;refine AA (by first|exact Ev.skip (fun _=>rfl)|exact Ew (p:=true) rfl (fun _=>rfl) rfl rfl hd) ?_;refine MD ?_
 exact AG (AD (AH results37 (AF rfl)) fun _ _ hr=>⟨rfl,hr.1⟩)
theorem dz{c:List Value}{F:Nat→Prop}(hok:t.ok)(hx:RN w F t c){l:List Nat}(h:BW t 8=some l)(hz:decide (beN l<4611686018427387904)=true):Calls prog 37 #[.agg c.toArray] w fun e w'=>e= .returned (.int .i64 ((beN l:Nat):Int))∧Bw w w':=by
 obtain⟨kv,rfl⟩:=L0 hx;have hl:=Ik h;have h8:=Ij hok h;have hd:=(Ej (l.headD 0) 64).trans ((cD h8 hl).trans (by rw[hz]));have hlt:=of_decide_eq_true hz
 go_enter func37,ntmps37
 refine Fy ?_
 refine q_9 ?_;refine Wk ?_;iterate 10 refine AL ?_
 refine D1 ?_;refine SF ?_;refine AA (by first|exact Ev.skip (fun _=>rfl)|exact Ew (p:=false) rfl (fun _=>rfl) rfl rfl hd) ?_;refine q_0 ?_;iterate 13 refine AL ?_
 refine Bo (α:={i:Nat // i≤8}) (fun(x:{i:Nat // i≤8}) f=>⟨[.v (f 0),.v (f 1),.v (f 2),.v (.string (AB l)),.v (f 4),.v (.int .i64 ((beN (l.take x.1):Nat):Int)),.v (.int .i64 (x.1:Nat)),.v (f 7),.v (f 8),.v (f 9),.v (f 10),.v (f 11),.v (f 12),.v (f 13),.v (f 14),.v (f 15),.v (f 16),.v (f 17),.v (f 18),.v (f 19),.v (f 20),.v (f 21),.v (f 22),.v (f 23),.v (f 24),.v (f 25),.v (f 26),.v (f 27),.v (f 28),.v (f 29),.v (f 30)],AJ []⟩) (fun x=>8-x.1) ?_ (⟨0,by decide⟩) ?_
 ·rintro⟨i,hi⟩ f
  obtain⟨q,h_q⟩: ∃q,decide (i<8)=q:=⟨_,rfl⟩
  have h_q':=(CL i 8).trans h_q;change VOk _ _ _ _ _;iterate 4 refine AL ?_
  refine AA (by exact BM rfl gg rfl rfl h_q') ?_;refine q_k ?_;cases q
  ·refine q_k ?_
   have hi8:i=8:=by have:=of_decide_eq_false h_q;omega
   subst hi8;rw[List.take_of_length_le (by omega)];refine As ?_;change VOk _ _ _ _ _;iterate 5 refine AL ?_
   exact AG (AD (AH results37 (AF rfl)) fun _ _ hr=>⟨rfl,hr.1⟩)
  ·refine q_k ?_
   have hi8:=of_decide_eq_true h_q;obtain⟨b,hb⟩: ∃b,l[i]? =some b:=⟨_,List.getElem?_eq_getElem (by omega)⟩
   iterate 5 refine AL ?_
   refine AA (by exact AK rfl gg rfl rfl (fun w=>fR h8 (of_decide_eq_true h_q) (by have:=UU hb;have:=cC (l:=l) (i+1);omega) _ _ w)) ?_;iterate 2 refine AL ?_
   refine AA (by exact CF (k:=i) (c:=b) rfl gg rfl rfl underlying9 hb (h8 _ (List.mem_of_getElem? hb))) ?_;refine AA (by exact B1 rfl gg rfl (fun w=>T8 (h8 _ (List.mem_of_getElem? hb)) w)) ?_;refine AA (by exact AK rfl gg rfl rfl (fun w=>rk h8 (by have:=cC (l:=l) (i+1);omega) hb _ _ w)) ?_;iterate 4 refine AL ?_
   refine SS ?_;iterate 2 refine AL ?_
   refine⟨⟨i+1,by omega⟩,by show 8-(i+1)<8-i;omega,?_⟩;exact Ar (fun i=>i==3||i==5||i==6) []
 ·exact Ar (fun i=>i==3||i==5||i==6) [1]
theorem d7{c:List Value}{F:Nat→Prop}(hok:t.ok)(hx:RN w F t c):Calls prog 37 #[.agg c.toArray] w fun e w'=>e= .returned (.int .i64 (Ax t))∧Bw w w':=by
 cases h:BW t 8 with
 |none=>
  have e:Ax t= -1:=by unfold Ax tnN;rw[h];rfl
  rw[e];exact dx w hok hx h
 |some l=>
  cases hz:decide (beN l<4611686018427387904)with
  |false=>
   have e:Ax t= -1:=by unfold Ax tnN;simp only[h,hz];rfl
   rw[e];exact d5 w hok hx h hz
  |true=>
   have e:Ax t=((beN l:Nat):Int):=by unfold Ax tnN;simp only[h,hz];rfl
   rw[e];exact dz w hok hx h hz
theorem Ma(a c:Nat):decide ((a:Int)≠(c:Int))=decide (a≠c):=decide_eq_decide.2 (by omega)
theorem lV(s:List Nat):Db s=(decide (s≠[]) && (decide (s.length≤64) && Ak (utT s) 1)):=by
 have e:Ju (utT s)=(decide (s.length≤64) && Ak (utT s) 1):=by
  simp only[utT,Ju,decide_true,Bool.true_and];rw[Bool.and_comm]
 unfold Db twN;rw[e];generalize (decide (s.length≤64) && Ak (utT s) 1)=x;cases x
 ·simp
 ·cases s<;>simp[Az,utT]
theorem dS(n:Int):wiB n 0 4611686018427387903=(decide (n≥0) && decide (n<4611686018427387904)):=by
 unfold wiB;congr 1
 exact decide_eq_decide.2 (by omega)
theorem jR(h0:0≤n)(hm:n≤15)(p q:Operand)(w:World):(do eqGuard .quo 3 p q (.int .i64 n) (.int .i64 2);binOp .quo 3 (.int .i64 n) (.int .i64 2):Sem Value).run prog w= .ok (.int .i64 (n/2)) w:=by
 have e:IntKind.i64.wrap (n.tdiv 2)=n/2:=by rw[Int.tdiv_eq_ediv_of_nonneg h0,Ah (by omega) (by omega)]
 go_simp
 try exact e
theorem gY(h0:0≤n)(p q:Operand)(w:World):(do eqGuard .rem 3 p q (.int .i64 n) (.int .i64 2);binOp .rem 3 (.int .i64 n) (.int .i64 2):Sem Value).run prog w= .ok (.int .i64 (n %2)) w:=by
 go_simp
 exact Int.tmod_eq_emod_of_nonneg h0
theorem df(u:Int):usB u=decide (u/2 %2=1):=by
 unfold usB;exact decide_eq_decide.2 (by omega)
theorem gP{c:Crt}(h0:0≤c.us)(hm:c.us≤15):C2 c=(wiB c.se 0 4611686018427387903 && (decide (c.se>0) && (Db c.is && (Db c.su && (wiB c.fr 0 4611686018427387903 && (wiB c.to 0 4611686018427387903 && (kyB c.ky && (decide (c.pa≥0) && (decide (c.pa≤5) && ((c.ca||decide (c.pa=0)) && (usB c.us==c.ca))))))))))):=by
 have e1:wiB c.se 1 4611686018427387903=(wiB c.se 0 4611686018427387903 && decide (c.se>0)):=by
  rw[Bool.eq_iff_iff];simp only[Bool.and_eq_true,Cv,decide_eq_true_eq];omega
 have e2:wiB c.us 0 15=true:=Cv.2 ⟨h0,hm⟩;have e3:wiB c.pa 0 5=(decide (c.pa≥0) && decide (c.pa≤5)):=rfl;have e4:(!decide (c.pa≠0))=decide (c.pa=0):=by simp
 unfold C2;rw[e1,e2,e3,e4];generalize kyB c.ky=a1;generalize wiB c.se 0 4611686018427387903=a2;generalize decide (c.se>0)=a3;generalize wiB c.fr 0 4611686018427387903=a4;generalize wiB c.to 0 4611686018427387903=a5;generalize Db c.is=a6;generalize Db c.su=a7;generalize decide (c.pa≥0)=a8;generalize decide (c.pa≤5)=a9;generalize (c.ca||decide (c.pa=0))=b1;generalize (usB c.us==c.ca)=b2;cases a1<;>cases a2<;>cases a3<;>cases a4<;>cases a5<;>cases a6<;>cases a7<;>cases a8<;>cases a9<;>cases b1<;>cases b2<;>rfl
theorem Rt:Calls prog 68 #[.int .i64 n] w fun e w'=>e= .returned (.bool (wiB n 0 4611686018427387903))∧Bw w w':=by
 obtain⟨p,h_p⟩: ∃p,decide (n≥0)=p:=⟨_,rfl⟩
 obtain⟨q,h_q⟩: ∃p,decide (n<4611686018427387904)=p:=⟨_,rfl⟩
 rw[dS,h_p,h_q]
 go_enter func68,ntmps68
 refine A4 ?_;cases p<;>cases q<;>
 (
  iterate 7 refine AL ?_
  refine AA (by exact Ew rfl gg rfl rfl h_p) ?_;refine Gf ?_;refine AA (by first|exact Ev.skip (fun _=>rfl)|exact Ev.skip (fun _=>rfl)|exact BM rfl (fun _=>rfl) rfl rfl h_q) ?_;refine Hy ?_
  exact AG (AD (AH results68 (AF rfl)) fun _ _ hr=>⟨rfl,hr.1⟩)
 )
theorem V9{s:List Nat}(h8: ∀x∈s,x<256)(hl:s.length≤1048576):Calls prog 69 #[.string (AB s)] w fun e w'=>e= .returned (.bool (Db s))∧Bw w w':=by
 obtain⟨p,h_p⟩: ∃p,decide (s≠[])=p:=⟨_,rfl⟩
 obtain⟨q,h_q⟩: ∃p,decide (s.length≤64)=p:=⟨_,rfl⟩
 obtain⟨r,h_r⟩: ∃p,Ak (utT s) 1=p:=⟨_,rfl⟩
 rw[lV,h_p,h_q,h_r]
 go_enter func69,ntmps69
 refine A4 ?_;cases p<;>cases q<;>
 (
  iterate 7 refine AL ?_
  refine AA (by exact AK rfl gg rfl rfl (fun w=>Hp h_p h8 (by simp) _ _ w)) ?_;refine Gf ?_;refine AA (by first|exact Ev.skip (fun _=>rfl)|exact Ev.skip (fun _=>rfl)|exact HX rfl (fun _=>rfl) rfl underlying9) ?_;refine AA (by first|exact Ev.skip (fun _=>rfl)|exact Ev.skip (fun _=>rfl)|exact LG rfl (fun _=>rfl) rfl rfl ((Sn s.length 64).trans h_q)) ?_;refine D1 ?_;refine AA (by first|exact Ev.skip (fun _=>rfl)|exact Ev.skip (fun _=>rfl)|exact A6 rfl (fun _=>rfl) rfl (LP 12 (AB s))) ?_;refine AA (by first|exact Ev.skip (fun _=>rfl)|exact Ev.skip (fun _=>rfl)|exact CI h_r rfl (fun _=>rfl) rfl (eo func55) (fun w' hw'=>Od (utT s) (F0 h8 hl) 1 _ w' (fun _=>False) (by decide) (by simp only[utT,RN,RNs];exact⟨_,[],rfl,⟨none,0,rfl,Nat.le_refl _,rfl,.inl rfl⟩,rfl⟩))) ?_;refine Hy ?_
  exact AG (AD (AH results69 (AF rfl)) fun _ _ hr=>⟨rfl,hr.1⟩)
 )
theorem f7{l:List Nat}(hn:decide (l.length≠65)=true):Calls prog 70 #[.string (AB l)] w fun e w'=>e= .returned (.bool false)∧Bw w w':=by
 go_enter func70,ntmps70
 refine KL ?_
 refine AA (by exact HX rfl gg rfl underlying9) ?_;refine AA (by exact BB rfl gg rfl rfl ((Ma l.length 65).trans hn)) ?_;refine Gf ?_;iterate 2 refine q_3 ?_
 refine MD ?_
 exact AG (AD (AH results70 (AF rfl)) fun _ _ hr=>⟨rfl,hr.1⟩)
theorem fx{l:List Nat}(h8: ∀x∈l,x<256)(hn:decide (l.length≠65)=false)(h4:decide (l.headD 0≠4)=true):Calls prog 70 #[.string (AB l)] w fun e w'=>e= .returned (.bool false)∧Bw w w':=by
 go_enter func70,ntmps70
 refine KL ?_
 refine AA (by exact HX rfl gg rfl underlying9) ?_;refine AA (by exact BB rfl gg rfl rfl ((Ma l.length 65).trans hn)) ?_;refine Gf ?_;refine AA (by first|exact Ev.skip (fun _=>rfl)|exact CF (k:=0) (c:=l.headD 0) rfl (fun _=>rfl) rfl rfl underlying9 (IQ (by have:=of_decide_eq_false hn;omega)) (h8 _ (List.mem_of_getElem? (IQ (by have:=of_decide_eq_false hn;omega))))) ?_;refine AA (by first|exact Ev.skip (fun _=>rfl)|exact BB rfl (fun _=>rfl) rfl rfl ((Ma (l.headD 0) 4).trans h4)) ?_;refine MD ?_
 exact AG (AD (AH results70 (AF rfl)) fun _ _ hr=>⟨rfl,hr.1⟩)
theorem fw{l:List Nat}(h8: ∀x∈l,x<256)(hn:decide (l.length≠65)=false)(h4:decide (l.headD 0≠4)=false):Calls prog 70 #[.string (AB l)] w fun e w'=>e= .returned (.bool (onB (kX l) (kY l)))∧Bw w w':=by
 have hlen:l.length=65:=by have:=of_decide_eq_false hn;omega
 have l1:((l.drop 1).take 32).length=32:=by simp;omega
 have l2:(l.drop 33).length=32:=by simp;omega
 have m1: ∀x∈(l.drop 1).take 32,x<256:=fun x hx=>h8 x (List.mem_of_mem_drop (List.mem_of_mem_take hx))
 have m2: ∀x∈l.drop 33,x<256:=fun x hx=>h8 x (List.mem_of_mem_drop hx)
 have ex:(l.drop 1).take (33-1)=bl (kX l):=by rw[kX,G6 l1 m1]
 have ey:l.drop 33=bl (kY l):=by rw[kY,G6 l2 m2]
 have hx:=IX l1 m1;have hy:=IX l2 m2;change kX l<R at hx;change kY l<R at hy
 go_enter func70,ntmps70
 refine KL ?_
 refine AA (by exact HX rfl gg rfl underlying9) ?_;refine AA (by exact BB rfl gg rfl rfl ((Ma l.length 65).trans hn)) ?_;refine Gf ?_;refine SF ?_;refine AA (by first|exact Ev.skip (fun _=>rfl)|exact BB rfl (fun _=>rfl) rfl rfl ((Ma (l.headD 0) 4).trans h4)) ?_;refine KJ ?_
 iterate 2 refine I4 ?_
 iterate 3 refine q_k ?_
 refine O8 ?_;refine AL ?_;refine AA (by exact Tu (i:=1) (j:=33) (b':=bl (kX l)) rfl gg rfl rfl rfl underlying9 (by decide) (by omega) ex) ?_;refine AA (by exact Tv (b:=bl (kX l)) rfl gg rfl rfl rfl (EZ _) underlying23 Er (Nat.le_of_ble_eq_true rfl) (Nat.le_of_ble_eq_true rfl)) ?_;iterate 3 refine q_k ?_
 refine O8 ?_;refine AL ?_;refine AA (by exact IT (k:=33) (b':=bl (kY l)) rfl gg rfl rfl underlying9 (by omega) ey) ?_;refine AA (by exact Tv (b:=bl (kY l)) rfl gg rfl rfl rfl (EZ _) underlying23 Er (Nat.le_of_ble_eq_true rfl) (Nat.le_of_ble_eq_true rfl)) ?_;iterate 3 refine q_k ?_
 refine H2 ?_;refine AA (by exact AM rfl gg rfl (eo func112) (fun w' hw'=>V8 (kX l) hx w')) ?_;refine H2 ?_;refine AA (by exact AM rfl gg rfl (eo func112) (fun w' hw'=>V8 (kY l) hy w')) ?_;refine AA (by exact AM rfl gg rfl (eo func111) (fun w' hw'=>jK hx hy w')) ?_;iterate 2 refine AL ?_
 exact AG (AD (AH results70 (AF rfl)) fun _ _ hr=>⟨rfl,hr.1⟩)
theorem fy{l:List Nat}(h8: ∀x∈l,x<256):Calls prog 70 #[.string (AB l)] w fun e w'=>e= .returned (.bool (kyB l))∧Bw w w':=by
 unfold kyB;cases hn:decide (l.length≠65)with
 |true=>rw[decide_eq_false (of_decide_eq_true hn),Bool.false_and];exact f7 w hn
 |false=>
  rw[decide_eq_true (by have:=of_decide_eq_false hn;omega),Bool.true_and];cases h4:decide (l.headD 0≠4)with
  |true=>rw[decide_eq_false (of_decide_eq_true h4),Bool.false_and];exact fx w h8 hn h4
  |false=>rw[decide_eq_true (by have:=of_decide_eq_false h4;omega),Bool.true_and];exact fw w h8 hn h4
theorem p7{c:List Value}{w:World}{S:Nat→Prop}(h1:(ρ id).val= .agg c.toArray)(h2:RN w S t c):SV.c ρ (.fn (AN 0) (.d id))= .int .i64 (Lf t):=by
 cases t with
 |mk tg b ks=>
  rw[RN]at h2;obtain⟨_,_,rfl,_⟩:=h2;simp[SV.c,h1,AN,Value.cells,Lf]
theorem QO{w:World}{base:Nat}{m:Mem}(i:Nat)(hok:t.ok)(hR:RelOn base ρ S w (restr rd m))(hi:i∈rd)(h1:m i=some (.dat (AU t))):Calls prog 28 (SV.cs ρ [.d i,.v (.int .i64 32)]).toArray w fun e w'=>e= .returned (.tuple #[.string (AB ((BW t 32).getD [])),.bool (BW t 32).isSome])∧Bw w w':=by
 obtain⟨c,e1,d1⟩:=C9 hR hi h1;simp only[SV.cs,SV.c,e1];exact R3 (sz:=32) w hok d1 (by decide)
def fX:Option (Nat×Nat)→Value
 |some (r,t)=> .tuple #[PT r t,.bool true]
 |none=> .tuple #[ZV,.bool false]
theorem VO:(decide ((tbN t).2≠0))= !(BW t 32).isSome:=by
 unfold tbN;cases BW t 32<;>rfl
theorem N5{l:List Nat}(hok:t.ok)(h:BW t 32=some l):l=bl (tbB t):=by
 have e:(tbN t).1=l:=by unfold tbN;rw[h]
 rw[tbB,e,G6 (Ik h) (Ij hok h)]
theorem Qj(h8: ∀x∈b,x<256)(hbl:b.length≤1048576):Calls prog 9 #[.string (AB b)] w fun e w'=>e= .returned (fX (sgT b))∧Bw w w':=by
 obtain⟨tg,bd,ks,hT⟩: ∃tg bd ks,(rdT b).1=Tr.mk tg bd ks:=by cases (rdT b).1 with|mk tg bd ks=>exact⟨tg,bd,ks,rfl⟩
 obtain⟨E,hE⟩: ∃E,(rdT b).2=E:=⟨_,rfl⟩
 have hok:=I3 h8 hbl
 have hrd: ∀w',Bw w w'→Calls prog 27 #[.string (AB b)] w' fun e w2=> ∃u,e= .returned (.tuple #[u,.int .i64 E])∧Ae w' w2 u (AU (.mk tg bd ks))∧Bw w' w2:=fun w' _=>by
  have:=R5 w' h8 hbl;rw[hT,hE]at this;exact this
 rw[hT]at hok;have hks:oks ks:=by simp only[Tr.ok]at hok;exact hok.2.2.2
 obtain⟨p,h_p⟩: ∃p,decide (E≠0)=p:=⟨_,rfl⟩
 obtain⟨q,h_q⟩: ∃p,decide (tg≠48)=p:=⟨_,rfl⟩
 obtain⟨r,h_r⟩: ∃p,decide (((ks.length:Nat):Int)≠2)=p:=⟨_,rfl⟩
 rw[sgT,hT,hE,h_p,KA,h_q]
 go_enter func9,ntmps9
 refine Dn ?_
 refine KH ?_
 refine KH ?_
 refine AA (by exact DL (D:=AU (.mk tg bd ks)) (ys:=[.int .i64 E]) [] rfl rfl gg rfl (eo func27) (fun ρ S w' hb hR=>hrd w' hb)) ?_;iterate 3 refine AL ?_
 refine EK ?_;refine AA (by exact Eu (did:=13) rfl gg rfl rfl rfl rfl sizeOf71 rfl) ?_;iterate 4 refine AL ?_
 have h3:(p=false∧q=false∧r=false)∨(p=true∨(p=false∧q=true)∨(p=false∧q=false∧r=true)):=by cases p<;>cases q<;>cases r<;>simp
 rcases h3 with⟨rfl,rfl,rfl⟩|h3
 ·have hk2:ks.length=2:=by have:=of_decide_eq_false h_r;omega
  obtain⟨k0,k1,rfl⟩:=Xq hk2;obtain⟨x0,hx0⟩: ∃x,tbB k0=x:=⟨_,rfl⟩
  obtain⟨x1,hx1⟩: ∃x,tbB k1=x:=⟨_,rfl⟩
  rw[H5,VO,VO,hx0,hx1];iterate 2 refine AL ?_
  refine AA (by exact BB rfl gg rfl rfl h_p) ?_;refine AL ?_;refine XV ?_;refine Wo ?_;refine AA (by first|exact Ev.skip (fun _=>rfl)|exact BB rfl (fun _=>rfl) rfl rfl h_q) ?_;refine Ch ?_;refine XY ?_;refine AA (by first|exact Ev.skip (fun _=>rfl)|exact BK rfl (fun _=>rfl) rfl rfl underlying69 rfl rfl) ?_;refine AA (by first|exact Ev.skip (fun _=>rfl)|exact Jg rfl (fun _=>rfl) rfl underlying69 (Mh rfl)) ?_;refine AA (by first|exact Ev.skip (fun _=>rfl)|exact BB rfl (fun _=>rfl) rfl rfl h_r) ?_;refine Dz ?_
  rcases h_a0:BW k0 32 with _|l0<;>rcases h_a1:BW k1 32 with _|l1<;>simp only[Option.isSome_none,Option.isSome_some,Bool.not_true,Bool.not_false,cond_true,cond_false]
  ·skip
   refine q_k ?_;refine HJ ?_;refine Oq ?_;refine Oy ?_;refine O7 ?_;iterate 8 refine AL ?_
   refine HJ ?_;refine Oo ?_;refine Ox ?_;refine O6 ?_;iterate 10 refine AL ?_
   refine D1 ?_;refine q_3 ?_;refine Dz ?_
   refine C4 ?_;refine Ci ?_
   refine AG ?_;refine AD (Av results9 (Ac rfl rfl underlying22 rfl sizeOf22 rfl rfl) (AF rfl)) ?_;intro ρ w' hr;first|exact⟨rfl,hr.1⟩
  ·have e1:=N5 (Ei hks (i:=1) rfl) h_a1
   rw[hx1]at e1;subst e1;refine q_k ?_;refine HJ ?_;refine Oq ?_;refine Oy ?_;refine O7 ?_;iterate 8 refine AL ?_
   refine HJ ?_;refine Oo ?_;refine Ox ?_;refine O6 ?_;iterate 10 refine AL ?_
   refine D1 ?_;refine q_3 ?_;refine Dz ?_
   refine C4 ?_;refine Ci ?_
   refine AG ?_;refine AD (Av results9 (Ac rfl rfl underlying22 rfl sizeOf22 rfl rfl) (AF rfl)) ?_;intro ρ w' hr;first|exact⟨rfl,hr.1⟩
  ·have e0:=N5 (Ei hks (i:=0) rfl) h_a0
   rw[hx0]at e0;subst e0;refine q_k ?_;refine HJ ?_;refine Oq ?_;refine Oy ?_;refine O7 ?_;iterate 8 refine AL ?_
   refine HJ ?_;refine Oo ?_;refine Ox ?_;refine O6 ?_;iterate 10 refine AL ?_
   refine D1 ?_;refine q_3 ?_;refine Dz ?_
   refine C4 ?_;refine Ci ?_
   refine AG ?_;refine AD (Av results9 (Ac rfl rfl underlying22 rfl sizeOf22 rfl rfl) (AF rfl)) ?_;intro ρ w' hr;first|exact⟨rfl,hr.1⟩
  ·have e0:=N5 (Ei hks (i:=0) rfl) h_a0
   rw[hx0]at e0;subst e0;have e1:=N5 (Ei hks (i:=1) rfl) h_a1;rw[hx1]at e1;subst e1;refine q_k ?_;refine HJ ?_;refine Oq ?_;refine Oy ?_;refine O7 ?_;iterate 8 refine AL ?_
   refine HJ ?_;refine Oo ?_;refine Ox ?_;refine O6 ?_;iterate 10 refine AL ?_
   refine D1 ?_;refine q_3 ?_;refine KJ ?_
   refine AA (by exact NS rfl gg rfl underlying22 sizeOf5) ?_;iterate 2 refine AL ?_
   refine AA (by exact AK (c:= .string (AB (bl x0++bl x1))) rfl gg rfl rfl (fun w=>Fu (bl x0) (bl x1) (by rw[EB,EB];decide) _ _ w)) ?_;refine AA (by exact Tv (b:=bl x0++bl x1) rfl gg rfl rfl rfl (fun x hx=>(List.mem_append.1 hx).elim (EZ _ x) (EZ _ x)) underlying23 Er (Nat.le_of_ble_eq_true rfl) (Nat.le_of_ble_eq_true rfl)) ?_;iterate 3 refine q_k ?_
   refine C4 ?_;refine Ci ?_
   refine AG ?_;refine AD (Av results9 (Ac rfl rfl underlying22 rfl sizeOf22 rfl rfl) (AF rfl)) ?_;intro ρ w' hr;first|exact⟨rfl,hr.1⟩
 ·have hz:(bif p then none else bif q then none else H5 ks)=none:=by rcases h3 with rfl|⟨rfl,rfl⟩|⟨rfl,rfl,rfl⟩<;>first|rfl|exact Xr (by have:=of_decide_eq_true h_r;omega)
  rw[hz];rcases h3 with rfl|⟨rfl,rfl⟩|⟨rfl,rfl,rfl⟩<;>
  (
   iterate 2 refine AL ?_
   refine AA (by exact BB rfl gg rfl rfl h_p) ?_;refine AL ?_;refine XV ?_;refine Wo ?_;refine AA (by first|exact Ev.skip (fun _=>rfl)|exact BB rfl (fun _=>rfl) rfl rfl h_q) ?_;refine Ch ?_;refine XY ?_;refine AA (by first|exact Ev.skip (fun _=>rfl)|exact BK rfl (fun _=>rfl) rfl rfl underlying69 rfl rfl) ?_;refine AA (by first|exact Ev.skip (fun _=>rfl)|exact Jg rfl (fun _=>rfl) rfl underlying69 (Mh rfl)) ?_;refine AA (by first|exact Ev.skip (fun _=>rfl)|exact BB rfl (fun _=>rfl) rfl rfl h_r) ?_;refine Dz ?_
   refine C4 ?_;refine Ci ?_
   refine AG ?_;refine AD (Av results9 (Ac rfl rfl underlying22 rfl sizeOf22 rfl rfl) (AF rfl)) ?_;intro ρ w' hr;first|exact⟨rfl,hr.1⟩
  )
end Go.Proofs.YtafbhakmkbehiaaGreatDoor
