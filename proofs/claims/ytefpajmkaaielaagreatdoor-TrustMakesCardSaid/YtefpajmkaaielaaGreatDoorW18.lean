import Derived.Test.YtefpajmkaaielaaGreatDoorW17
open Go.Proofs.Tryz
set_option maxHeartbeats 4000000
set_option maxRecDepth 100000
namespace Go.Proofs.YtefpajmkaaielaaGreatDoor
open Go.RowKit Go.Vx
variable(w:World){ops:Array Oper}{xs:Array Operand}{ats:Array TypeId}{f:FuncId}{b rd:List Nat}{vs:List SV}{id n r t:Nat}{S:Nat→Nat→Prop}{ρ:Nat→Nm}{G:Nat→Prop}{P:Program}{s:VS}{kv u v:Value}{w0:World}
open TollMont
open Go.Toll (Gw)
open TollEc (F pp cb Jp Pt AZ add base nn neg)
open TollSha (sha Ap)
theorem cN(h8: ∀x∈b,x<256)(hbl:b.length≤1048576)(h:sgT b=some (r,t)):r<R∧t<R:=by
 have hok:=J7 h8 hbl;unfold sgT at h;generalize rdT b=z at h hok;obtain⟨⟨tg,bd,ks⟩,E⟩:=z;simp only at h hok;cases h1:decide (E≠0)with
 |true=>rw[h1]at h;cases h
 |false=>
  rw[h1,cond_false,Jx]at h;cases h2:decide (tg≠48)with
  |true=>rw[h2]at h;cases h
  |false=>
   rw[h2,cond_false]at h;have hks:oks ks:=by simp only[Tr.ok]at hok;exact hok.2.2.2
   match ks,hks,h with
   | [],_,h=>cases h
   | [_],_,h=>cases h
   |_::_::_::_,_,h=>cases h
   | [k0,k1],hks,h=>
     rw[IZ]at h;cases h3:decide ((tbN k0).2≠0)with
     |true=>rw[h3]at h;cases h
     |false=>
      cases h4:decide ((tbN k1).2≠0)with
      |true=>rw[h3,h4]at h;cases h
      |false=>
       rw[h3,h4]at h;simp only[cond_false,Option.some.injEq,Prod.mk.injEq]at h;obtain⟨rfl,rfl⟩:=h;exact⟨SY hks.1,SY hks.2.1⟩
def Bg(c:Crt):Dat:=⟨fun xs w S=> ∃kv,xs=[CVV c kv]∧AJ w kv c.ky.length 1 (c.ky.map b8) S,fun⟨kv,e,h⟩ hk=>⟨kv,e,h.keep hk⟩⟩
theorem Ca{w:World}{base:Nat}{m:Mem}{c:Crt}(hR:RelOn base ρ S w (restr rd m))(hid:id∈rd)(hm:m id=some (.dat (Bg c))): ∃kv,(ρ id).val=CVV c kv∧AJ w kv c.ky.length 1 (c.ky.map b8) (S id):=by
 obtain⟨kv,h1,h2⟩:=Fb hR hid hm;simp only[List.cons.injEq,and_true]at h1;exact⟨kv,h1,h2⟩
theorem cY{w w':World}{ty:TypeId}{l:List Value}(h:BJ w w' v n 1 ty l)(hl:l.length=n): ∃S,AJ w' v n 1 l S∧ ∀k,S k→w.heap.size≤k∧k<w'.heap.size:=by
 obtain⟨g,h⟩:=h;have hs:=DL h (by omega);rcases h with⟨h1,h2⟩|⟨off,cap,cur,fz,h1,h2,h3,_⟩
 ·refine⟨fun _=>False,?_,fun k hk=>hk.elim⟩
  obtain⟨ao,cp,a1,a2,a3,_⟩:=hs;exact⟨ao,cp,a1,a2,a3,.inl (List.eq_nil_of_length_eq_zero (by omega))⟩
 ·exact⟨_,hs,fun k hk=>by subst hk;exact⟨h2,(Array.getElem?_eq_some_iff.1 h3).1⟩⟩
theorem GL{c:Crt}(h8: ∀x∈b,x<256)(hbl:b.length≤1048576)(h:rdC b=some (c,r,t)):Df c=true∧c.Fit∧r<R∧t<R∧(wrT (c.whole r t)).1=b:=by
 have hok:=J7 h8 hbl;unfold rdC at h;generalize rdT b=z at h hok;obtain⟨n0,E⟩:=z;simp only at h hok;cases h1:decide (E≠0)with
 |true=>rw[h1]at h;cases h
 |false=>
  rw[h1,cond_false,Hg]at h;cases h2: !(wiB (HT n0) 0 3 && wiB (Hd n0) 0 3)with
  |true=>rw[h2]at h;cases h
  |false=>
   rw[h2,cond_false]at h;have hsg:=J2 (A8 [2] hok);have hsl:=MH (A8 [2] hok);generalize hgg:Bv (AL [2] n0)=gb at h hsg hsl;cases h3:sgT gb with
   |none=>rw[h3,I7]at h;cases h
   |some rt=>
    obtain⟨r',t'⟩:=rt;rw[h3,I7]at h;cases h4:Df (Fv n0)with
    |false=>rw[h4]at h;cases h
    |true=>
     rw[h4]at h;cases h5:decide ((wrT ((Fv n0).whole r' t')).1=b)with
     |false=>rw[h5]at h;cases h
     |true=>
      rw[h5]at h;simp only[Bool.not_true,cond_false,Option.some.injEq,Prod.mk.injEq]at h;obtain⟨rfl,rfl,rfl⟩:=h;have hlt:=cN hsg hsl h3;exact⟨h4,IV (Gp (A8 [3,0,1] (A8 [0] hok))).1 (Gp (A8 [5,0,1] (A8 [0] hok))).1 (J2 (A8 [6,1] (A8 [0] hok))) h4,hlt.1,hlt.2,of_decide_eq_true h5⟩
def BK(c:Crt):Nat:=TollBy.beV (sha (wrT c.body).1) 0
theorem Sv(c:Crt):BK c<R:=Ny (TollSha.sha_len _) (Jy _)
theorem Su(c:Crt):Value.agg ((sha [(wrT c.body).1].flatten).map b8).toArray=B32 (BK c):=by
 rw[OB,BK,Hv (TollSha.sha_len _) (Jy _)];rw[List.flatten_cons,List.flatten_nil,List.append_nil]
open Classical in
noncomputable def DK(b l:List Nat):Int:=match rdC b with
 |none=>2
 |some (c,r,t)=>Bh l (BK c) r t
theorem Ch{w:World}{S:Nat→Prop}{c:Crt}(h1:(ρ id).val=CVV c kv)(h2:AJ w kv c.ky.length 1 (c.ky.map b8) S):((SV.d id).c ρ).cells.toList=SV.cs ρ [.v (.int .i64 c.se),.v (.string (AI c.is)),.v (.string (AI c.su)),.v (.int .i64 c.fr),.v (.int .i64 c.to),.fn (AU 5) (.d id),.v (.bool c.ca),.v (.int .i64 c.pa),.v (.int .i64 c.us)]∧(SV.cs ρ [.v (.int .i64 c.se),.v (.string (AI c.is)),.v (.string (AI c.su)),.v (.int .i64 c.fr),.v (.int .i64 c.to),.fn (AU 5) (.d id),.v (.bool c.ca),.v (.int .i64 c.pa),.v (.int .i64 c.us)]).all (·.oneCell')=true:=by
 obtain⟨ao,cp,rfl,_⟩:=h2;simp[SV.c,SV.cs,h1,CVV,AU,Value.cells,Value.oneCell']
theorem N5{w:World}{base:Nat}{m:Mem}{c:Crt}(hR:RelOn base ρ S w (restr rd m))(hid:id∈rd)(hm:m id=some (.dat (Bg c))): ∃kv,SV.c ρ (.agg [.v (.int .i64 c.se),.v (.string (AI c.is)),.v (.string (AI c.su)),.v (.int .i64 c.fr),.v (.int .i64 c.to),.fn (AU 5) (.d id),.v (.bool c.ca),.v (.int .i64 c.pa),.v (.int .i64 c.us)])=CVV c kv∧AJ w kv c.ky.length 1 (c.ky.map b8) (S id):=by
 obtain⟨kv,h1,h2⟩:=Ca hR hid hm;refine⟨kv,?_,h2⟩;simp[SV.c,SV.cs,h1,CVV,AU,Value.cells]
theorem HI{w:World}(id:Nat){c:Crt}(hr:Rel w0 ρ s w)(hm:s.mem id=some (.dat (Bg c))):BO w0 w (SV.c ρ (.agg [.v (.int .i64 c.se),.v (.string (AI c.is)),.v (.string (AI c.su)),.v (.int .i64 c.fr),.v (.int .i64 c.to),.fn (AU 5) (.d id),.v (.bool c.ca),.v (.int .i64 c.pa),.v (.int .i64 c.us)])) (Bg c):=by
 obtain⟨hb,S,hR⟩:=hr;obtain⟨kv,h1,h2⟩:=hR.good id _ hm;simp only[List.cons.injEq,and_true]at h1;have e:SV.c ρ (.agg [.v (.int .i64 c.se),.v (.string (AI c.is)),.v (.string (AI c.su)),.v (.int .i64 c.fr),.v (.int .i64 c.to),.fn (AU 5) (.d id),.v (.bool c.ca),.v (.int .i64 c.pa),.v (.int .i64 c.us)])=CVV c kv:=by simp[SV.c,SV.cs,h1,CVV,AU,Value.cells]
 rw[e];exact⟨S id,⟨kv,rfl,h2⟩,fun k hk=>⟨hR.fr id k (by rw[hm];rfl) hk,hR.lt id k (by rw[hm];rfl) hk⟩⟩
theorem dU{F:Nat→Prop}{c:Crt}(hL:Laid w)(hv:AJ w v b.length 1 (b.map b8) F)(h8: ∀x∈b,x<256)(hbl:b.length≤1048576)(h:rdC b=some (c,r,t)):
 Calls prog 53 #[v] w fun e w'=> ∃u,e= .returned (.tuple #[u,PT r t,.int .i64 0])∧BO w w' u (Bg c)∧Bw w w':=by
 have a:=TO w hL hv h8 hbl;rw[h]at a;refine a.mono fun e w' ⟨⟨kv,h1,h2⟩,h3⟩=>⟨_,h1,?_,h3⟩
 obtain⟨S,s1,s2⟩:=cY h2 (by simp);exact⟨S,⟨kv,rfl,s1⟩,s2⟩
theorem dP{F:Nat→Prop}(hL:Laid w)(hv:AJ w v b.length 1 (b.map b8) F)(h8: ∀x∈b,x<256)(hbl:b.length≤1048576)(h:rdC b=none):
 CBy 53 #[v] w (.tuple #[CZ,ZV,.int .i64 2]):=by
 have a:=TO w hL hv h8 hbl;rw[h]at a;exact a
theorem qa{w:World}{base:Nat}{m:Mem}{c:Crt}(id:Nat)(hf:c.Fit)(hK:Au w)(hH:BD w)(hb1:8<w.heap.size)(hR:RelOn base ρ S w (restr rd m))(hid:id∈rd)(hm:m id=some (.dat (Bg c))):
 CBy 20 (SV.cs ρ [.agg [.v (.int .i64 c.se),.v (.string (AI c.is)),.v (.string (AI c.su)),.v (.int .i64 c.fr),.v (.int .i64 c.to),.fn (AU 5) (.d id),.v (.bool c.ca),.v (.int .i64 c.pa),.v (.int .i64 c.us)]]).toArray w (B32 (BK c)):=by
 obtain⟨kv,e,h⟩:=N5 hR hid hm;simp only[SV.cs,e];rw[←Su];exact Ss w hf h hK hH hb1
theorem uW{l:List Nat}{F:Nat→Prop}(hL:Laid w)(_hK:Au w)(_hH:BD w)(_hb1:8<w.heap.size)(hv:AJ w v b.length 1 (b.map b8) F)(_hu:AJ w u l.length 1 (l.map b8) G)(h8: ∀x∈b,x<256)(_hu8: ∀x∈l,x<256)(hbl:b.length≤1048576)(hc:rdC b=none):CBy 25 #[v,u] w (.int .i64 2):=by
 go_enter func25,ntmps25
 refine AO ?_;iterate 7 refine AA ?_
 refine To ?_;iterate 14 refine AA ?_
 refine AB (by exact A0 (p:=true) rfl gg rfl rfl (by decide)) ?_;iterate 7 refine AA ?_
 exact AG (AD (AM results25 (AE rfl)) fun _ _ hr=>⟨rfl,hr.1⟩)
theorem uU{l:List Nat}{F:Nat→Prop}(hL:Laid w)(hK:Au w)(hH:BD w)(hb1:8<w.heap.size)(hv:AJ w v b.length 1 (b.map b8) F)(hu:AJ w u l.length 1 (l.map b8) G)(h8: ∀x∈b,x<256)(hu8: ∀x∈l,x<256)(hbl:b.length≤1048576){c:Crt}(hc:rdC b=some (c,r,t)):CBy 25 #[v,u] w (.int .i64 (Bh l (BK c) r t)):=by
 have hs:=GL h8 hbl hc
 go_enter func25,ntmps25
 refine AO ?_;iterate 7 refine AA ?_
 refine Tc ?_;iterate 6 refine AA ?_
 refine AB (by exact Az (vl:=[.v (.int .i64 c.se),.v (.string (AI c.is)),.v (.string (AI c.su)),.v (.int .i64 c.fr),.v (.int .i64 c.to),.fn (AU 5) (.d 10),.v (.bool c.ca),.v (.int .i64 c.pa),.v (.int .i64 c.us)]) [10,5] rfl gg rfl rfl rfl sizeOf28 rfl (fun ρ S w' _ hR=>by obtain⟨kv,e,h⟩:=Ca (id:=10) hR (by simp) rfl;exact Ch e h) rfl (by simp)) ?_;iterate 7 refine AA ?_
 refine AB (by exact A0 (p:=false) rfl gg rfl rfl (by decide)) ?_;iterate 7 refine AA ?_
 refine AB (by exact Aj (v:=B32 (BK c)) [10] rfl gg rfl (eo func20) (fun ρ S w' hb hR=>qa 10 hs.2.1 (hK.bw hb) (hH.bw hb) (Nat.lt_of_lt_of_le hb1 hb.size) hR (by simp) rfl)) ?_;refine AA ?_;refine AB (by exact Ah (v:= .int .i64 (Bh l (BK c) r t)) rfl gg rfl (eo func54) (fun w' hw'=>uy (Aa hu hw') hu8 (Sv c) hs.2.2.1 hs.2.2.2.1 (hL.bw hw'))) ?_;iterate 2 refine AA ?_
 exact AG (AD (AM results25 (AE rfl)) fun _ _ hr=>⟨rfl,hr.1⟩)
theorem uV{l:List Nat}{F:Nat→Prop}(hL:Laid w)(hK:Au w)(hH:BD w)(hb1:8<w.heap.size)(hv:AJ w v b.length 1 (b.map b8) F)(hu:AJ w u l.length 1 (l.map b8) G)(h8: ∀x∈b,x<256)(hu8: ∀x∈l,x<256)(hbl:b.length≤1048576):CBy 25 #[v,u] w (.int .i64 (DK b l)):=by
 unfold DK;rcases hc:rdC b with _|⟨c,r,t⟩
 ·exact uW w hL hK hH hb1 hv hu h8 hu8 hbl hc
 ·exact uU w hL hK hH hb1 hv hu h8 hu8 hbl hc
theorem qc{F:Nat→Prop}(hL:Laid w)(hv:AJ w v b.length 1 (b.map b8) F)(h8: ∀x∈b,x<256)(hbl:b.length≤1048576)(hc:rdC b=none):CBy 22 #[v] w (.tuple #[CZ,.int .i64 2]):=by
 go_enter func22,ntmps22
 refine AO ?_;iterate 2 refine k_g ?_
 iterate 6 refine AA ?_
 refine To ?_;iterate 17 refine AA ?_
 exact AG (AD (Av results22 (Ad rfl rfl underlying28 rfl sizeOf28 rfl rfl) (AE rfl)) fun _ _ hr=>⟨rfl,hr.1⟩)
theorem Yc{F:Nat→Prop}{c:Crt}(hL:Laid w)(hv:AJ w v b.length 1 (b.map b8) F)(h8: ∀x∈b,x<256)(hbl:b.length≤1048576)(hc:rdC b=some (c,r,t)):Calls prog 22 #[v] w fun e w'=> ∃u,e= .returned (.tuple #[u,.int .i64 0])∧BO w w' u (Bg c)∧Bw w w':=by
 go_enter func22,ntmps22
 refine AO ?_;iterate 2 refine k_g ?_
 iterate 6 refine AA ?_
 refine Tc ?_;iterate 6 refine AA ?_
 refine Tl ?_;iterate 7 refine AA ?_
 refine Tl ?_;iterate 2 refine AA ?_
 refine AG ?_;refine AD (Av results22 (BN rfl rfl underlying28 rfl sizeOf28 rfl) (AE rfl)) ?_;intro ρ w' hr;exact⟨_,rfl,HI 9 hr rfl,hr.1⟩
theorem Nn{c:Crt}{F:Nat→Prop}{d:Nat}(hL:Laid w)(hK:Au w)(hH:BD w)(hb1:8<w.heap.size)(hk:AJ w kv c.ky.length 1 (c.ky.map b8) F)(hf:c.Fit)(hrg:Df c=true)(hsg: ∀w',Bw w w'→CBy 19 #[B32 d,B32 (BK c)] w' (.tuple #[PT r t,.int .i64 0])):Calls prog 12 #[(.agg #[.int .i64 c.se,.string (AI c.is),.string (AI c.su),.int .i64 c.fr,.int .i64 c.to,kv,.bool c.ca,.int .i64 c.pa,.int .i64 c.us]),B32 d] w fun e w'=> ∃v,e= .returned (.tuple #[v,.int .i64 0])∧BJ w w' v ((wrT (c.whole r t)).1.length) 1 5 ((wrT (c.whole r t)).1.map b8)∧Bw w w':=by
 go_enter func12,ntmps12
 refine AO ?_;iterate 11 refine AA ?_
 refine AB (by exact C0 hrg rfl gg rfl (eo func18) (fun w' hw'=>TI w' (hL.bw hw') (Aa hk hw') hf.k8 hf.i8 hf.s8 (by have:=hf.il;omega) (by have:=hf.sl;omega))) ?_;refine k_9 ?_;iterate 5 refine k_g ?_
 iterate 2 refine AA ?_
 refine AB (by exact Ah (v:=B32 (BK c)) rfl gg rfl (eo func20) (fun w' hw'=>by rw[←Su];exact Ss w' hf (Aa hk hw') (hK.bw hw') (hH.bw hw') (Nat.lt_of_lt_of_le hb1 hw'.size))) ?_;refine AB (by exact Ah (v:= .tuple #[PT r t,.int .i64 0]) rfl gg rfl (eo func19) (fun w' hw'=>hsg w' hw')) ?_;iterate 11 refine AA ?_
 refine AB (by exact A0 (p:=false) rfl gg rfl rfl (by decide)) ?_;iterate 5 refine k_g ?_
 iterate 2 refine AA ?_
 refine AB (by exact Cs [] rfl rfl gg rfl (eo func21) (n:=(wrT (c.whole r t)).1.length) (size:=1) (l:=(wrT (c.whole r t)).1.map b8) (by simp) (fun ρ S w' hb hR=>SE w' hf (Aa hk hb))) ?_;iterate 3 refine AA ?_
 refine AG ?_;refine AD (Av results12 (AE rfl) (AE rfl)) ?_;intro ρ w' hr;exact⟨_,rfl,BR hr rfl,hr.1⟩
def kyL(x y:Nat):List Nat:=4::(bl x++bl y)
theorem kr(x y:Nat):(kyL x y).length=65:=rfl
theorem CB(x y:Nat): ∀z∈kyL x y,z<256:=fun z hz=>by
 rcases List.mem_cons.1 hz with rfl|hz
 ·decide
 ·exact(List.mem_append.1 hz).elim (Gr x z) (Gr y z)
theorem G2(x y:Nat):wb x y=(kyL x y).map b8:=by
 unfold wb kyL;rw[Mp,Mp,List.map_cons,List.map_append];rfl
theorem HQ{k:Nat}{p:Pt}(h:AZ k base=p):p.on:=h▸TollEc.smul_on TollEc.base_on k
structure Known(c:Crt)(d r t:Nat):Prop where
 fit:c.Fit
 rgt:Df c=true
 rd:rdC (wrT (c.whole r t)).1=some (c,r,t)
 made: ∀{w:World},Laid w→Au w→BD w→8<w.heap.size→CBy 19 #[B32 d,B32 (BK c)] w (.tuple #[PT r t,.int .i64 0])
theorem NS{o:Oper}{size:Nat}{ty:TypeId}{l:List Value}{y:Value}(rd:List Nat)(_hd:o.dst=some id)(ho:o.op= .call {callee:= .value (.func f),args:=xs,argTypes:=ats})(hgd:AR ops o s)
 (hx:xs.toList.map (AC s)=vs)(he: ∀args w,(callFunc f args).run P w= .ok (.enter f args) w)(hl:l.length=n*size)
 (hc: ∀ρ S w,Bw w0 w→RelOn w0.heap.size ρ S w (restr rd s.mem)→Calls P f (SV.cs ρ vs).toArray w fun e w'=> ∃v,e= .returned (.tuple #[y,v])∧BJ w w' v n size ty l∧Bw w w'):Ev P ops w0 o s ⟨.tup [.v y,.d id],[(id,.row n size ty (.exact l))],[],[id],rd⟩:=
 ⟨by simp[Eff.ok],.inr ⟨hgd,fun ρ S w hb hR=> .inr (.inr ⟨f,(SV.cs ρ vs).toArray,by
  obtain⟨dst,op,type,pos,after,guard⟩:=o;simp only at ho;subst ho;rw[execOp_call_go,Eu,hx,←A3]
  simpa using he (SV.cs ρ vs).toArray w,(hc ρ S w hb hR).mono fun e w' ⟨v,h1,⟨g,h2⟩,h3⟩=>⟨_,h1,_,_,by
   have:=GO (base:=w0.heap.size) (t:=s.mem) (ρ:=ρ) (S:=S) (val:= .tup [.v y,.d id]) (rd:=rd) (id:=id) hb.size h3 hl h2;simpa[SV.c,SV.cs] using this⟩⟩)⟩⟩
end Go.Proofs.YtefpajmkaaielaaGreatDoor
