import Derived.Test.YtafbhakmkbehiaaGreatDoorZ26
open Go.Proofs.Tryz
set_option maxHeartbeats 4000000
set_option maxRecDepth 100000
namespace Go.Proofs.YtafbhakmkbehiaaGreatDoor
open Go.RowKit Go.Vx
variable(w:World){ops:Array Oper}{b rd:List Nat}{id r t:Nat}{S:Nat→Nat→Prop}{ρ:Nat→Nm}{G:Nat→Prop}{P:Program}{ty:TypeId}{s:VS}{kv u v:Value}{w0:World}
open TollMont
open Go.Toll (Gw)
open TollEc (F pp cb Jp Pt Au add base nn neg)
open TollSha (sha CH)
theorem fW(h8: ∀x∈b,x<256)(hbl:b.length≤1048576)(h:sgT b=some (r,t)):r<R∧t<R:=by
 have hok:=I3 h8 hbl;unfold sgT at h;generalize rdT b=z at h hok;obtain⟨⟨tg,bd,ks⟩,E⟩:=z;simp only at h hok;cases h1:decide (E≠0)with
 |true=>rw[h1]at h;cases h
 |false=>
  rw[h1,cond_false,KA]at h;cases h2:decide (tg≠48)with
  |true=>rw[h2]at h;cases h
  |false=>
   rw[h2,cond_false]at h;have hks:oks ks:=by simp only[Tr.ok]at hok;exact hok.2.2.2
   match ks,hks,h with
   | [],_,h=>cases h
   | [_],_,h=>cases h
   |_::_::_::_,_,h=>cases h
   | [k0,k1],hks,h=>
     rw[H5]at h;cases h3:decide ((tbN k0).2≠0)with
     |true=>rw[h3]at h;cases h
     |false=>
      cases h4:decide ((tbN k1).2≠0)with
      |true=>rw[h3,h4]at h;cases h
      |false=>
       rw[h3,h4]at h;simp only[cond_false,Option.some.injEq,Prod.mk.injEq]at h;obtain⟨rfl,rfl⟩:=h;exact⟨VU hks.1,VU hks.2.1⟩
def G5(c:Crt):Dat:=⟨fun xs w S=> ∃kv,xs=[CVV c kv]∧AO w kv c.ky.length 1 (c.ky.map b8) S,fun⟨kv,e,h⟩ hk=>⟨kv,e,h.keep hk⟩⟩
theorem Nb{w:World}{base:Nat}{m:Mem}{c:Crt}(hR:RelOn base ρ S w (restr rd m))(hid:id∈rd)(hm:m id=some (.dat (G5 c))): ∃kv,(ρ id).val=CVV c kv∧AO w kv c.ky.length 1 (c.ky.map b8) (S id):=by
 obtain⟨kv,h1,h2⟩:=Gc hR hid hm;simp only[List.cons.injEq,and_true]at h1;exact⟨kv,h1,h2⟩
theorem f8{w w':World}{n:Nat}{l:List Value}(h:BN w w' v n 1 ty l)(hl:l.length=n): ∃S,AO w' v n 1 l S∧ ∀k,S k→w.heap.size≤k∧k<w'.heap.size:=by
 obtain⟨g,h⟩:=h;have hs:=DX h (by omega);rcases h with⟨h1,h2⟩|⟨off,cap,cur,fz,h1,h2,h3,_⟩
 ·refine⟨fun _=>False,?_,fun k hk=>hk.elim⟩
  obtain⟨ao,cp,a1,a2,a3,_⟩:=hs;exact⟨ao,cp,a1,a2,a3,.inl (List.eq_nil_of_length_eq_zero (by omega))⟩
 ·exact⟨_,hs,fun k hk=>by subst hk;exact⟨h2,(Array.getElem?_eq_some_iff.1 h3).1⟩⟩
theorem iG{c:Crt}(h8: ∀x∈b,x<256)(hbl:b.length≤1048576)(h:rdC b=some (c,r,t)):C2 c=true∧c.Fit∧r<R∧t<R∧(wrT (c.whole r t)).1=b:=by
 have hok:=I3 h8 hbl;unfold rdC at h;generalize rdT b=z at h hok;obtain⟨n0,E⟩:=z;simp only at h hok;cases h1:decide (E≠0)with
 |true=>rw[h1]at h;cases h
 |false=>
  rw[h1,cond_false,Gz]at h;cases h2: !(wiB (CX n0) 0 3 && wiB (Cl n0) 0 3)with
  |true=>rw[h2]at h;cases h
  |false=>
   rw[h2,cond_false]at h;have hsg:=Hv (Af [2] hok);have hsl:=KE (Af [2] hok);generalize hgg:BO (AC [2] n0)=gb at h hsg hsl;cases h3:sgT gb with
   |none=>rw[h3,GF]at h;cases h
   |some rt=>
    obtain⟨r',t'⟩:=rt;rw[h3,GF]at h;cases h4:C2 (GJ n0)with
    |false=>rw[h4]at h;cases h
    |true=>
     rw[h4]at h;cases h5:decide ((wrT ((GJ n0).whole r' t')).1=b)with
     |false=>rw[h5]at h;cases h
     |true=>
      rw[h5]at h;simp only[Bool.not_true,cond_false,Option.some.injEq,Prod.mk.injEq]at h;obtain⟨rfl,rfl,rfl⟩:=h;have hlt:=fW hsg hsl h3;exact⟨h4,KD (EY (Af [3,0,1] (Af [0] hok))).1 (EY (Af [5,0,1] (Af [0] hok))).1 (Hv (Af [6,1] (Af [0] hok))) h4,hlt.1,hlt.2,of_decide_eq_true h5⟩
def Ed(c:Crt):Nat:=TollBy.beV (sha (wrT c.body).1) 0
theorem eX(c:Crt):Ed c<R:=IX (TollSha.sha_len _) (Oa _)
theorem Vf(c:Crt):Value.agg ((sha [(wrT c.body).1].flatten).map b8).toArray=B32 (Ed c):=by
 rw[Qq,Ed,G6 (TollSha.sha_len _) (Oa _)];rw[List.flatten_cons,List.flatten_nil,List.append_nil]
open Classical in
noncomputable def Ob(b l:List Nat):Int:=match rdC b with
 |none=>2
 |some (c,r,t)=>EX l (Ed c) r t
theorem QL{w:World}{S:Nat→Prop}{c:Crt}(h1:(ρ id).val=CVV c kv)(h2:AO w kv c.ky.length 1 (c.ky.map b8) S):((SV.d id).c ρ).cells.toList=SV.cs ρ [.v (.int .i64 c.se),.v (.string (AB c.is)),.v (.string (AB c.su)),.v (.int .i64 c.fr),.v (.int .i64 c.to),.fn (AN 5) (.d id),.v (.bool c.ca),.v (.int .i64 c.pa),.v (.int .i64 c.us)]∧(SV.cs ρ [.v (.int .i64 c.se),.v (.string (AB c.is)),.v (.string (AB c.su)),.v (.int .i64 c.fr),.v (.int .i64 c.to),.fn (AN 5) (.d id),.v (.bool c.ca),.v (.int .i64 c.pa),.v (.int .i64 c.us)]).all (·.oneCell')=true:=by
 obtain⟨ao,cp,rfl,_⟩:=h2;simp[SV.c,SV.cs,h1,CVV,AN,Value.cells,Value.oneCell']
theorem cX{w:World}{base:Nat}{m:Mem}{c:Crt}(hR:RelOn base ρ S w (restr rd m))(hid:id∈rd)(hm:m id=some (.dat (G5 c))): ∃kv,SV.c ρ (.agg [.v (.int .i64 c.se),.v (.string (AB c.is)),.v (.string (AB c.su)),.v (.int .i64 c.fr),.v (.int .i64 c.to),.fn (AN 5) (.d id),.v (.bool c.ca),.v (.int .i64 c.pa),.v (.int .i64 c.us)])=CVV c kv∧AO w kv c.ky.length 1 (c.ky.map b8) (S id):=by
 obtain⟨kv,h1,h2⟩:=Nb hR hid hm;refine⟨kv,?_,h2⟩;simp[SV.c,SV.cs,h1,CVV,AN,Value.cells]
theorem gR{w:World}(id:Nat){c:Crt}(hr:Rel w0 ρ s w)(hm:s.mem id=some (.dat (G5 c))):Ae w0 w (SV.c ρ (.agg [.v (.int .i64 c.se),.v (.string (AB c.is)),.v (.string (AB c.su)),.v (.int .i64 c.fr),.v (.int .i64 c.to),.fn (AN 5) (.d id),.v (.bool c.ca),.v (.int .i64 c.pa),.v (.int .i64 c.us)])) (G5 c):=by
 obtain⟨hb,S,hR⟩:=hr;obtain⟨kv,h1,h2⟩:=hR.good id _ hm;simp only[List.cons.injEq,and_true]at h1;have e:SV.c ρ (.agg [.v (.int .i64 c.se),.v (.string (AB c.is)),.v (.string (AB c.su)),.v (.int .i64 c.fr),.v (.int .i64 c.to),.fn (AN 5) (.d id),.v (.bool c.ca),.v (.int .i64 c.pa),.v (.int .i64 c.us)])=CVV c kv:=by simp[SV.c,SV.cs,h1,CVV,AN,Value.cells]
 rw[e];exact⟨S id,⟨kv,rfl,h2⟩,fun k hk=>⟨hR.fr id k (by rw[hm];rfl) hk,hR.lt id k (by rw[hm];rfl) hk⟩⟩
theorem gz{F:Nat→Prop}{c:Crt}(hL:Laid w)(hv:AO w v b.length 1 (b.map b8) F)(h8: ∀x∈b,x<256)(hbl:b.length≤1048576)(h:rdC b=some (c,r,t)):
 Calls prog 34 #[v] w fun e w'=> ∃u,e= .returned (.tuple #[u,PT r t,.int .i64 0])∧Ae w w' u (G5 c)∧Bw w w':=by
 have a:=WO w hL hv h8 hbl;rw[h]at a;refine a.mono fun e w' ⟨⟨kv,h1,h2⟩,h3⟩=>⟨_,h1,?_,h3⟩
 obtain⟨S,s1,s2⟩:=f8 h2 (by simp);exact⟨S,⟨kv,rfl,s1⟩,s2⟩
theorem gu{F:Nat→Prop}(hL:Laid w)(hv:AO w v b.length 1 (b.map b8) F)(h8: ∀x∈b,x<256)(hbl:b.length≤1048576)(h:rdC b=none):
 Calls prog 34 #[v] w fun e w'=>e= .returned (.tuple #[CZ,ZV,.int .i64 2])∧Bw w w':=by
 have a:=WO w hL hv h8 hbl;rw[h]at a;exact a
theorem qC{w:World}{base:Nat}{m:Mem}{c:Crt}(id:Nat)(hf:c.Fit)(hK:B6 w)(hH:CQ w)(hb1:7<w.heap.size)(hR:RelOn base ρ S w (restr rd m))(hid:id∈rd)(hm:m id=some (.dat (G5 c))):
 Calls prog 47 (SV.cs ρ [.agg [.v (.int .i64 c.se),.v (.string (AB c.is)),.v (.string (AB c.su)),.v (.int .i64 c.fr),.v (.int .i64 c.to),.fn (AN 5) (.d id),.v (.bool c.ca),.v (.int .i64 c.pa),.v (.int .i64 c.us)]]).toArray w fun e w'=>e= .returned (B32 (Ed c))∧Bw w w':=by
 obtain⟨kv,e,h⟩:=cX hR hid hm;simp only[SV.cs,e];rw[←Vf];exact Ve w hf h hK hH hb1
theorem sJ{l:List Nat}{F:Nat→Prop}(hL:Laid w)(_hK:B6 w)(_hH:CQ w)(_hb1:7<w.heap.size)(hv:AO w v b.length 1 (b.map b8) F)(_hu:AO w u l.length 1 (l.map b8) G)(h8: ∀x∈b,x<256)(_hu8: ∀x∈l,x<256)(hbl:b.length≤1048576)(hc:rdC b=none):Calls prog 20 #[v,u] w fun e w'=>e= .returned (.int .i64 2)∧Bw w w':=by
 go_enter func20,ntmps20
 refine FG ?_
 refine XF ?_;iterate 4 refine AL ?_
 refine Gh ?_;refine Ef ?_;refine PC ?_;refine SN ?_;iterate 6 refine AL ?_
 refine AA (by exact BB (p:=true) rfl gg rfl rfl (by decide)) ?_;iterate 7 refine AL ?_
 exact AG (AD (AH results20 (AF rfl)) fun _ _ hr=>⟨rfl,hr.1⟩)
theorem sH{l:List Nat}{F:Nat→Prop}(hL:Laid w)(hK:B6 w)(hH:CQ w)(hb1:7<w.heap.size)(hv:AO w v b.length 1 (b.map b8) F)(hu:AO w u l.length 1 (l.map b8) G)(h8: ∀x∈b,x<256)(hu8: ∀x∈l,x<256)(hbl:b.length≤1048576){c:Crt}(hc:rdC b=some (c,r,t)):Calls prog 20 #[v,u] w fun e w'=>e= .returned (.int .i64 (EX l (Ed c) r t))∧Bw w w':=by
 have hs:=iG h8 hbl hc
 go_enter func20,ntmps20
 refine FG ?_
 refine Wg ?_;iterate 4 refine AL ?_
 refine Gh ?_;refine Ef ?_;refine AA (by exact Bh (vl:=[.v (.int .i64 c.se),.v (.string (AB c.is)),.v (.string (AB c.su)),.v (.int .i64 c.fr),.v (.int .i64 c.to),.fn (AN 5) (.d 10),.v (.bool c.ca),.v (.int .i64 c.pa),.v (.int .i64 c.us)]) [10,5] rfl gg rfl rfl rfl sizeOf34 rfl (fun ρ S w' _ hR=>by obtain⟨kv,e,h⟩:=Nb (id:=10) hR (by simp) rfl;exact QL e h) rfl (by simp)) ?_;refine SN ?_;iterate 6 refine AL ?_
 refine AA (by exact BB (p:=false) rfl gg rfl rfl (by decide)) ?_;iterate 6 refine AL ?_
 refine Gi ?_;refine AA (by exact Aj (v:=B32 (Ed c)) [10] rfl gg rfl (eo func47) (fun ρ S w' hb hR=>qC 10 hs.2.1 (hK.bw hb) (hH.bw hb) (Nat.lt_of_lt_of_le hb1 hb.size) hR (by simp) rfl)) ?_;refine C4 ?_;refine AA (by exact Ad (v:= .int .i64 (EX l (Ed c) r t)) rfl gg rfl (eo func46) (fun w' hw'=>sa (A5 hu hw') hu8 (eX c) hs.2.2.1 hs.2.2.2.1 (hL.bw hw'))) ?_;iterate 2 refine AL ?_
 exact AG (AD (AH results20 (AF rfl)) fun _ _ hr=>⟨rfl,hr.1⟩)
theorem sI{l:List Nat}{F:Nat→Prop}(hL:Laid w)(hK:B6 w)(hH:CQ w)(hb1:7<w.heap.size)(hv:AO w v b.length 1 (b.map b8) F)(hu:AO w u l.length 1 (l.map b8) G)(h8: ∀x∈b,x<256)(hu8: ∀x∈l,x<256)(hbl:b.length≤1048576):Calls prog 20 #[v,u] w fun e w'=>e= .returned (.int .i64 (Ob b l))∧Bw w w':=by
 unfold Ob;rcases hc:rdC b with _|⟨c,r,t⟩
 ·exact sJ w hL hK hH hb1 hv hu h8 hu8 hbl hc
 ·exact sH w hL hK hH hb1 hv hu h8 hu8 hbl hc
theorem qF{F:Nat→Prop}(hL:Laid w)(hv:AO w v b.length 1 (b.map b8) F)(h8: ∀x∈b,x<256)(hbl:b.length≤1048576)(hc:rdC b=none):Calls prog 12 #[v] w fun e w'=>e= .returned (.tuple #[CZ,.int .i64 2])∧Bw w w':=by
 go_enter func12,ntmps12
 refine Ep ?_
 refine Gh ?_;iterate 5 refine AL ?_
 refine XF ?_;iterate 4 refine AL ?_
 refine Gh ?_;refine Ef ?_;refine PC ?_;refine SN ?_;iterate 4 refine AL ?_
 refine Gi ?_;refine AL ?_;refine PC ?_;iterate 2 refine AL ?_
 exact AG (AD (Av results12 (Ac rfl rfl underlying34 rfl sizeOf34 rfl rfl) (AF rfl)) fun _ _ hr=>⟨rfl,hr.1⟩)
theorem qE{F:Nat→Prop}{c:Crt}(hL:Laid w)(hv:AO w v b.length 1 (b.map b8) F)(h8: ∀x∈b,x<256)(hbl:b.length≤1048576)(hc:rdC b=some (c,r,t)):Calls prog 12 #[v] w fun e w'=> ∃u,e= .returned (.tuple #[u,.int .i64 0])∧Ae w w' u (G5 c)∧Bw w w':=by
 go_enter func12,ntmps12
 refine Ep ?_
 refine Gh ?_;iterate 5 refine AL ?_
 refine Wg ?_;iterate 4 refine AL ?_
 refine Gh ?_;refine Ef ?_;refine Wx ?_;refine SN ?_;iterate 4 refine AL ?_
 refine Gi ?_;refine AL ?_;refine Wx ?_;iterate 2 refine AL ?_
 refine AG ?_;refine AD (Av results12 (Am rfl rfl underlying34 rfl sizeOf34 rfl) (AF rfl)) ?_;intro ρ w' hr;exact⟨_,rfl,gR 9 hr rfl,hr.1⟩
theorem qG{c:Crt}{F:Nat→Prop}{d:Nat}(hL:Laid w)(hK:B6 w)(hH:CQ w)(hb1:7<w.heap.size)(hk:AO w kv c.ky.length 1 (c.ky.map b8) F)(hf:c.Fit)(hrg:C2 c=true)(hsg: ∀w',Bw w w'→Calls prog 58 #[B32 d,B32 (Ed c)] w' fun e w2=>e= .returned (.tuple #[PT r t,.int .i64 0])∧Bw w' w2):Calls prog 30 #[(.agg #[.int .i64 c.se,.string (AB c.is),.string (AB c.su),.int .i64 c.fr,.int .i64 c.to,kv,.bool c.ca,.int .i64 c.pa,.int .i64 c.us]),B32 d] w fun e w'=> ∃v,e= .returned (.tuple #[v,.int .i64 0])∧BN w w' v ((wrT (c.whole r t)).1.length) 1 5 ((wrT (c.whole r t)).1.map b8)∧Bw w w':=by
 go_enter func30,ntmps30
 refine A4 ?_;iterate 10 refine AL ?_
 refine Gi ?_;refine AA (by exact CI hrg rfl gg rfl (eo func57) (fun w' hw'=>WE w' (hL.bw hw') (A5 hk hw') hf.k8 hf.i8 hf.s8 (by have:=hf.il;omega) (by have:=hf.sl;omega))) ?_;refine q_0 ?_;iterate 5 refine q_k ?_
 refine H2 ?_;refine Gi ?_;refine AA (by exact Ad (v:=B32 (Ed c)) rfl gg rfl (eo func47) (fun w' hw'=>by rw[←Vf];exact Ve w' hf (A5 hk hw') (hK.bw hw') (hH.bw hw') (Nat.lt_of_lt_of_le hb1 hw'.size))) ?_;refine AA (by exact Ad (v:= .tuple #[PT r t,.int .i64 0]) rfl gg rfl (eo func58) (fun w' hw'=>hsg w' hw')) ?_;iterate 3 refine AL ?_
 refine Ef ?_;refine SN ?_;iterate 6 refine AL ?_
 refine AA (by exact BB (p:=false) rfl gg rfl rfl (by decide)) ?_;iterate 5 refine q_k ?_
 refine Gi ?_;refine C4 ?_;refine AA (by exact Cs [] rfl rfl gg rfl (eo func59) (n:=(wrT (c.whole r t)).1.length) (size:=1) (l:=(wrT (c.whole r t)).1.map b8) (by simp) (fun ρ S w' hb hR=>VA w' hf (A5 hk hb))) ?_;iterate 3 refine AL ?_
 refine AG ?_;refine AD (Av results30 (AF rfl) (AF rfl)) ?_;intro ρ w' hr;exact⟨_,rfl,B8 hr rfl,hr.1⟩
theorem Ev.datD{o:Oper}{D:Dat}(rd:List Nat)(hgd:AQ ops o s)(h: ∀ρ S w,Bw w0 w→RelOn w0.heap.size ρ S w (restr rd s.mem)→ ∃v S1,(execOp (s.act ρ).eval o).run P w= .ok (.value v) w∧D.holds [v] w S1∧ ∀k,S1 k→ ∃j∈rd,(s.mem j).isSome∧S j k):
 Ev P ops w0 o s ⟨.d id,[(id,.dat D)],[],[id],rd⟩:=
 ⟨by simp[Eff.ok],.inr ⟨hgd,fun ρ S w hb hR=>by
  obtain⟨v,S1,h1,h2,h3⟩:=h ρ S w hb hR;refine .inl ⟨v,w,h1,fun j=>if j=id then⟨0,v⟩else ρ j,fun _=>S1,?_⟩
  have:=Cj (base:=w0.heap.size) (t:=s.mem) (ρ:=ρ) (S:=S) (w:=w) (w':=w) (val:= .d id) (rd:=rd) (up:=[]) (id:=id) (b:= .dat D) (m:=⟨0,v⟩) (S1:=S1)
   rfl rfl rfl (Nat.le_refl _) (fun k hk _=>rfl) (fun ρ' g1 _=>by show D.holds [(ρ' id).val] w S1;rw[g1];exact h2) (fun q hq=> .inl (h3 q hq)) (fun ho=>ho.elim)
  simpa[SV.c] using this⟩⟩
end Go.Proofs.YtafbhakmkbehiaaGreatDoor
