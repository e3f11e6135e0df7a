import Derived.Test.YtefpajmkaaielaaGreatDoorW8
open Go.Proofs.Tryz
set_option maxHeartbeats 4000000
set_option maxRecDepth 100000
namespace Go.Proofs.YtefpajmkaaielaaGreatDoor
open Go.RowKit Go.Vx
variable{ops:Array Oper}{D:Dat}{ls:List (List Nat)}{a k key rd:List Nat}{ys:List SV}{b:List Value}{g gr i id n r size x:Nat}{ρ:Nat→Nm}{S S0 X:Nat→Prop}{o:Oper}{y:Operand}{P:Program}{e:TypeId}{s:VS}{v wv:Value}{w w' w0:World}
open TollSha
open Go.Toll (Gw)
theorem W6{y:Value}{a:Addr}{x:Value}(h:(I5 w X).holds [y] w' S)(hx:w.cell? a=some x)(hX: ¬X a.block):w'.cell? a=some x:=by
 have hb:=World.block_lt_of_cell? _ _ hx;have he:=(h a.block hb hX).1;rw[←hx];simp only[World.cell?,he]
theorem J5{m:Mem}{F:Nat→Prop}{l:List Value}(hm:m id=some (.dat (I5 w X)))(h:AJ w v n size l F)(hF: ∀k,F k→ ¬X k):Rdg (Hy w) m [id] (.v v) n size l:=fun ρ S w' hb hR=>by
 have hD:=Fb hR (List.mem_singleton.2 rfl) hm;obtain⟨ao,cap,h1,h2,h3,h4⟩:=h;refine⟨F,ao,cap,by simp only[SV.c];exact h1,h2,h3,h4.imp _root_.id fun⟨g,a,b,c⟩=>⟨g,a,b,fun i x hx=> ?_⟩⟩;have e:(g.add i).block=g.block:=by unfold Addr.add;split<;>rfl
 exact W6 hD (c i x hx) (by rw[e];exact hF g.block b)
def FQ(w:World)(v:Value)(ls:List (List Nat))(F:Nat→Prop):Prop:=
 ∃vs,AJ w v ls.length 1 vs F∧ ∀(i:Nat) (l:List Nat),ls[i]? =some l→ ∃u,vs[i]? =some u∧AJ w u l.length 1 (l.map b8) F∧ ∀x∈l,x<256
def N9(w:World)(g gr:Nat)(wv:Value)(a:List Nat):Prop:=
 w.heap[g]? =some (.cells (FZ a wv).toArray 190 (0,0))∧Ey w 0 ⟨gr,wv⟩ (stW a).length 1 5 ((stW a).map b8)∧(wv≠Bb→gr≠g)
def StX(g gr:Nat)(wv:Value)(k:Nat):Prop:=k=g∨(wv≠Bb∧k=gr)
def PH(g gr:Nat)(wv:Value):Nat→Nm:=fun k=>if k=801 then⟨g,undef⟩else if k=802 then⟨gr,wv⟩else⟨0,undef⟩
def HN(w:World)(g gr:Nat)(wv:Value)(H:St)(wt:List Nat)(n r:Nat):List (Nat×Blk):=
 [(801,.cells [.v (uv H.a),.v (uv H.b),.v (uv H.c),.v (uv H.d),.v (uv H.e),.v (uv H.f),.v (uv H.g),.v (uv H.h),.d r,.v (.int .i64 (n:Nat))] 190),(r,.row wt.length 1 5 (.exact (wt.map b8))),(803,.dat (I5 w (StX g gr wv))),(804,.pin 801 g),(805,.floor w.heap.size)]
theorem dr(h:N9 w g gr wv a)(fr:List SV):Rel (Hy w) (PH g gr wv) ⟨fr,AK (HN w g gr wv (stH a) (stW a) a.length 802)⟩ w:=by
 obtain⟨h1,h2,h3⟩:=h;refine⟨qp w,fun i k=>i=803∧k<w.heap.size∧ ¬StX g gr wv k,?_⟩
 have cs: ∀i b,AK (HN w g gr wv (stH a) (stW a) a.length 802) i=some b→(i=801∧b= .cells [.v (uv (stH a).a),.v (uv (stH a).b),.v (uv (stH a).c),.v (uv (stH a).d),.v (uv (stH a).e),.v (uv (stH a).f),.v (uv (stH a).g),.v (uv (stH a).h),.d 802,.v (.int .i64 (a.length:Nat))] 190)∨
  (i=802∧b= .row (stW a).length 1 5 (.exact ((stW a).map b8)))∨(i=803∧b= .dat (I5 w (StX g gr wv)))∨(i=804∧b= .pin 801 g)∨(i=805∧b= .floor w.heap.size):=by
  intro i b hb;simp only[HN,AK]at hb;split at hb
  ·injection hb with hb;exact .inl ⟨by assumption,hb.symm⟩
  ·split at hb
   ·injection hb with hb;exact .inr (.inl ⟨by assumption,hb.symm⟩)
   ·split at hb
    ·injection hb with hb;exact .inr (.inr (.inl ⟨by assumption,hb.symm⟩))
    ·split at hb
     ·injection hb with hb;exact .inr (.inr (.inr (.inl ⟨by assumption,hb.symm⟩)))
     ·split at hb
      ·injection hb with hb;exact .inr (.inr (.inr (.inr ⟨by assumption,hb.symm⟩)))
      ·cases hb
 have hg:g<w.heap.size:=(Array.getElem?_eq_some_iff.1 h1).1
 have hgr:wv≠Bb→gr<w.heap.size:=fun hn=>by
  rcases h2 with⟨h2,_⟩|⟨off,cap,cur,fz,_,_,h4,_⟩
  ·exact absurd h2 hn
  ·exact(Array.getElem?_eq_some_iff.1 h4).1
 refine⟨?_,?_,?_,?_,?_⟩
 ·intro i b hb
  rcases cs i b hb with⟨rfl,rfl⟩|⟨rfl,rfl⟩|⟨rfl,rfl⟩|⟨rfl,rfl⟩|⟨rfl,rfl⟩
  ·refine⟨Nat.zero_le _,?_⟩
   show w.heap[g]? =_;rw[h1];rfl
  ·exact⟨(stW a).map b8,by simp,rfl,h2⟩
  ·exact fun k hk hx=>⟨rfl,rfl,hk,hx⟩
  ·rfl
  ·exact Nat.le_refl _
 ·rintro i k _ ⟨_,h,_⟩;exact h
 ·rintro i k _ _;exact Nat.zero_le _
 ·rintro i b j hi ho hj ⟨rfl,h4,h5⟩
  rcases cs i b hi with⟨rfl,rfl⟩|⟨rfl,rfl⟩|⟨rfl,rfl⟩|⟨rfl,rfl⟩|⟨rfl,rfl⟩
  ·exact h5 (.inl rfl)
  ·exact h5 (.inr ⟨ho,rfl⟩)
  ·exact ho
  ·exact ho
  ·exact ho
 ·intro i b j c hi ho hj hc he
  rcases cs i b hi with⟨rfl,rfl⟩|⟨rfl,rfl⟩|⟨rfl,rfl⟩|⟨rfl,rfl⟩|⟨rfl,rfl⟩
  ·rcases cs j c hj with⟨rfl,rfl⟩|⟨rfl,rfl⟩|⟨rfl,rfl⟩|⟨rfl,rfl⟩|⟨rfl,rfl⟩
   ·rfl
   ·exact absurd he.symm (h3 hc)
   ·exact hc.elim
   ·exact hc.elim
   ·exact hc.elim
  ·rcases cs j c hj with⟨rfl,rfl⟩|⟨rfl,rfl⟩|⟨rfl,rfl⟩|⟨rfl,rfl⟩|⟨rfl,rfl⟩
   ·exact absurd he (h3 ho)
   ·rfl
   ·exact hc.elim
   ·exact hc.elim
   ·exact hc.elim
  ·exact ho.elim
  ·exact ho.elim
  ·exact ho.elim
theorem TN{base:Nat}{S:Nat→Nat→Prop}{m:Mem}(rd':List Nat)(hs: ∀i∈rd',i∈rd)(hR:RelOn base ρ S w (restr rd m)):RelOn base ρ S w (restr rd' m):=by
 have e:restr rd' (restr rd m)=restr rd' m:=by
  funext k
  unfold restr;by_cases h:k∈rd'
  ·rw[if_pos h,if_pos h,if_pos (hs k h)]
  ·rw[if_neg h,if_neg h]
 rw[←e];exact hR.restr rd'
def aI(a:List Nat)(ls:List (List Nat))(i:Nat):List Nat:=a++(ls.take i).flatten
def mO(w:World)(g gr:Nat)(wv:Value)(a:List Nat)(ls:List (List Nat))(i:Nat):List (Nat×Blk):=HN w g gr wv (stH (aI a ls i)) (stW (aI a ls i)) (aI a ls i).length 802
theorem nk{r:TypeId}{x:Operand}{off:Nat}(ho:o.op= .binOp .eql 159 x y r)(hgd:AR ops o s)(hx:AC s x= .p id off)(hy:AC s y= .v (.pointer none)):Ev prog ops w0 o s ⟨.v (.bool false),[],[],[],[]⟩:=
 Ev.run _ _ hgd fun ρ S w hb hR=>by
  have e1:=AH s ρ x;rw[hx]at e1;have e2:=AH s ρ y;rw[hy]at e2;simp only[SV.c]at e1 e2;have h:=Tv ⟨(ρ id).g,off,none⟩ x y w;simp only[execOp,ho,e1,e2,SV.c];rw[Sem.run_bind,h];rfl
theorem gF{p:List Nat}:64*nb a≤(a++p).length:=by have:=Ii a;rw[List.length_append];omega
theorem uq{y:Value}(hL:Au w)(hX: ¬StX g gr wv 8)(h:(I5 w (StX g gr wv)).holds [y] w' S):Au w':=fun i hi=>W6 h (hL i hi) hX
theorem ub{F:Nat→Prop}(hL:Au w)(hX1: ¬StX g gr wv 8)(hs:N9 w g gr wv a)(hp:FQ w v ls F)(hFX: ∀k,F k→ ¬StX g gr wv k)(ha8: ∀x∈a,x<256)(hlt:(a++ls.flatten).length<1048576)(hln:ls.length≤1048576):
 Calls prog 88 #[.pointer (some ⟨g,0,none⟩),v] w fun e w'=>e= .returned (.tuple #[])∧Bw (Hy w) w'∧ ∃gr' wv',N9 w' g gr' wv' (a++ls.flatten)∧(∀k,k<w.heap.size→ ¬StX g gr wv k→w'.heap[k]? =w.heap[k]?)∧(wv'≠Bb→StX g gr wv gr'∨w.heap.size≤gr')∧w.heap.size≤w'.heap.size:=by
 obtain⟨vs,hvs,hel⟩:=hp
 have hfl: ∀i,((ls.take i).flatten).length≤(ls.flatten).length:=fun i=>by
  have:ls.flatten=(ls.take i).flatten++(ls.drop i).flatten:=by rw[←List.flatten_append,List.take_append_drop]
  rw[this,List.length_append];omega
 have hlen: ∀i,(aI a ls i).length<1048576:=fun i=>by have:=hfl i;unfold aI;rw[List.length_append]at hlt ⊢; omega
 have hall: ∀i,∀x∈aI a ls i,x<256:=fun i x hx=>by
  rcases List.mem_append.1 hx with hx|hx
  ·exact ha8 x hx
  ·obtain⟨l,hl,hx⟩:=List.mem_flatten.1 hx
   obtain⟨j,hj⟩:=List.getElem?_of_mem (List.mem_of_mem_take hl);obtain⟨_,_,_,h8⟩:=hel j l hj;exact h8 x hx
 go_enter func88,ntmps88
 refine Z1 (PH g gr wv) (by simp[SV.c,PH]) (dr hs [.p 801 0,.v v,.v undef,.v undef,.v undef,.v undef,.v undef,.v undef,.v undef,.v undef,.v undef,.v undef,.v undef,.v undef,.v undef,.v undef,.v undef,.v undef,.v undef,.v undef,.v undef,.v undef,.v undef,.v undef,.v undef,.v undef,.v undef,.v undef,.v undef,.v undef,.v undef,.v undef,.v undef,.v undef,.v undef,.v undef,.v undef,.v undef,.v undef,.v undef,.v undef,.v undef,.v undef,.v undef,.v undef,.v undef,.v undef,.v undef,.v undef,.v undef,.v undef,.v undef,.v undef,.v undef,.v undef,.v undef,.v undef,.v undef,.v undef,.v undef]) ?_;simp only[HN];iterate 4 refine k_k ?_
 refine k_s (by exact nk rfl gg rfl rfl) ?_;iterate 6 refine k_k ?_
 refine k_s (by exact BM rfl gg rfl underlying32 (J5 (id:=803) rfl hvs hFX)) ?_;iterate 3 refine k_k ?_
 refine B7 (α:={x:Nat // x≤ls.length}) (fun(x:{x:Nat // x≤ls.length}) f=>⟨.p 801 0::fv f 7 1 (.v v:: .v (.int .i64 (ls.length:Nat)):: .v (.int .i64 (x.1:Nat))::fv f 49 11 []),AK (mO w g gr wv a ls x.1)⟩) (fun x=>ls.length-x.1) ?_ (⟨0,Nat.zero_le _⟩) ?_
 ·rintro⟨i,hi⟩ f
  obtain⟨q,h_q⟩: ∃q,decide (i<ls.length)=q:=⟨_,rfl⟩
  have h_q':=(Cw i ls.length).trans h_q;simp only[mO,HN];change VOk _ _ _ _ _;simp only[fv,Nat.reduceAdd];iterate 2 refine k_k ?_
  refine k_s (by exact A4 rfl gg rfl rfl h_q') ?_;iterate 2 refine k_k ?_
  cases q
  ·refine k_k ?_
   have hie:i=ls.length:=by have:=of_decide_eq_false h_q;omega
   subst hie;refine Aq ?_;refine eR (dD results88) ?_;intro ρ w' hr;refine⟨rfl,hr.1,?_⟩;obtain⟨hb,S1,hR⟩:=hr;have g1:=hR.good 801 _ rfl;have g2:=hR.good 802 _ rfl;have g3:=hR.good 803 _ rfl;have g4:(ρ 801).g=g:=hR.good 804 _ rfl;have eA:aI a ls ls.length=a++ls.flatten:=by unfold aI;rw[List.take_length]
   rw[eA]at g1 g2;obtain⟨xs,x1,x2,x3⟩:=g2;have x2':xs=_:=x2;subst x2';refine⟨(ρ 802).g,(ρ 802).val,⟨?_,x3,fun hn he=> ?_⟩,fun k hk hX=>(g3 k hk hX).1,fun hn=> ?_,hR.good 805 _ rfl⟩
   ·have h:=g1.2
    rw[g4]at h;rw[h];rfl
   ·exact absurd (hR.inj 802 _ 801 _ rfl hn rfl True.intro (he.trans g4.symm)) (by decide)
   ·by_cases hX:StX g gr wv (ρ 802).g
    ·exact .inl hX
    ·right
     apply Classical.byContradiction;intro hlt';exact hR.dis 802 _ 803 rfl hn rfl (g3 (ρ 802).g (by omega) hX).2
  ·refine k_k ?_
   have hlt:i<ls.length:=of_decide_eq_true h_q;obtain⟨l,hl⟩: ∃l,ls[i]? =some l:=⟨ls[i],List.getElem?_eq_getElem hlt⟩
   obtain⟨u,hu1,hu2,hu8⟩:=hel i l hl;obtain⟨Ai,hAi⟩: ∃Ai,(aI a ls i)=Ai:=⟨_,rfl⟩
   obtain⟨Ab,hAb⟩: ∃Ab,Ai++l=Ab:=⟨_,rfl⟩
   have hnx:(aI a ls (i+1))=Ab:=by rw[←hAb,←hAi];unfold aI;rw[F8 hl];simp
   have hA8: ∀x∈Ab,x<256:=by rw[←hnx];exact hall _
   have hAl:Ab.length<1048576:=by rw[←hnx];exact hlen _
   have hAbl:Ab.length=Ai.length+l.length:=by rw[←hAb,List.length_append]
   have hnbA:64*nb Ai≤Ab.length:=by rw[←hAb];exact gF
   have hst:stH Ai=A7 H0 Ab (nb Ai):=by rw[←hAb];exact bh Ai l
   have hwt:(stW Ai).map b8++l.map b8=(Ab.drop (64*nb Ai)).map b8:=by rw[←List.map_append,bZ,hAb]
   have hwl:(stW Ai).length+l.length=Ab.length-64*nb Ai:=by have:=congrArg List.length hwt;simp only[List.length_append,List.length_map,List.length_drop]at this;exact this
   have hwlt:=Sz Ai;rw[hAi];iterate 5 refine k_k ?_
   refine k_s (by exact BU (k:=i) rfl gg rfl rfl underlying32 sizeOf26 (J5 (id:=803) rfl hvs hFX) (of_decide_eq_true h_q) (by decide)) ?_;refine k_s (by exact B5 rfl gg rfl underlying26 rfl (J5 (id:=803) rfl hvs hFX) hu1) ?_;iterate 6 refine k_k ?_
   refine QM ?_;refine lA ?_;refine k_k ?_;refine k_s (by exact BM rfl gg rfl underlying26 (J5 (id:=803) rfl hu2 hFX)) ?_;refine k_s (by exact A2 (c:=((Ai.length+l.length:Nat):Int)) rfl gg rfl rfl (by rw[Af (by omega) (by omega)];omega)) ?_;refine k_k ?_;refine QM ?_;refine k_s (by exact Be rfl gg rfl rfl rfl sizeOf3 rfl (by simp) rfl) ?_;iterate 6 refine k_k ?_
   refine HZ ?_;refine Mv ?_;refine k_k ?_;refine k_s (by exact C1 rfl rfl gg rfl rfl rfl (J5 (id:=803) rfl hu2 hFX) underlying26 el5 (by decide) (by simp) (DG _) (by simp only[maxLen];omega) (by omega) (by simp)) ?_;refine k_k ?_;refine HZ ?_;refine Vt ?_;iterate 2 refine k_k ?_
   refine B7 (α:={x:Nat // 64*x≤Ab.length}) (fun(x:{x:Nat // 64*x≤Ab.length}) f=>⟨.p 801 0::fv f 7 1 (.v v:: .v (.int .i64 (ls.length:Nat)):: .v (.int .i64 (i:Nat))::fv f 49 11 []),AK [(801,.cells [.v (uv (A7 H0 Ab x.1).a),.v (uv (A7 H0 Ab x.1).b),.v (uv (A7 H0 Ab x.1).c),.v (uv (A7 H0 Ab x.1).d),.v (uv (A7 H0 Ab x.1).e),.v (uv (A7 H0 Ab x.1).f),.v (uv (A7 H0 Ab x.1).g),.v (uv (A7 H0 Ab x.1).h),.d 802,.v (.int .i64 (Ab.length:Nat))] 190),(802,.row (Ab.length-64*x.1) 1 5 (.exact ((Ab.drop (64*x.1)).map b8))),(803,.dat (I5 w (StX g gr wv))),(804,.pin 801 g),(805,.floor w.heap.size)]⟩) (fun x=>Ab.length-64*x.1) ?_ (⟨nb Ai,hnbA⟩) ?_
   ·rintro⟨m,hm2⟩ f
    obtain⟨q2,h_q2⟩: ∃q,decide (((Ab.length-64*m:Nat):Int)≥((64:Nat):Int))=q:=⟨_,rfl⟩
    obtain⟨H,hH⟩: ∃H,A7 H0 Ab m=H:=⟨_,rfl⟩
    rw[hH];change VOk _ _ _ _ _;simp only[fv,Nat.reduceAdd];iterate 5 refine k_k ?_
    refine HZ ?_;refine Mv ?_;refine EM ?_;refine k_s (by exact Dh rfl gg rfl rfl h_q2) ?_;refine k_k ?_;cases q2
    ·refine k_k ?_
     have hme:m=nb Ab:=ow hm2 (by rw[List.length_drop];have:=of_decide_eq_false h_q2;omega);subst hme;have hHs:stH Ab=H:=hH;have hWs:stW Ab=Ab.drop (64*nb Ab):=rfl;refine Aq ?_;change VOk _ _ _ _ _;refine k_k ?_;refine FG ?_;iterate 2 refine k_k ?_
     refine⟨⟨i+1,by omega⟩,by show ls.length-(i+1)<ls.length-i;omega,?_⟩;simp only[hnx,hHs,hWs,List.length_drop];exact Al (fun i=>i==0||i==8||i==9||i==10) []
    ·iterate 8 refine k_k ?_
     refine QO ?_;refine P7 ?_;iterate 2 refine k_k ?_
     refine HZ ?_;refine Mv ?_;refine k_s (by exact Hl (a:=0) (b:=64) (size:=1) rfl gg rfl underlying26 sizeOf5 (BI rfl) rfl rfl (by decide) (show 64≤Ab.length-64*m by have:=of_decide_eq_true h_q2;omega)) ?_;refine k_s (by exact Aj (v:= .agg #[uv (TollSha.press H ((Ab.drop (64*m)).take 64)).a,uv (TollSha.press H ((Ab.drop (64*m)).take 64)).b,uv (TollSha.press H ((Ab.drop (64*m)).take 64)).c,uv (TollSha.press H ((Ab.drop (64*m)).take 64)).d,uv (TollSha.press H ((Ab.drop (64*m)).take 64)).e,uv (TollSha.press H ((Ab.drop (64*m)).take 64)).f,uv (TollSha.press H ((Ab.drop (64*m)).take 64)).g,uv (TollSha.press H ((Ab.drop (64*m)).take 64)).h]) [802,803] rfl gg rfl (eo func116) (fun ρ S w' hb hR=>by have hD:=Fb (id:=803) hR (by simp) rfl;obtain⟨S0,s0⟩:=TW (lo:=0) (hi:=64) (n':=64) (l':=((Ab.drop (64*m)).take 64).map b8) (BI (id:=802) rfl) (Nat.zero_le _) (show 64≤Ab.length-64*m by have:=of_decide_eq_true h_q2;omega) (by rw[Nat.mul_one,Nat.mul_one,List.drop_zero,Nat.sub_zero,List.map_take]) rfl ρ S w' hb (TN [802] (by simp) hR);exact Tx H w' (uq hL hX1 hD) s0 (by rw[List.length_take,List.length_drop];have:=(show 64≤Ab.length-64*m by have:=of_decide_eq_true h_q2;omega);omega) (fun x hx=>hA8 x (List.mem_of_mem_drop (List.mem_of_mem_take hx))))) ?_;refine k_k ?_;refine QO ?_;refine My ?_;iterate 5 refine k_k ?_
     refine HZ ?_;refine Mv ?_;refine k_s (by exact XN (a:=64) (m:=Ab.length-64*(m+1)) (l':=(Ab.drop (64*(m+1))).map b8) rfl rfl gg rfl rfl underlying26 sizeOf5 rfl (show 64≤Ab.length-64*m by have:=of_decide_eq_true h_q2;omega) (by rw[←List.map_drop,Xm]) (by simp) (by omega)) ?_;refine k_k ?_;refine HZ ?_;refine Vt ?_;refine k_k ?_;have h64:64≤Ab.length-64*m:=by have:=of_decide_eq_true h_q2;omega
     refine⟨⟨m+1,by omega⟩,by show Ab.length-64*(m+1)<Ab.length-64*m;omega,?_⟩;have e3:TollSha.press H ((Ab.drop (64*m)).take 64)=A7 H0 Ab (m+1):=by rw[←hH];rfl
     rw[e3];exact(Al (fun i=>i==0||i==8||i==9||i==10) []).trans2 (fun f=>Ct.trans2 (Le (a:=(56,_)) (b:=(801,_)) (show(56:Nat)≠801 by decide)) (fun _=>DI 56 802 (by decide) rfl))
   ·rw[hst,hwt,hwl,←hAbl]
    exact(Al (fun i=>i==0||i==8||i==9||i==10) []).trans2 (fun f=>Ct.trans2 (Le (a:=(29,_)) (b:=(801,_)) (show(29:Nat)≠801 by decide)) (fun _=>DI 29 802 (by decide) rfl))
 ·refine(Al (fun i=>i==0||i==8||i==9||i==10) []).trans2 (fun f=>OF (fun _=>undef) ?_)
  simp[fv,CC,BS,mO,HN,aI]
def BD(w:World):Prop:= ∀j v,([uv H0.a,uv H0.b,uv H0.c,uv H0.d,uv H0.e,uv H0.f,uv H0.g,uv H0.h]:List Value)[j]? =some v→w.cell? ⟨6,j,none⟩=some v
theorem BD.bw(h:BD w)(hb:Bw w w'):BD w':=fun j v hj=>hb.cell (h j v hj)
theorem bf:stH []=H0:=rfl
theorem rB(h:List Value)(hh:h=[uv H0.a,uv H0.b,uv H0.c,uv H0.d,uv H0.e,uv H0.f,uv H0.g,uv H0.h]):prog.built 190 [(0,.agg h.toArray)]=some #[uv H0.a,uv H0.b,uv H0.c,uv H0.d,uv H0.e,uv H0.f,uv H0.g,uv H0.h,.slice none 0 0,.int .i64 0]:=by subst hh;kernel_rfl
def stL(H:St)(r n:Nat):List SV:=[.v (uv H.a),.v (uv H.b),.v (uv H.c),.v (uv H.d),.v (uv H.e),.v (uv H.f),.v (uv H.g),.v (uv H.h),.d r,.v (.int .i64 (n:Nat))]
section
variable{w0:World}{ops:Array Oper}{o:Oper}{s:VS}
theorem XT(r:Nat)(hir:r≠id)(hL:BD w0)(hNew: ∀w,BD w→Calls prog 87 #[] w fun e w'=> ∃g,e= .returned (.pointer (some ⟨g,0,none⟩))∧w.heap.size≤g∧w'.heap[g]? =some (.cells (FZ [] Bb).toArray 190 (0,0))∧Bw w w')
 (_hd:o.dst=some id)(ho:o.op= .call {callee:= .value (.func 87),args:= #[],argTypes:= #[]})(hgd:AR ops o s)(_he: ∀args w,(callFunc 87 args).run prog w= .ok (.enter 87 args) w):
 Ev prog ops w0 o s ⟨.p id 0,[(id,.cells (stL H0 r 0) 190),(r,.row 0 1 5 (.exact []))],[],[id,r],[]⟩:=by
 refine⟨by simp[Eff.ok],.inr ⟨hgd,fun ρ S w hb hR=> .inr (.inr ⟨87,#[],?_,(hNew w (hL.bw hb)).mono fun e w' ⟨g,h1,h2,h3,h4⟩=>⟨_,h1,fun k=>if k=id then⟨g,undef⟩else if k=r then⟨0,Bb⟩else ρ k,fun _ _=>False,?_⟩⟩)⟩⟩
 ·obtain⟨dst,op,type,pos,after,guard⟩:=o
  simp only at ho;subst ho;rw[execOp_call_go];simp
 ·have cs: ∀i b,AK [(id,Blk.cells (stL H0 r 0) 190),(r,.row 0 1 5 (.exact []))] i=some b→(i=id∧b= .cells (stL H0 r 0) 190)∨(i=r∧b= .row 0 1 5 (.exact [])):=by
   intro i b h;simp only[AK]at h;split at h
   ·injection h with h;exact .inl ⟨by assumption,h.symm⟩
   ·split at h
    ·injection h with h;exact .inr ⟨by assumption,h.symm⟩
    ·cases h
  refine⟨by simp[SV.c],fun i hi=> ?_,h4.os,h4.tape,h4.output,h4.size,fun k hk _=>h4.block k hk,?_,fun _ _ _ h=>h.elim,?_,?_⟩
  ·simp only[List.mem_cons,List.not_mem_nil,or_false,not_or]at hi
   rw[if_neg hi.1,if_neg hi.2]
  ·intro i b h
   rcases cs i b h with⟨rfl,rfl⟩|⟨rfl,rfl⟩
   ·refine⟨by simp only[if_true];exact Nat.le_trans hb.size h2,?_⟩
    simp only[if_true];rw[h3];simp[Cb,stL,SV.cs,SV.c,FZ,hir,bf]
   ·exact⟨[],rfl,rfl,.inl ⟨by simp[hir,Bb],rfl⟩⟩
  ·intro i b h hob
   rcases cs i b h with⟨rfl,rfl⟩|⟨rfl,rfl⟩
   ·exact .inr ⟨by simp only[if_true];exact h2,fun _ _ h=>h⟩
   ·exact absurd (by simp[hir,Bb]) hob
  ·intro i b j c hi hob hj hoc _
   rcases cs i b hi with⟨rfl,rfl⟩|⟨rfl,rfl⟩
   ·rcases cs j c hj with⟨rfl,rfl⟩|⟨rfl,rfl⟩
    ·rfl
    ·exact absurd (by simp[hir,Bb]) hoc
   ·exact absurd (by simp[hir,Bb]) hob
theorem Qn{wl:Nat}(r2:Nat){x:Operand}{sy:SV}(rd:List Nat)(h2:r2≠id)(hL:Au w0)(hb1:8<w0.heap.size)
 (ho:o.op= .call {callee:= .value (.func 88),args:= #[x,y],argTypes:= #[159,32]})(hgd:AR ops o s)(_he: ∀args w,(callFunc 88 args).run prog w= .ok (.enter 88 args) w)
 (hx:AC s x= .p id 0)(hy:AC s y=sy)(hm1:s.mem id=some (.cells (stL (stH a) r n) 190))(hm2:s.mem r=some (.row wl 1 5 (.exact ((stW a).map b8))))(hn:n=a.length)(hw:wl=(stW a).length)(hi:id∈rd)(hr:r∈rd)
 (hp: ∀ρ S w,Bw w0 w→RelOn w0.heap.size ρ S w (restr rd s.mem)→ ∃F,FQ w (sy.c ρ) ls F∧ ∀k,F k→k≠(ρ id).g∧((ρ r).val≠Bb→k≠(ρ r).g))
 (ha8: ∀x∈a,x<256)(hlt:(a++ls.flatten).length<1048576)(hln:ls.length≤1048576):
 Ev prog ops w0 o s ⟨.v (.tuple #[]),[(id,.cells (stL (stH (a++ls.flatten)) r2 (a++ls.flatten).length) 190),(r2,.row (stW (a++ls.flatten)).length 1 5 (.exact ((stW (a++ls.flatten)).map b8)))],[id,r],[r2],rd⟩:=by
 subst hn hw;refine⟨by simp[Eff.ok,hi,hr],.inr ⟨hgd,fun ρ S w hb hR=> ?_⟩⟩;obtain⟨F,hP,hF⟩:=hp ρ S w hb hR;have g1:=A6 hR hm1 hi;obtain⟨xs,x1,x2,x3⟩:=A6 hR hm2 hr;have x2':xs=(stW a).map b8:=x2;subst x2';have hin: ∀j,j∈rd→restr rd s.mem j=s.mem j:=fun j hj=>by unfold restr;rw[if_pos hj]
 have hne:(ρ r).val≠Bb→(ρ r).g≠(ρ id).g:=fun hv he=>by
  have:=hR.inj r _ id _ ((hin r hr).trans hm2) hv ((hin id hi).trans hm1) True.intro he;subst this;rw[hm1]at hm2;cases hm2
 have hst:N9 w (ρ id).g (ρ r).g (ρ r).val a:=by
  refine⟨?_,?_,hne⟩
  ·rw[g1.2];rfl
  ·rcases x3 with x3|⟨off,cap,cur,fz,a1,_,a3⟩
   ·exact .inl x3
   ·exact .inr ⟨off,cap,cur,fz,a1,Nat.zero_le _,a3⟩
 have hX1: ¬StX (ρ id).g (ρ r).g (ρ r).val 8:=by
  rintro(h|⟨hv,h⟩)
  ·have:=g1.1;omega
  ·rcases x3 with⟨x3,_⟩|⟨_,_,_,_,_,a2,_⟩
   ·exact hv x3
   ·have:w0.heap.size≤(ρ r).g:=a2
    omega
 refine .inr (.inr ⟨88,#[.pointer (some ⟨(ρ id).g,0,none⟩),sy.c ρ],?_,(ub (hL.bw hb) hX1 hst hP (fun k hk hX=> ?_) ha8 hlt hln).mono fun e w' ⟨h1,h3,gr',wv',h4,h5,h6,h7⟩=>⟨_,h1,fun k=>if k=r2 then⟨gr',wv'⟩else ρ k,fun _ _=>False,?_⟩⟩)
 ·have e1:=AH s ρ x
  rw[hx]at e1;have e2:=AH s ρ y;rw[hy]at e2;obtain⟨dst,op,type,pos,after,guard⟩:=o;simp only at ho;subst ho;rw[execOp_call_go];simp[e1,e2,SV.c]
 ·rcases hX with hX|⟨hv,hX⟩
  ·exact(hF k hk).1 hX
  ·exact(hF k hk).2 hv hX
 ·obtain⟨A,hA⟩: ∃A,a++ls.flatten=A:=⟨_,rfl⟩
  rw[hA]at h4⊢
  have cs: ∀i b,AK [(id,Blk.cells (stL (stH A) r2 A.length) 190),(r2,.row (stW A).length 1 5 (.exact ((stW A).map b8)))] i=some b→(i=id∧b= .cells (stL (stH A) r2 A.length) 190)∨(i=r2∧b= .row (stW A).length 1 5 (.exact ((stW A).map b8))):=by
   intro i b h;simp only[AK]at h;split at h
   ·injection h with h;exact .inl ⟨by assumption,h.symm⟩
   ·split at h
    ·injection h with h;exact .inr ⟨by assumption,h.symm⟩
    ·cases h
  have hbase:wv'≠Bb→w0.heap.size≤gr':=fun hv=>by
   rcases h6 hv with(h|⟨hv2,h⟩)|h
   ·rw[h];exact g1.1
   ·rcases x3 with⟨x3,_⟩|⟨_,_,_,_,_,a2,_⟩
    ·exact absurd x3 hv2
    ·rw[h];exact a2
   ·exact Nat.le_trans hb.size h
  refine⟨by simp[SV.c],fun i hi=> ?_,h3.os,h3.tape,h3.output,h7,fun k hk hup=>h5 k hk ?_,?_,fun _ _ _ h=>h.elim,?_,?_⟩
  ·simp only[List.mem_singleton]at hi
   rw[if_neg hi]
  ·rintro(h|⟨hv,h⟩)
   ·exact hup id (by simp) _ hm1 True.intro h.symm
   ·exact hup r (by simp) _ hm2 hv h.symm
  ·intro i b h
   rcases cs i b h with⟨rfl,rfl⟩|⟨rfl,rfl⟩
   ·refine⟨by simp only[if_neg (Ne.symm h2)];exact g1.1,?_⟩
    simp only[if_neg (Ne.symm h2)];rw[h4.1];simp[Cb,stL,SV.cs,SV.c,FZ]
   ·refine⟨(stW A).map b8,by simp,rfl,?_⟩
    simp only[if_true];rcases h4.2.1 with h|⟨off,cap,cur,fz,a1,a2,a3⟩
    ·exact .inl h
    ·exact .inr ⟨off,cap,cur,fz,a1,hbase (by show wv'≠Bb;have:wv'=_:=a1;rw[this];simp[Bb]),a3⟩
  ·intro i b h hob
   rcases cs i b h with⟨rfl,rfl⟩|⟨rfl,rfl⟩
   ·exact .inl ⟨i,by simp,_,hm1,True.intro,by simp only[if_neg (Ne.symm h2)]⟩
   ·have hv:wv'≠Bb:=by simpa[Blk.owns,Bb] using hob
    simp only[if_true];rcases h6 hv with(h|⟨hv2,h⟩)|h
    ·exact absurd h (h4.2.2 hv)
    ·exact .inl ⟨r,by simp,_,hm2,hv2,h.symm⟩
    ·exact .inr ⟨h,fun _ _ h=>h⟩
  ·intro i b j c hi hob hj hoc he
   rcases cs i b hi with⟨rfl,rfl⟩|⟨rfl,rfl⟩
   ·rcases cs j c hj with⟨rfl,rfl⟩|⟨rfl,rfl⟩
    ·rfl
    ·have hv:wv'≠Bb:=by simpa[Blk.owns,Bb] using hoc
     simp only[if_true,if_neg (Ne.symm h2)]at he;exact absurd he.symm (h4.2.2 hv)
   ·rcases cs j c hj with⟨rfl,rfl⟩|⟨rfl,rfl⟩
    ·have hv:wv'≠Bb:=by simpa[Blk.owns,Bb] using hob
     simp only[if_true,if_neg (Ne.symm h2)]at he;exact absurd he (h4.2.2 hv)
    ·rfl
end
theorem ZX(w:World)(hH:BD w):Calls prog 87 #[] w fun e w'=> ∃g,e= .returned (.pointer (some ⟨g,0,none⟩))∧w.heap.size≤g∧w'.heap[g]? =some (.cells (FZ [] Bb).toArray 190 (0,0))∧Bw w w':=by
 go_enter func87,ntmps87
 refine AO ?_;iterate 6 refine k_k ?_
 refine k_s (by exact CS (vs:=[uv H0.a,uv H0.b,uv H0.c,uv H0.d,uv H0.e,uv H0.f,uv H0.g,uv H0.h]) rfl gg rfl underlying188 rfl sizeOf188 (fun j v hj=>(by rw[Nat.zero_add];exact hH j v hj)) rfl) ?_;refine k_s (by exact Ar rfl gg rfl (rB _ rfl)) ?_;iterate 3 refine k_k ?_
 refine AG ?_;refine AD (AM results87 (AE rfl)) ?_;intro ρ w' hr;refine⟨(ρ 3).g,rfl,?_,?_,hr.1⟩
 ·obtain⟨hb,S1,hR⟩:=hr
  exact(hR.good 3 _ rfl).1
 ·obtain⟨hb,S1,hR⟩:=hr
  exact(hR.good 3 _ rfl).2
theorem T2{F:Nat→Prop}(h:FQ w v ls F)(hb:Bw w w'):FQ w' v ls F:=by
 obtain⟨vs,h1,h2⟩:=h;refine⟨vs,Aa h1 hb,fun i l hl=> ?_⟩;obtain⟨u,h3,h4,h5⟩:=h2 i l hl;exact⟨u,h3,Aa h4 hb,h5⟩
theorem YU{S:Nat→Nat→Prop}{m:Mem}{wl:Nat}(hR:RelOn w0.heap.size ρ S w (restr rd m))(hid:id∈rd)(hr:r∈rd)(hm1:m id=some (.cells (stL (stH a) r n) 190))(hm2:m r=some (.row wl 1 5 (.exact ((stW a).map b8))))(hn:n=a.length)(hw:wl=(stW a).length)(hL:Au w)(h8: ∀x∈a,x<256)(hm:a.length<1048576):
 CBy 89 (SV.cs ρ [.p id 0]).toArray w (.agg ((sha a).map b8).toArray):=by
 subst hn hw;have g1:=A6 hR hm1 hid;obtain⟨xs,x1,x2,x3⟩:=A6 hR hm2 hr;have x2':xs=(stW a).map b8:=x2;subst x2';have hs:ZQ w (ρ id).g (ρ r).val a:=fun j v hj=>Hr (l:=FZ a (ρ r).val) (ty:=190) (by rw[g1.2];rfl) hj
 simp only[SV.cs,SV.c];exact uS w hL hs (DL x3 x1) h8 hm
theorem ra{base:Nat}{S:Nat→Nat→Prop}{m:Mem}{l:List SV}{ty:TypeId}{F:Nat→Prop}(hR:RelOn base ρ S w (restr rd m))(hid:id∈rd)(hr:r∈rd)(hm1:m id=some (.cells l ty))(hm2:m r=some (.row n 1 5 D))(hF: ∀k,F k→k<base): ∀k,F k→k≠(ρ id).g∧((ρ r).val≠Bb→k≠(ρ r).g):=fun k hk=>by
 have h0:=hF k hk;have g1:=(A6 hR hm1 hid).1;obtain⟨xs,_,_,x3⟩:=A6 hR hm2 hr;refine⟨fun h=>by omega,fun hv h=> ?_⟩;rcases x3 with⟨x3,_⟩|⟨_,_,_,_,_,a2,_⟩
 ·exact hv x3
 ·have:base≤(ρ r).g:=a2
  omega
theorem W9{F:Nat→Prop}(h:FQ w v ls F): ∀x∈ls.flatten,x<256:=fun x hx=>by
 obtain⟨vs,_,h2⟩:=h;obtain⟨l,hl,hx⟩:=List.mem_flatten.1 hx;obtain⟨j,hj⟩:=List.getElem?_of_mem hl;obtain⟨_,_,_,h8⟩:=h2 j l hj;exact h8 x hx
theorem ZW{F:Nat→Prop}(w:World)(hL:Au w)(hH:BD w)(hb1:8<w.heap.size)(hp:FQ w v ls F)(hF: ∀k,F k→k<w.heap.size)(hlt:ls.flatten.length<1048576)(hln:ls.length≤1048576):CBy 48 #[v] w (.agg ((sha ls.flatten).map b8).toArray):=by
 go_enter func48,ntmps48
 refine AO ?_;iterate 2 refine k_k ?_
 refine Ko ?_;iterate 3 refine k_k ?_
 refine k_s (by exact XT 700 (by decide) hH (fun w h=>ZX w h) rfl rfl gg (eo func87)) ?_;iterate 6 refine k_k ?_
 refine k_s (by exact Qn (id:=4) (r:=700) (n:=0) (wl:=0) (a:=[]) (ls:=ls) 701 [4,700] (by decide) hL hb1 rfl gg (eo func88) rfl rfl rfl rfl rfl rfl (by simp) (by simp) (fun ρ S w' hb hR=>⟨F,T2 hp hb,ra (id:=4) (r:=700) hR (by simp) (by simp) rfl rfl hF⟩) (fun x hx=>by cases hx) hlt hln) ?_;iterate 4 refine k_k ?_
 refine k_s (by exact Aj (v:= .agg ((sha ls.flatten).map b8).toArray) [4,701] rfl gg rfl (eo func89) (fun ρ S w' hb hR=>YU (id:=4) (r:=701) (a:=ls.flatten) hR (by simp) (by simp) rfl rfl rfl rfl (hL.bw hb) (W9 hp) hlt)) ?_;refine k_s (by exact EA (l':=(sha ls.flatten).map b8) rfl gg rfl rfl rfl sizeOf46 (by simp[Value.cells,sha_len]) (by rw[EU (by simp)];decide) (by show((sha ls.flatten).map b8).toArray.toList.all _=true;exact DG _) (by rw[List.take_zero,List.nil_append,List.drop_of_length_le (by rw[EU (by simp)];decide),List.append_nil];simp[Value.cells])) ?_;refine k_k ?_;refine AG ?_;refine AD (AM results48 (IT (vs:=(sha ls.flatten).map b8) rfl rfl underlying46 rfl sizeOf46 (List.take_of_length_le (by simp[sha_len])) (by simp[sha_len]))) ?_;intro ρ w' hr;exact⟨rfl,hr.1⟩
theorem cW(w:World)(dT sT ty elem:TypeId)(ad:Option Addr)(n cap:Nat)(ao:Option Addr)(sc:Nat)(hu:prog.underlying dT=some (.slice elem))(hs:(prog.info? elem).map (·.size)=some 1):
 (Builtin.copy_ #[dT,sT] ty #[.slice ad n cap,.slice ao 0 sc]).run prog w= .ok (goInt 0) w:=by
 cases hq:prog.info? elem with
 |none=>simp[hq]at hs
 |some i=>
  have hi:i.size=1:=by simpa[hq] using hs
  cases ao<;>cases ad<;>simp[Builtin.copy_,run_underlying hu,Builtin.lenOf,Builtin.firstCells,sizeOf,typeInfo,hq,loadCells,loadCellsFrom,storeCells]
theorem oM{dT sT:TypeId}{x:Operand}{l news:List Value}(ho:o.op= .call {callee:= .builtin .copy,args:= #[x,y],argTypes:= #[dT,sT]})(hgd:AR ops o s)
 (hx:AC s x= .d id)(hm:s.mem id=some (.row n 1 e (.exact l)))(hy:AC s y= .v v)(hr:AJ w0 v 0 1 news S0)(hu:prog.underlying dT=some (.slice e))(hs:(prog.info? e).map (·.size)=some 1)(_hpos:0<n):
 Ev prog ops w0 o s ⟨.v (.int .i64 0),[],[],[],[id]⟩:=
 Ev.run _ _ hgd fun ρ S w hb hR=>by
  have e1:=AH s ρ x;rw[hx]at e1;have e2:=AH s ρ y;rw[hy]at e2;obtain⟨xs,hxl,hxe,hrow⟩:=A6 hR hm (by simp);obtain⟨ao,sc,rfl,_,_,_⟩:=hr;obtain⟨ad,cap,h1,_⟩:=DL hrow hxl;simp only[SV.c]at e1 e2;rw[h1]at e1;have hrun:=cW w dT sT o.type e ad n cap ao sc hu hs;unfold execOp;simp only[ho,resolve,invoke,builtin,Sem.run_bind,Sem.run_pure,Result.andThen_ok,List.map_toArray,List.map_cons,List.map_nil,e1,e2,hrun,SV.c,goInt]
theorem u8x(b c:Nat)(hb:b<256)(hc:c<256):bits .xor .u8 (b:Int) (c:Int)=((b^^^c:Nat):Int):=by
 have h:=Nat.xor_lt_two_pow (n:=8) (x:=b) (y:=c) (by omega) (by omega);show IntKind.u8.wrap ((BitVec.ofInt 8 (b:Int)^^^BitVec.ofInt 8 (c:Int)).toNat:Int)=_;rw[BitVec.toNat_xor,BitVec.toNat_ofInt,BitVec.toNat_ofInt];have h1:((b:Int) %((2^8:Nat):Int)).toNat=b:=by omega
 have h2:((c:Int) %((2^8:Nat):Int)).toNat=c:=by omega
 rw[h1,h2,IntKind.wrap_u8'];omega
theorem Rz{b c:Nat}(hb:b<256)(hc:c<256):BOy .xor 5 (b8 b) (b8 c) (b8 (b^^^c)):=by
 intro p q w
 have h:=u8x b c hb hc;unfold b8
 go_simp
 try exact h
def EL(key:List Nat):List Nat:=key++List.replicate (64-key.length) 0
theorem P4(h:key.length≤64):(EL key).length=64:=by simp[EL];omega
theorem Vk(h: ∀x∈key,x<256): ∀x∈EL key,x<256:=fun x hx=>by
 rcases List.mem_append.1 hx with hx|hx
 ·exact h x hx
 ·rw[(List.mem_replicate.1 hx).2];decide
def D4(K:List Nat)(x i:Nat):List Nat:=(K.take i).map (· ^^^x)++K.drop i
theorem T9{K:List Nat}(h:i<K.length):(D4 K x i)[i]? =some (K.getD i 0):=by
 have e:((K.take i).map (· ^^^x)).length=i:=by simp;omega
 unfold D4;rw[List.getElem?_append_right (by omega),e,Nat.sub_self,List.getElem?_drop];simp[List.getD,h]
theorem e7{K:List Nat}(h:i<K.length):(D4 K x i).set i (K.getD i 0^^^x)=D4 K x (i+1):=by
 have e:((K.take i).map (· ^^^x)).length=i:=by simp;omega
 have e2:K.drop i=K.getD i 0::K.drop (i+1):=by rw[List.drop_eq_getElem_cons h];simp[List.getD,h]
 have e3:K.take (i+1)=K.take i++[K.getD i 0]:=F8 (by simp[List.getD,h]);unfold D4;rw[e2,e3,List.map_append,List.append_assoc,List.set_append_right _ _ (by omega),e,Nat.sub_self];rfl
theorem T7(h:key.length≤64):D4 (EL key) x 64=CP key x:=by
 have hl:=P4 h;unfold D4 CP;rw[List.take_of_length_le (by omega),List.drop_of_length_le (by omega),List.append_nil];apply List.ext_getElem?;intro i;rw[List.getElem?_map,List.getElem?_map];by_cases hi:i<64
 ·have h1:(EL key)[i]? =some (key.getD i 0):=by
   unfold EL;by_cases hk:i<key.length
   ·rw[List.getElem?_append_left hk];simp[List.getD,hk]
   ·rw[List.getElem?_append_right (by omega),List.getElem?_replicate,if_pos (by omega)]
    simp[List.getD,List.getElem?_eq_none (show key.length≤i by omega)]
  rw[h1,List.getElem?_range hi];rfl
 ·rw[List.getElem?_eq_none (by omega),List.getElem?_eq_none (by simp;omega)];rfl
def Z64:List Value:=List.replicate 64 (Value.int .u8 0)
theorem ZH:Z64=(List.replicate 64 0).map b8:=by rw[List.map_replicate];rfl
theorem uG(_h:key.length≤64):key.map b8++Z64.drop key.length=(D4 (EL key) x 0).map b8:=by
 rw[ZH,←List.map_drop,←List.map_append,List.drop_replicate];rfl
theorem XF{t:TypeId}{x:Operand}{k:Nat}{z:Value}(l:List Value)(hl:List.replicate k z=l)(hd:o.dst=some id)(ho:o.op= .makeSlice t x y)(hgd:AR ops o s)
 (hx:AC s x= .v (.int .i64 (k:Nat)))(hy:AC s y= .v (.int .i64 (k:Nat)))(ht:prog.underlying t=some (.slice e))(hI:C2 prog e 1 1)(hz: ∀w,(zeroValue e).run prog w= .ok z w)(hzc:z.cells= #[z])(hk:k≤140737488355328):
 Ev prog ops w0 o s ⟨.d id,[(id,.row k 1 e (.exact l))],[],[id],[]⟩:=by
 subst hl;exact XE hd ho hgd hx hy ht hI hz hzc hk
theorem sE(c:Nat):(b8 c).cells= #[b8 c]:=rfl
theorem ez(w:World)(hv:AJ w v key.length 1 (key.map b8) S)(hkl:key.length≤64)(hk8: ∀y∈key,y<256)(hx:x<256)(h0:key=[]):Calls prog 104 #[v,b8 x] w fun e w'=> ∃v',e= .returned v'∧BJ w w' v' 64 1 5 ((CP key x).map b8)∧Bw w w':=by
 have hKl:=P4 hkl;have hK8:=Vk hk8
 go_enter func104,ntmps104
 refine AO ?_;iterate 6 refine k_k ?_
 refine k_s (by exact XF (k:=64) Z64 rfl rfl rfl gg rfl rfl underlying26 el5 zeroValue5 rfl (by decide)) ?_;iterate 6 refine k_k ?_
 refine k_s (by exact oM rfl gg rfl rfl rfl (by rw[h0]at hv;exact hv) underlying26 (by kernel_rfl) (by decide)) ?_;iterate 5 refine k_k ?_
 refine EM ?_;iterate 3 refine k_k ?_
 refine B7 (α:={y:Nat // y≤64}) (fun(y:{y:Nat // y≤64}) f=>⟨.v (f 0):: .v (b8 x):: .v (f 2):: .v (f 3):: .v (f 4):: .d 7::fv f 6 6 (.v (.int .i64 64):: .v (.int .i64 (y.1:Nat))::fv f 11 14 []),AK [(7,.row 64 1 5 (.exact ((D4 (EL key) x y.1).map b8)))]⟩) (fun y=>64-y.1) ?_ (⟨0,Nat.zero_le _⟩) ?_
 ·rintro⟨i,hi⟩ f
  obtain⟨q,h_q⟩: ∃q,decide (i<64)=q:=⟨_,rfl⟩
  have h_q':=(Cw i 64).trans h_q;change VOk _ _ _ _ _;simp only[fv,Nat.reduceAdd];iterate 2 refine k_k ?_
  refine k_s (by exact A4 rfl gg rfl rfl h_q') ?_;iterate 2 refine k_k ?_
  cases q
  ·refine k_k ?_
   have hi64:i=64:=by have:=of_decide_eq_false h_q;omega
   subst hi64;refine Aq ?_;change VOk _ _ _ _ _;iterate 5 refine k_k ?_
   refine AG ?_;refine AD (AM results104 (AE rfl)) ?_;intro ρ w' hr;refine⟨_,rfl,?_,hr.1⟩;have hh:=BR (id:=7) hr rfl;rw[T7 hkl]at hh;exact hh
  ·refine k_k ?_
   have hlt:i<64:=of_decide_eq_true h_q;iterate 11 refine k_k ?_
   refine It ?_;refine k_s (by exact B5 rfl gg rfl underlying5 rfl (BI rfl) (by rw[List.getElem?_map,T9 (by rw[hKl];exact hlt)];rfl)) ?_;refine k_k ?_;refine k_s (by exact AN rfl gg rfl rfl (fun w=>Rz (NJ hK8 _) hx _ _ w)) ?_;refine It ?_;refine WM ?_;iterate 2 refine k_k ?_
   refine FG ?_;iterate 2 refine k_k ?_
   refine⟨⟨i+1,by omega⟩,by show 64-(i+1)<64-i;omega,?_⟩;exact Al (fun i=>i==1||i==5||i==12||i==13) []
 ·rw[show Z64=(D4 (EL key) x 0).map b8 by subst h0;exact ZH]
  exact Al (fun i=>i==1||i==5||i==12||i==13) []
theorem ew(w:World)(hv:AJ w v key.length 1 (key.map b8) S)(hkl:key.length≤64)(hk8: ∀y∈key,y<256)(hx:x<256)(h0:0<key.length):Calls prog 104 #[v,b8 x] w fun e w'=> ∃v',e= .returned v'∧BJ w w' v' 64 1 5 ((CP key x).map b8)∧Bw w w':=by
 have hKl:=P4 hkl;have hK8:=Vk hk8
 go_enter func104,ntmps104
 refine AO ?_;iterate 6 refine k_k ?_
 refine k_s (by exact XF (k:=64) Z64 rfl rfl rfl gg rfl rfl underlying26 el5 zeroValue5 rfl (by decide)) ?_;iterate 6 refine k_k ?_
 refine k_s (by exact oL (l':=(D4 (EL key) x 0).map b8) rfl gg rfl rfl rfl (AW hv) underlying26 (by kernel_rfl) hkl h0 (by decide) (DG _) (uG hkl)) ?_;iterate 5 refine k_k ?_
 refine EM ?_;iterate 3 refine k_k ?_
 refine B7 (α:={y:Nat // y≤64}) (fun(y:{y:Nat // y≤64}) f=>⟨.v (f 0):: .v (b8 x):: .v (f 2):: .v (f 3):: .v (f 4):: .d 7::fv f 6 6 (.v (.int .i64 64):: .v (.int .i64 (y.1:Nat))::fv f 11 14 []),AK [(7,.row 64 1 5 (.exact ((D4 (EL key) x y.1).map b8)))]⟩) (fun y=>64-y.1) ?_ (⟨0,Nat.zero_le _⟩) ?_
 ·rintro⟨i,hi⟩ f
  obtain⟨q,h_q⟩: ∃q,decide (i<64)=q:=⟨_,rfl⟩
  have h_q':=(Cw i 64).trans h_q;change VOk _ _ _ _ _;simp only[fv,Nat.reduceAdd];iterate 2 refine k_k ?_
  refine k_s (by exact A4 rfl gg rfl rfl h_q') ?_;iterate 2 refine k_k ?_
  cases q
  ·refine k_k ?_
   have hi64:i=64:=by have:=of_decide_eq_false h_q;omega
   subst hi64;refine Aq ?_;change VOk _ _ _ _ _;iterate 5 refine k_k ?_
   refine AG ?_;refine AD (AM results104 (AE rfl)) ?_;intro ρ w' hr;refine⟨_,rfl,?_,hr.1⟩;have hh:=BR (id:=7) hr rfl;rw[T7 hkl]at hh;exact hh
  ·refine k_k ?_
   have hlt:i<64:=of_decide_eq_true h_q;iterate 11 refine k_k ?_
   refine It ?_;refine k_s (by exact B5 rfl gg rfl underlying5 rfl (BI rfl) (by rw[List.getElem?_map,T9 (by rw[hKl];exact hlt)];rfl)) ?_;refine k_k ?_;refine k_s (by exact AN rfl gg rfl rfl (fun w=>Rz (NJ hK8 _) hx _ _ w)) ?_;refine It ?_;refine WM ?_;iterate 2 refine k_k ?_
   refine FG ?_;iterate 2 refine k_k ?_
   refine⟨⟨i+1,by omega⟩,by show 64-(i+1)<64-i;omega,?_⟩;exact Al (fun i=>i==1||i==5||i==12||i==13) []
 ·exact Al (fun i=>i==1||i==5||i==12||i==13) []
theorem T4(w:World)(hv:AJ w v key.length 1 (key.map b8) S)(hkl:key.length≤64)(hk8: ∀y∈key,y<256)(hx:x<256):Calls prog 104 #[v,b8 x] w fun e w'=> ∃v',e= .returned v'∧BJ w w' v' 64 1 5 ((CP key x).map b8)∧Bw w w':=by
 by_cases h0:0<key.length
 ·exact ew w hv hkl hk8 hx h0
 ·exact ez w hv hkl hk8 hx (List.eq_nil_of_length_eq_zero (by omega))
def Ru(base:Nat)(ρ:Nat→Nm)(S:Nat→Nat→Prop)(m:Mem)(rd:List Nat)(k:Nat):Prop:=k<base∨ ∃j∈rd,∃b,m j=some b∧((b.owns (ρ j)∧k=(ρ j).g)∨S j k)
theorem O0{l:List Value}{S':Nat→Prop}(h:AJ w v n size l S)(hs: ∀k,S k→S' k):AJ w v n size l S':=by
 obtain⟨ao,cap,h1,h2,h3,h4⟩:=h;exact⟨ao,cap,h1,h2,h3,h4.imp _root_.id fun⟨a,b,c,d⟩=>⟨a,b,hs _ c,d⟩⟩
def JY(w0:World)(m:Mem)(rd:List Nat)(x:SV)(n:Nat)(l:List Value):Prop:=
 ∀ρ S w,Bw w0 w→RelOn w0.heap.size ρ S w (restr rd m)→AJ w (x.c ρ) n 1 l (Ru w0.heap.size ρ S m rd)
def Rp(w0:World)(m:Mem)(rd:List Nat)(x:SV)(ls:List (List Nat)):Prop:=
 ∀ρ S w,Bw w0 w→RelOn w0.heap.size ρ S w (restr rd m)→FQ w (x.c ρ) ls (Ru w0.heap.size ρ S m rd)
section
variable{w0:World}{m:Mem}{rd:List Nat}
theorem MJ{l:List Value}(hid:id∈rd)(hm:m id=some (.row n 1 e (.exact l))):JY w0 m rd (.d id) n l:=fun ρ S w hb hR=>by
 obtain⟨xs,x1,x2,x3⟩:=A6 hR hm hid;have x2':xs=l:=x2;subst x2';by_cases hv:(ρ id).val=Bb
 ·rcases x3 with⟨_,h0⟩|⟨off,cap,cur,fz,a1,_⟩
  ·subst h0
   exact⟨none,0,hv,Nat.le_refl _,x1,.inl (List.eq_nil_of_length_eq_zero (by simpa using x1))⟩
  ·rw[hv]at a1;simp[Bb]at a1
 ·exact O0 (DL x3 x1) fun k hk=> .inr ⟨id,hid,_,hm,.inl ⟨hv,hk⟩⟩
theorem TV{len cap:Nat}{ty:TypeId}(hid:id∈rd)(hm:m id=some (.arr b ty))(hn:b.length=len)(hc:len≤cap):JY w0 m rd (.s id 0 len cap) len b:=fun ρ S w hb hR=>by
 have h:=A6 hR hm hid;refine⟨_,cap,rfl,hc,by omega,.inr ⟨_,rfl,.inr ⟨id,hid,_,hm,.inl ⟨True.intro,rfl⟩⟩,fun i x hx=> ?_⟩⟩;rw[BX,Nat.zero_add];exact Hr (by rw[h.2]) hx
theorem eY{F:Nat→Prop}(h:FQ w0 v ls F)(hF: ∀k,F k→k<w0.heap.size):Rp w0 m rd (.v v) ls:=fun ρ S w hb _=>by
 obtain⟨vs,h1,h2⟩:=T2 h hb;refine⟨vs,O0 h1 fun k hk=> .inl (hF k hk),fun i l hl=> ?_⟩;obtain⟨u,h3,h4,h5⟩:=h2 i l hl;exact⟨u,h3,O0 h4 fun k hk=> .inl (hF k hk),h5⟩
def OC(w0:World)(m:Mem)(rd:List Nat):List SV→List (List Nat)→Prop
 | [],[]=>True
 |y::ys,l::ls=>(JY w0 m rd y l.length (l.map b8)∧ ∀x∈l,x<256)∧OC w0 m rd ys ls
 |_,_=>False
theorem Y6: ∀{ys:List SV} {ls:List (List Nat)},OC w0 m rd ys ls→ys.length=ls.length
 | [],[],_=>rfl
 |_::_,_::_,h=>by simp[Y6 h.2]
 | [],_::_,h=>h.elim
 |_::_,[],h=>h.elim
theorem Y7: ∀{ys:List SV} {ls:List (List Nat)},OC w0 m rd ys ls→ ∀(i:Nat) (l:List Nat),ls[i]? =some l→ ∃y,ys[i]? =some y∧JY w0 m rd y l.length (l.map b8)∧ ∀x∈l,x<256
 | [],[],_,i,l,hl=>by simp at hl
 |y::_,_::_,h,0,l,hl=>by
  simp only[List.getElem?_cons_zero,Option.some.injEq]at hl;subst hl;exact⟨y,rfl,h.1⟩
 |_::_,_::_,h,i+1,l,hl=>by
  simp only[List.getElem?_cons_succ]at hl⊢;exact Y7 h.2 i l hl
 | [],_::_,h,_,_,_=>h.elim
 |_::_,[],h,_,_,_=>h.elim
theorem GN{ty:TypeId}(hid:id∈rd)(hm:m id=some (.cells ys ty))(hn:ls.length=n)(h:OC w0 m rd ys ls):Rp w0 m rd (.s id 0 n n) ls:=fun ρ S w hb hR=>by
 have hc:=A6 hR hm hid;subst hn;refine⟨SV.cs ρ ys,⟨_,_,rfl,Nat.le_refl _,by rw[A3,List.length_map,Nat.mul_one,Y6 h],.inr ⟨_,rfl,.inr ⟨id,hid,_,hm,.inl ⟨True.intro,rfl⟩⟩,fun i x hx=> ?_⟩⟩,fun i l hl=> ?_⟩
 ·rw[BX,Nat.zero_add]
  rw[A3,List.getElem?_map]at hx;cases hy:ys[i]? with
  |none=>rw[hy]at hx;cases hx
  |some y=>rw[hy]at hx;simp only[Option.map_some,Option.some.injEq]at hx;rw[←hx];exact ET hc.2 hy
 ·obtain⟨y,h1,h2,h3⟩:=Y7 h i l hl
  exact⟨y.c ρ,by rw[A3,List.getElem?_map,h1];rfl,h2 ρ S w hb hR,h3⟩
theorem T1{x:SV}{l:List SV}{ty:TypeId}(rd2:List Nat)(h:Rp w0 m rd2 x ls)(hs: ∀j∈rd2,j∈rd)(hi:id∈rd)(hr:r∈rd)(hni:id∉rd2)(hnr:r∉rd2)(hm1:m id=some (.cells l ty))(hm2:m r=some (.row n 1 5 D)):
 ∀ρ S w,Bw w0 w→RelOn w0.heap.size ρ S w (restr rd m)→ ∃F,FQ w (x.c ρ) ls F∧ ∀k,F k→k≠(ρ id).g∧((ρ r).val≠Bb→k≠(ρ r).g):=fun ρ S w hb hR=>by
 refine⟨_,h ρ S w hb (TN rd2 hs hR),fun k hk=> ?_⟩;have hin: ∀j,j∈rd→restr rd m j=m j:=fun j hj=>by unfold restr;rw[if_pos hj]
 have one: ∀q c,q∈rd→q∉rd2→m q=some c→c.owns (ρ q)→k≠(ρ q).g:=by
  rintro q c hq hn2 hm ho rfl;rcases hk with hk|⟨j,hj,b,hb',h1|h1⟩
  ·have:=(CH.own (A6 hR hm hq) ho).1
   omega
  ·have:=hR.inj q _ j _ ((hin q hq).trans hm) ho ((hin j (hs j hj)).trans hb') h1.1 h1.2
   subst this;exact hn2 hj
  ·exact hR.dis q c j ((hin q hq).trans hm) ho (by rw[hin j (hs j hj),hb'];rfl) h1
 exact⟨one id _ hi hni hm1 True.intro,fun hv=>one r _ hr hnr hm2 hv⟩
theorem He{S:Nat→Nat→Prop}(hb:Bw w0 w)(hR:RelOn w0.heap.size ρ S w (restr rd m)): ∀k,Ru w0.heap.size ρ S m rd k→k<w.heap.size:=fun k hk=>by
 have hin: ∀j,j∈rd→restr rd m j=m j:=fun j hj=>by unfold restr;rw[if_pos hj]
 rcases hk with hk|⟨j,hj,b,hb',h1|h1⟩
 ·exact Nat.lt_of_lt_of_le hk hb.size
 ·rw[h1.2];exact(CH.own (A6 hR hb' hj) h1.1).2
 ·exact hR.lt j k (by rw[hin j hj,hb'];rfl) h1
end
theorem O1{a:Array Value}(h:a.size=1): ∃c,a= #[c]:=by
 have h':a.toList.length=1:=by simpa using h
 obtain⟨c,hc⟩:=List.length_eq_one_iff.1 h';exact⟨c,by apply Array.ext';rw[hc]⟩
theorem rL(v:Value)(w:World)(h:v.cells.size=1):(Instr.buildSlice 32 1 #[(0,v)]).run prog w= .ok (.slice (some ⟨w.heap.size,0,none⟩) 1 1) (w.alloc (.cells v.cells 26)):=by
 have hz: ∀w,(zeroValue 26).run prog w= .ok (.slice none 0 0) w:=zeroValue26;have hs: ∀w,(Go.sizeOf 26).run prog w= .ok 1 w:=sizeOf26;obtain⟨c,hc⟩:=O1 h;unfold Instr.buildSlice;have hzc:Value.cells (.slice none 0 0)= #[.slice none 0 0]:=rfl;simp[run_underlying underlying32,hs,hz,Instr.fill,hc,hzc,newRow,newObj];rw[show(Array.map (fun x=>([Value.slice none 0 0][x %1]?).getD default) (Array.range 1))= #[.slice none 0 0] from by kernel_rfl];rfl
theorem rK(v u:Value)(w:World)(h:v.cells.size=1)(h':u.cells.size=1):(Instr.buildSlice 32 2 #[(0,v),(1,u)]).run prog w= .ok (.slice (some ⟨w.heap.size,0,none⟩) 2 2) (w.alloc (.cells (v.cells++u.cells) 26)):=by
 have hz: ∀w,(zeroValue 26).run prog w= .ok (.slice none 0 0) w:=zeroValue26;have hs: ∀w,(Go.sizeOf 26).run prog w= .ok 1 w:=sizeOf26;obtain⟨c,hc⟩:=O1 h;obtain⟨d,hd⟩:=O1 h';unfold Instr.buildSlice;have hzc:Value.cells (.slice none 0 0)= #[.slice none 0 0]:=rfl;simp[run_underlying underlying32,hs,hz,Instr.fill,hc,hd,hzc,newRow,newObj];rw[show(Array.map (fun x=>([Value.slice none 0 0][x %1]?).getD default) (Array.range 2))= #[.slice none 0 0,.slice none 0 0] from by kernel_rfl];rfl
theorem oW{ty:TypeId}{x:Operand}{sv sv2:SV}{l l2:List SV}(rd:List Nat)(_hd:o.dst=some id)(ho:o.op= .buildSlice ty 2 #[(0,x),(1,y)])(hgd:AR ops o s)
 (hx:AC s x=sv)(hy:AC s y=sv2)(hc: ∀ρ S w,RelOn w0.heap.size ρ S w (restr rd s.mem)→(sv.c ρ).cells.toList=SV.cs ρ l∧(sv2.c ρ).cells.toList=SV.cs ρ l2)(hn:l.length=n)(hn2:l2.length=n)(hid:SV.hasL id (l++l2)=false)
 (hb: ∀v u w,v.cells.size=n→u.cells.size=n→(Instr.buildSlice ty 2 #[(0,v),(1,u)]).run P w= .ok (.slice (some ⟨w.heap.size,0,none⟩) 2 2) (w.alloc (.cells (v.cells++u.cells) e))):Ev P ops w0 o s ⟨.s id 0 2 2,[(id,.cells (l++l2) e)],[],[id],rd⟩:=
 ⟨by simp[Eff.ok],.inr ⟨hgd,fun ρ S w hbw hR=>by
  have e0:=AH s ρ x;rw[hx]at e0;have e1:=AH s ρ y;rw[hy]at e1;obtain⟨hcs,hcs2⟩:=hc ρ S w hR;have hsz:(sv.c ρ).cells.size=n:=by rw[←Array.length_toList,hcs,A3,List.length_map];exact hn
  have hsz2:(sv2.c ρ).cells.size=n:=by rw[←Array.length_toList,hcs2,A3,List.length_map];exact hn2
  have hcells:(sv.c ρ).cells++(sv2.c ρ).cells=(SV.cs ρ (l++l2)).toArray:=by apply Array.ext';rw[Array.toList_append,hcs,hcs2];simp[A3]
  have hrun:=hb _ _ w hsz hsz2;rw[hcells]at hrun;refine .inl ⟨.slice (some ⟨w.heap.size,0,none⟩) 2 2,w.alloc (.cells (SV.cs ρ (l++l2)).toArray e),?_,fun j=>if j=id then⟨w.heap.size,undef⟩else ρ j,fun _ _=>False,?_⟩
  ·simp only[execOp,ho,List.map_toArray,List.map_cons,List.map_nil,e0,e1]
   rw[Sem.run_bind,hrun];rfl
  ·have:=Cu (base:=w0.heap.size) (t:=s.mem) (ρ:=ρ) (S:=S) (w:=w) (w':=w.alloc (.cells (SV.cs ρ (l++l2)).toArray e)) (val:= .s id 0 2 2) (rd:=rd) (up:=[]) (id:=id) (b:= .cells (l++l2) e) (m:=⟨w.heap.size,undef⟩) (S1:=fun _=>False)
    rfl rfl rfl (by simp) (fun k hk _=>heap_alloc_old w _ hk) (fun ρ' g1 g2=>by
     refine⟨by rw[g1];exact hbw.size,?_⟩;rw[g1];simp only[Cb];rw[Ep (nw:=[id]) (fun i hi=>g2 i (by simpa using hi)) (fun i hi=>by simp at hi;rw[hi];exact hid)];exact heap_alloc_new w _) (fun _ h=>h.elim) (fun _=> .inr ⟨Nat.le_refl _,fun h=>h⟩)
   simpa[SV.c] using this⟩⟩
theorem T6(k:List Nat)(x:Nat):(CP k x).length=64:=by simp[CP]
theorem T5(h: ∀y∈k,y<256)(hx:x<256): ∀y∈CP k x,y<256:=fun y hy=>by
 simp only[CP,List.mem_map,List.mem_range]at hy;obtain⟨i,_,rfl⟩:=hy;exact Nat.xor_lt_two_pow (n:=8) (NJ h i) hx
theorem Jy(s:List Nat): ∀x∈sha s,x<256:=fJ _
theorem mr{s:List Nat}(h:key.length≤64):sha (CP key 92++sha (CP key 54++s))=Ap key s:=by
 unfold Ap TollSha.keyOf;rw[if_neg (by omega)]
theorem hmac_len(k s:List Nat):(Ap k s).length=32:=sha_len _
theorem I4(k s:List Nat): ∀x∈Ap k s,x<256:=Jy _
theorem Ka{u:Value}{F G:Nat→Prop}(w:World)(hL:Au w)(hH:BD w)(hb1:8<w.heap.size)(hv:AJ w v key.length 1 (key.map b8) G)(hkl:key.length≤64)(hk8: ∀y∈key,y<256)(hp:FQ w u ls F)(hF: ∀k,F k→k<w.heap.size)(hlt:ls.flatten.length<1040000)(hln:ls.length≤1048576):CBy 71 #[v,u] w (.agg ((Ap key ls.flatten).map b8).toArray):=by
 obtain⟨I,hI⟩: ∃I,CP key 54=I:=⟨_,rfl⟩
 obtain⟨O,hO⟩: ∃O,CP key 92=O:=⟨_,rfl⟩
 have hIl:I.length=64:=by rw[←hI];exact T6 _ _
 have hOl:O.length=64:=by rw[←hO];exact T6 _ _
 have hI8: ∀x∈I,x<256:=by rw[←hI];exact T5 hk8 (by decide)
 have hO8: ∀x∈O,x<256:=by rw[←hO];exact T5 hk8 (by decide)
 have hres:sha [O,sha ([I].flatten++ls.flatten)].flatten=Ap key ls.flatten:=by rw[←mr hkl,hI,hO];simp
 rw[←hres]
 go_enter func71,ntmps71
 refine AO ?_;iterate 2 refine k_k ?_
 refine Ko ?_;iterate 5 refine k_k ?_
 refine CQ ?_;refine Ki ?_;iterate 5 refine k_k ?_
 refine k_s (by exact XT 700 (by decide) hH (fun w h=>ZX w h) rfl rfl gg (eo func87)) ?_;iterate 6 refine k_k ?_
 refine k_s (by exact Cs [] rfl rfl gg rfl (eo func104) (n:=64) (size:=1) (l:=I.map b8) (by simp[hIl]) (fun ρ S w' hb hR=>by rw[←hI];exact T4 w' (Aa hv hb) hkl hk8 (by decide))) ?_;refine k_s (by exact JG (n:=1) (l:=[.d 18]) [18] rfl rfl gg rfl (fun ρ S w' hR=>by have hh:=CO (id:=18) hR (by simp) rfl;exact hh.1) rfl rfl rL) ?_;refine k_s (by exact Qn (id:=15) (r:=700) (n:=0) (wl:=0) (a:=[]) (ls:=[I]) 701 [15,700,18,19] (by decide) hL hb1 rfl gg (eo func88) rfl rfl rfl rfl rfl rfl (by simp) (by simp) (T1 [18,19] (GN (by simp) rfl rfl ⟨⟨by rw[hIl];exact MJ (by simp) rfl,hI8⟩,trivial⟩) (by simp) (by simp) (by simp) (by decide) (by decide) rfl rfl) (fun x hx=>by cases hx) (by simp[hIl]) (by simp)) ?_;iterate 5 refine k_k ?_
 refine k_s (by exact Qn (id:=15) (r:=701) (a:=[I].flatten) (ls:=ls) 702 [15,701] (by decide) hL hb1 rfl gg (eo func88) rfl rfl rfl rfl rfl rfl (by simp) (by simp) (T1 [] (eY hp hF) (by simp) (by simp) (by simp) (by decide) (by decide) rfl rfl) (by simpa using hI8) (by simp only[List.length_append,List.flatten_cons,List.flatten_nil,List.length_nil,hIl];omega) hln) ?_;iterate 4 refine k_k ?_
 refine k_s (by exact Aj (v:= .agg ((sha ([I].flatten++ls.flatten)).map b8).toArray) [15,702] rfl gg rfl (eo func89) (fun ρ S w' hb hR=>YU (id:=15) (a:=[I].flatten++ls.flatten) hR (by simp) (by simp) rfl rfl rfl rfl (hL.bw hb) (fun x hx=>by rcases List.mem_append.1 hx with hx|hx;exact hI8 x (by simpa using hx);exact W9 hp x hx) (by simp only[List.length_append,List.flatten_cons,List.flatten_nil,List.length_nil,hIl];omega))) ?_;refine Ko ?_;refine Vy ?_;iterate 4 refine k_k ?_
 refine k_s (by exact Cs [] rfl rfl gg rfl (eo func104) (n:=64) (size:=1) (l:=O.map b8) (by simp[hOl]) (fun ρ S w' hb hR=>by rw[←hO];exact T4 w' (Aa hv hb) hkl hk8 (by decide))) ?_;refine k_s (by exact Qk rfl gg rfl underlying46 sizeOf5) ?_;refine k_s (by exact oW (n:=1) (l:=[.d 27]) (l2:=[.s 7 0 32 32]) [27] rfl rfl gg rfl rfl (fun ρ S w' hR=>by have hh:=CO (id:=27) hR (by simp) rfl;exact⟨hh.1,rfl⟩) rfl rfl rfl rK) ?_;refine k_s (by exact Aj (v:= .agg ((sha [O,sha ([I].flatten++ls.flatten)].flatten).map b8).toArray) [7,27,29] rfl gg rfl (eo func48) (fun ρ S w' hb hR=>ZW w' (hL.bw hb) (hH.bw hb) (Nat.lt_of_lt_of_le hb1 hb.size) (GN (id:=29) (n:=2) (ls:=[O,sha ([I].flatten++ls.flatten)]) (by simp) (by rfl) rfl (by exact⟨⟨by rw[hOl];exact MJ (by simp) rfl,hO8⟩,⟨by rw[sha_len];exact TV (by simp) rfl (by simp[sha_len]) (by decide),Jy _⟩,trivial⟩) ρ S w' hb hR) (He hb hR) (by simp[hOl,sha_len]) (by simp))) ?_;refine Vy ?_;refine k_k ?_;refine AG ?_;refine AD (AM results71 (IT (vs:=(sha [O,sha ([I].flatten++ls.flatten)].flatten).map b8) rfl rfl underlying46 rfl sizeOf46 (List.take_of_length_le (by simp[sha_len])) (by simp[sha_len]))) ?_;intro ρ w' hr;exact⟨rfl,hr.1⟩
end Go.Proofs.YtefpajmkaaielaaGreatDoor
