import Derived.Test.YtafbhakmkbehiaaGreatDoorZ15
open Go.Proofs.Tryz
set_option maxHeartbeats 4000000
set_option maxRecDepth 100000
namespace Go.Proofs.YtafbhakmkbehiaaGreatDoor
open Go.RowKit Go.Vx
variable{ops:Array Oper}{D:Dat}{ls:List (List Nat)}{a key rd:List Nat}{ys:List SV}{b:List Value}{g gr i id k n r size x:Nat}{S:Nat→Nat→Prop}{ρ:Nat→Nm}{S0 X:Nat→Prop}{o:Oper}{y:Operand}{P:Program}{e ty:TypeId}{s:VS}{v wv:Value}{w w' w0:World}
open TollSha
open Go.Toll (Gw)
theorem aH{y:Value}{S:Nat→Prop}{a:Addr}{x:Value}(h:(LB w X).holds [y] w' S)(hx:w.cell? a=some x)(hX: ¬X a.block):w'.cell? a=some x:=by
 have hb:=World.block_lt_of_cell? _ _ hx;have he:=(h a.block hb hX).1;rw[←hx];simp only[World.cell?,he]
theorem L3{m:Mem}{F:Nat→Prop}{l:List Value}(hm:m id=some (.dat (LB w X)))(h:AO w v n size l F)(hF: ∀k,F k→ ¬X k):Rdg (Jq w) m [id] (.v v) n size l:=fun ρ S w' hb hR=>by
 have hD:=Gc hR (List.mem_singleton.2 rfl) hm;obtain⟨ao,cap,h1,h2,h3,h4⟩:=h;refine⟨F,ao,cap,by simp only[SV.c];exact h1,h2,h3,h4.imp _root_.id fun⟨g,a,b,c⟩=>⟨g,a,b,fun i x hx=> ?_⟩⟩;have e:(g.add i).block=g.block:=by unfold Addr.add;split<;>rfl
 exact aH hD (c i x hx) (by rw[e];exact hF g.block b)
def HA(w:World)(v:Value)(ls:List (List Nat))(F:Nat→Prop):Prop:=
 ∃vs,AO w v ls.length 1 vs F∧ ∀(i:Nat) (l:List Nat),ls[i]? =some l→ ∃u,vs[i]? =some u∧AO w u l.length 1 (l.map b8) F∧ ∀x∈l,x<256
def Qk(w:World)(g gr:Nat)(wv:Value)(a:List Nat):Prop:=
 w.heap[g]? =some (.cells (HH a wv).toArray 250 (0,0))∧EC w 0 ⟨gr,wv⟩ (stW a).length 1 5 ((stW a).map b8)∧(wv≠Bg→gr≠g)
def StX(g gr:Nat)(wv:Value)(k:Nat):Prop:=k=g∨(wv≠Bg∧k=gr)
def SU(g gr:Nat)(wv:Value):Nat→Nm:=fun k=>if k=801 then⟨g,undef⟩else if k=802 then⟨gr,wv⟩else⟨0,undef⟩
def I9(w:World)(g gr:Nat)(wv:Value)(H:St)(wt:List Nat)(n r:Nat):List (Nat×Blk):=
 [(801,.cells [.v (uv H.a),.v (uv H.b),.v (uv H.c),.v (uv H.d),.v (uv H.e),.v (uv H.f),.v (uv H.g),.v (uv H.h),.d r,.v (.int .i64 (n:Nat))] 250),(r,.row wt.length 1 5 (.exact (wt.map b8))),(803,.dat (LB w (StX g gr wv))),(804,.pin 801 g),(805,.floor w.heap.size)]
theorem jl(h:Qk w g gr wv a)(fr:List SV):Rel (Jq w) (SU g gr wv) ⟨fr,AJ (I9 w g gr wv (stH a) (stW a) a.length 802)⟩ w:=by
 obtain⟨h1,h2,h3⟩:=h;refine⟨qP w,fun i k=>i=803∧k<w.heap.size∧ ¬StX g gr wv k,?_⟩
 have cs: ∀i b,AJ (I9 w g gr wv (stH a) (stW a) a.length 802) i=some b→(i=801∧b= .cells [.v (uv (stH a).a),.v (uv (stH a).b),.v (uv (stH a).c),.v (uv (stH a).d),.v (uv (stH a).e),.v (uv (stH a).f),.v (uv (stH a).g),.v (uv (stH a).h),.d 802,.v (.int .i64 (a.length:Nat))] 250)∨
  (i=802∧b= .row (stW a).length 1 5 (.exact ((stW a).map b8)))∨(i=803∧b= .dat (LB w (StX g gr wv)))∨(i=804∧b= .pin 801 g)∨(i=805∧b= .floor w.heap.size):=by
  intro i b hb;simp only[I9,AJ]at hb;split at hb
  ·injection hb with hb;exact .inl ⟨by assumption,hb.symm⟩
  ·split at hb
   ·injection hb with hb;exact .inr (.inl ⟨by assumption,hb.symm⟩)
   ·split at hb
    ·injection hb with hb;exact .inr (.inr (.inl ⟨by assumption,hb.symm⟩))
    ·split at hb
     ·injection hb with hb;exact .inr (.inr (.inr (.inl ⟨by assumption,hb.symm⟩)))
     ·split at hb
      ·injection hb with hb;exact .inr (.inr (.inr (.inr ⟨by assumption,hb.symm⟩)))
      ·cases hb
 have hg:g<w.heap.size:=(Array.getElem?_eq_some_iff.1 h1).1
 have hgr:wv≠Bg→gr<w.heap.size:=fun hn=>by
  rcases h2 with⟨h2,_⟩|⟨off,cap,cur,fz,_,_,h4,_⟩
  ·exact absurd h2 hn
  ·exact(Array.getElem?_eq_some_iff.1 h4).1
 refine⟨?_,?_,?_,?_,?_⟩
 ·intro i b hb
  rcases cs i b hb with⟨rfl,rfl⟩|⟨rfl,rfl⟩|⟨rfl,rfl⟩|⟨rfl,rfl⟩|⟨rfl,rfl⟩
  ·refine⟨Nat.zero_le _,?_⟩
   show w.heap[g]? =_;rw[h1];rfl
  ·exact⟨(stW a).map b8,by simp,rfl,h2⟩
  ·exact fun k hk hx=>⟨rfl,rfl,hk,hx⟩
  ·rfl
  ·exact Nat.le_refl _
 ·rintro i k _ ⟨_,h,_⟩;exact h
 ·rintro i k _ _;exact Nat.zero_le _
 ·rintro i b j hi ho hj ⟨rfl,h4,h5⟩
  rcases cs i b hi with⟨rfl,rfl⟩|⟨rfl,rfl⟩|⟨rfl,rfl⟩|⟨rfl,rfl⟩|⟨rfl,rfl⟩
  ·exact h5 (.inl rfl)
  ·exact h5 (.inr ⟨ho,rfl⟩)
  ·exact ho
  ·exact ho
  ·exact ho
 ·intro i b j c hi ho hj hc he
  rcases cs i b hi with⟨rfl,rfl⟩|⟨rfl,rfl⟩|⟨rfl,rfl⟩|⟨rfl,rfl⟩|⟨rfl,rfl⟩
  ·rcases cs j c hj with⟨rfl,rfl⟩|⟨rfl,rfl⟩|⟨rfl,rfl⟩|⟨rfl,rfl⟩|⟨rfl,rfl⟩
   ·rfl
   ·exact absurd he.symm (h3 hc)
   ·exact hc.elim
   ·exact hc.elim
   ·exact hc.elim
  ·rcases cs j c hj with⟨rfl,rfl⟩|⟨rfl,rfl⟩|⟨rfl,rfl⟩|⟨rfl,rfl⟩|⟨rfl,rfl⟩
   ·exact absurd he (h3 ho)
   ·rfl
   ·exact hc.elim
   ·exact hc.elim
   ·exact hc.elim
  ·exact ho.elim
  ·exact ho.elim
  ·exact ho.elim
theorem WM{base:Nat}{m:Mem}(rd':List Nat)(hs: ∀i∈rd',i∈rd)(hR:RelOn base ρ S w (restr rd m)):RelOn base ρ S w (restr rd' m):=by
 have e:restr rd' (restr rd m)=restr rd' m:=by
  funext k
  unfold restr;by_cases h:k∈rd'
  ·rw[if_pos h,if_pos h,if_pos (hs k h)]
  ·rw[if_neg h,if_neg h]
 rw[←e];exact hR.restr rd'
def aI(a:List Nat)(ls:List (List Nat))(i:Nat):List Nat:=a++(ls.take i).flatten
def mO(w:World)(g gr:Nat)(wv:Value)(a:List Nat)(ls:List (List Nat))(i:Nat):List (Nat×Blk):=I9 w g gr wv (stH (aI a ls i)) (stW (aI a ls i)) (aI a ls i).length 802
theorem oF{r:TypeId}{x:Operand}{off:Nat}(ho:o.op= .binOp .eql 211 x y r)(hgd:AQ ops o s)(hx:AE s x= .p id off)(hy:AE s y= .v (.pointer none)):Ev prog ops w0 o s ⟨.v (.bool false),[],[],[],[]⟩:=
 Ev.run _ _ hgd fun ρ S w hb hR=>by
  have e1:=AI s ρ x;rw[hx]at e1;have e2:=AI s ρ y;rw[hy]at e2;simp only[SV.c]at e1 e2;have h:=Xe ⟨(ρ id).g,off,none⟩ x y w;simp only[execOp,ho,e1,e2,SV.c];rw[Sem.run_bind,h];rfl
theorem lU{p:List Nat}:64*nb a≤(a++p).length:=by have:=KV a;rw[List.length_append];omega
theorem sW{S:Nat→Prop}{y:Value}(hL:B6 w)(hX: ¬StX g gr wv 7)(h:(LB w (StX g gr wv)).holds [y] w' S):B6 w':=fun i hi=>aH h (hL i hi) hX
theorem sO{F:Nat→Prop}(hL:B6 w)(hX1: ¬StX g gr wv 7)(hs:Qk w g gr wv a)(hp:HA w v ls F)(hFX: ∀k,F k→ ¬StX g gr wv k)(ha8: ∀x∈a,x<256)(hlt:(a++ls.flatten).length<1048576)(hln:ls.length≤1048576):
 Calls prog 143 #[.pointer (some ⟨g,0,none⟩),v] w fun e w'=>e= .returned (.tuple #[])∧Bw (Jq w) w'∧ ∃gr' wv',Qk w' g gr' wv' (a++ls.flatten)∧(∀k,k<w.heap.size→ ¬StX g gr wv k→w'.heap[k]? =w.heap[k]?)∧(wv'≠Bg→StX g gr wv gr'∨w.heap.size≤gr')∧w.heap.size≤w'.heap.size:=by
 obtain⟨vs,hvs,hel⟩:=hp
 have hfl: ∀i,((ls.take i).flatten).length≤(ls.flatten).length:=fun i=>by
  have:ls.flatten=(ls.take i).flatten++(ls.drop i).flatten:=by rw[←List.flatten_append,List.take_append_drop]
  rw[this,List.length_append];omega
 have hlen: ∀i,(aI a ls i).length<1048576:=fun i=>by have:=hfl i;unfold aI;rw[List.length_append]at hlt ⊢; omega
 have hall: ∀i,∀x∈aI a ls i,x<256:=fun i x hx=>by
  rcases List.mem_append.1 hx with hx|hx
  ·exact ha8 x hx
  ·obtain⟨l,hl,hx⟩:=List.mem_flatten.1 hx
   obtain⟨j,hj⟩:=List.getElem?_of_mem (List.mem_of_mem_take hl);obtain⟨_,_,_,h8⟩:=hel j l hj;exact h8 x hx
 go_enter func143,ntmps143
 refine dZ (SU g gr wv) (by simp[SV.c,SU]) (jl hs [.p 801 0,.v v,.v undef,.v undef,.v undef,.v undef,.v undef,.v undef,.v undef,.v undef,.v undef,.v undef,.v undef,.v undef,.v undef,.v undef,.v undef,.v undef,.v undef,.v undef,.v undef,.v undef,.v undef,.v undef,.v undef,.v undef,.v undef,.v undef,.v undef,.v undef,.v undef,.v undef,.v undef,.v undef,.v undef,.v undef,.v undef,.v undef,.v undef,.v undef,.v undef,.v undef,.v undef,.v undef,.v undef,.v undef,.v undef,.v undef,.v undef,.v undef,.v undef,.v undef,.v undef,.v undef,.v undef,.v undef,.v undef,.v undef,.v undef,.v undef]) ?_;simp only[I9];iterate 4 refine k_k ?_
 refine k_s (by exact oF rfl gg rfl rfl) ?_;iterate 6 refine k_k ?_
 refine k_s (by exact BU rfl gg rfl underlying43 (L3 (id:=803) rfl hvs hFX)) ?_;iterate 3 refine k_k ?_
 refine Bo (α:={x:Nat // x≤ls.length}) (fun(x:{x:Nat // x≤ls.length}) f=>⟨[.p 801 0,.v (f 1),.v (f 2),.v (f 3),.v (f 4),.v (f 5),.v (f 6),.v (f 7),.v v,.v (.int .i64 (ls.length:Nat)),.v (.int .i64 (x.1:Nat)),.v (f 11),.v (f 12),.v (f 13),.v (f 14),.v (f 15),.v (f 16),.v (f 17),.v (f 18),.v (f 19),.v (f 20),.v (f 21),.v (f 22),.v (f 23),.v (f 24),.v (f 25),.v (f 26),.v (f 27),.v (f 28),.v (f 29),.v (f 30),.v (f 31),.v (f 32),.v (f 33),.v (f 34),.v (f 35),.v (f 36),.v (f 37),.v (f 38),.v (f 39),.v (f 40),.v (f 41),.v (f 42),.v (f 43),.v (f 44),.v (f 45),.v (f 46),.v (f 47),.v (f 48),.v (f 49),.v (f 50),.v (f 51),.v (f 52),.v (f 53),.v (f 54),.v (f 55),.v (f 56),.v (f 57),.v (f 58),.v (f 59)],AJ (mO w g gr wv a ls x.1)⟩) (fun x=>ls.length-x.1) ?_ (⟨0,Nat.zero_le _⟩) ?_
 ·rintro⟨i,hi⟩ f
  obtain⟨q,h_q⟩: ∃q,decide (i<ls.length)=q:=⟨_,rfl⟩
  have h_q':=(CL i ls.length).trans h_q;simp only[mO,I9];refine Ch ?_
  refine k_s (by exact BM rfl gg rfl rfl h_q') ?_;iterate 2 refine k_k ?_
  cases q
  ·refine k_k ?_
   have hie:i=ls.length:=by have:=of_decide_eq_false h_q;omega
   subst hie;refine As ?_;refine Xj (WJ results143) ?_;intro ρ w' hr;refine⟨rfl,hr.1,?_⟩;obtain⟨hb,S1,hR⟩:=hr;have g1:=hR.good 801 _ rfl;have g2:=hR.good 802 _ rfl;have g3:=hR.good 803 _ rfl;have g4:(ρ 801).g=g:=hR.good 804 _ rfl;have eA:aI a ls ls.length=a++ls.flatten:=by unfold aI;rw[List.take_length]
   rw[eA]at g1 g2;obtain⟨xs,x1,x2,x3⟩:=g2;have x2':xs=_:=x2;subst x2';refine⟨(ρ 802).g,(ρ 802).val,⟨?_,x3,fun hn he=> ?_⟩,fun k hk hX=>(g3 k hk hX).1,fun hn=> ?_,hR.good 805 _ rfl⟩
   ·have h:=g1.2
    rw[g4]at h;rw[h];rfl
   ·exact absurd (hR.inj 802 _ 801 _ rfl hn rfl True.intro (he.trans g4.symm)) (by decide)
   ·by_cases hX:StX g gr wv (ρ 802).g
    ·exact .inl hX
    ·right
     apply Classical.byContradiction;intro hlt';exact hR.dis 802 _ 803 rfl hn rfl (g3 (ρ 802).g (by omega) hX).2
  ·refine k_k ?_
   have hlt:i<ls.length:=of_decide_eq_true h_q;obtain⟨l,hl⟩: ∃l,ls[i]? =some l:=⟨ls[i],List.getElem?_eq_getElem hlt⟩
   obtain⟨u,hu1,hu2,hu8⟩:=hel i l hl;obtain⟨Ai,hAi⟩: ∃Ai,(aI a ls i)=Ai:=⟨_,rfl⟩
   obtain⟨Ab,hAb⟩: ∃Ab,Ai++l=Ab:=⟨_,rfl⟩
   have hnx:(aI a ls (i+1))=Ab:=by rw[←hAb,←hAi];unfold aI;rw[Im hl];simp
   have hA8: ∀x∈Ab,x<256:=by rw[←hnx];exact hall _
   have hAl:Ab.length<1048576:=by rw[←hnx];exact hlen _
   have hAbl:Ab.length=Ai.length+l.length:=by rw[←hAb,List.length_append]
   have hnbA:64*nb Ai≤Ab.length:=by rw[←hAb];exact lU
   have hst:stH Ai=Bn H0 Ab (nb Ai):=by rw[←hAb];exact ep Ai l
   have hwt:(stW Ai).map b8++l.map b8=(Ab.drop (64*nb Ai)).map b8:=by rw[←List.map_append,eh,hAb]
   have hwl:(stW Ai).length+l.length=Ab.length-64*nb Ai:=by have:=congrArg List.length hwt;simp only[List.length_append,List.length_map,List.length_drop]at this;exact this
   have hwlt:=Vm Ai;rw[hAi];iterate 5 refine k_k ?_
   refine k_s (by exact Bc (k:=i) rfl gg rfl rfl underlying43 sizeOf23 (L3 (id:=803) rfl hvs hFX) (of_decide_eq_true h_q) (by decide)) ?_;refine k_s (by exact Cb rfl gg rfl underlying23 rfl (L3 (id:=803) rfl hvs hFX) hu1) ?_;iterate 6 refine k_k ?_
   refine TX ?_;refine DJ ?_;refine k_k ?_;refine k_s (by exact BU rfl gg rfl underlying23 (L3 (id:=803) rfl hu2 hFX)) ?_;refine k_s (by exact BE (c:=((Ai.length+l.length:Nat):Int)) rfl gg rfl rfl (by rw[Ah (by omega) (by omega)];omega)) ?_;refine k_k ?_;refine TX ?_;refine k_s (by exact BA rfl gg rfl rfl rfl sizeOf3 rfl (by simp) rfl) ?_;iterate 6 refine k_k ?_
   refine JY ?_;refine HQ ?_;refine k_k ?_;refine k_s (by exact Di rfl rfl gg rfl rfl rfl (L3 (id:=803) rfl hu2 hFX) underlying23 el5 (by decide) (by simp) (DR _) (by simp only[maxLen];omega) (by omega) (by simp)) ?_;refine k_k ?_;refine JY ?_;refine ZJ ?_;iterate 2 refine k_k ?_
   refine Bo (α:={x:Nat // 64*x≤Ab.length}) (fun(x:{x:Nat // 64*x≤Ab.length}) f=>⟨[.p 801 0,.v (f 1),.v (f 2),.v (f 3),.v (f 4),.v (f 5),.v (f 6),.v (f 7),.v v,.v (.int .i64 (ls.length:Nat)),.v (.int .i64 (i:Nat)),.v (f 11),.v (f 12),.v (f 13),.v (f 14),.v (f 15),.v (f 16),.v (f 17),.v (f 18),.v (f 19),.v (f 20),.v (f 21),.v (f 22),.v (f 23),.v (f 24),.v (f 25),.v (f 26),.v (f 27),.v (f 28),.v (f 29),.v (f 30),.v (f 31),.v (f 32),.v (f 33),.v (f 34),.v (f 35),.v (f 36),.v (f 37),.v (f 38),.v (f 39),.v (f 40),.v (f 41),.v (f 42),.v (f 43),.v (f 44),.v (f 45),.v (f 46),.v (f 47),.v (f 48),.v (f 49),.v (f 50),.v (f 51),.v (f 52),.v (f 53),.v (f 54),.v (f 55),.v (f 56),.v (f 57),.v (f 58),.v (f 59)],AJ [(801,.cells [.v (uv (Bn H0 Ab x.1).a),.v (uv (Bn H0 Ab x.1).b),.v (uv (Bn H0 Ab x.1).c),.v (uv (Bn H0 Ab x.1).d),.v (uv (Bn H0 Ab x.1).e),.v (uv (Bn H0 Ab x.1).f),.v (uv (Bn H0 Ab x.1).g),.v (uv (Bn H0 Ab x.1).h),.d 802,.v (.int .i64 (Ab.length:Nat))] 250),(802,.row (Ab.length-64*x.1) 1 5 (.exact ((Ab.drop (64*x.1)).map b8))),(803,.dat (LB w (StX g gr wv))),(804,.pin 801 g),(805,.floor w.heap.size)]⟩) (fun x=>Ab.length-64*x.1) ?_ (⟨nb Ai,hnbA⟩) ?_
   ·rintro⟨m,hm2⟩ f
    obtain⟨q2,h_q2⟩: ∃q,decide (((Ab.length-64*m:Nat):Int)≥((64:Nat):Int))=q:=⟨_,rfl⟩
    obtain⟨H,hH⟩: ∃H,Bn H0 Ab m=H:=⟨_,rfl⟩
    rw[hH];refine IG ?_
    refine JY ?_;refine HQ ?_;refine El ?_;refine k_s (by exact B4 rfl gg rfl rfl h_q2) ?_;refine k_k ?_;cases q2
    ·refine k_k ?_
     have hme:m=nb Ab:=o7 hm2 (by rw[List.length_drop];have:=of_decide_eq_false h_q2;omega);subst hme;have hHs:stH Ab=H:=hH;have hWs:stW Ab=Ab.drop (64*nb Ab):=rfl;refine As ?_;change VOk _ _ _ _ _;refine k_k ?_;refine ER ?_;iterate 2 refine k_k ?_
     refine⟨⟨i+1,by omega⟩,by show ls.length-(i+1)<ls.length-i;omega,?_⟩;simp only[hnx,hHs,hWs,List.length_drop];exact Ar (fun i=>i==0||i==8||i==9||i==10) []
    ·iterate 8 refine k_k ?_
     refine TZ ?_;refine TC ?_;iterate 2 refine k_k ?_
     refine JY ?_;refine HQ ?_;refine k_s (by exact Jh (a:=0) (b:=64) (size:=1) rfl gg rfl underlying23 sizeOf5 (BI rfl) rfl rfl (by decide) (show 64≤Ab.length-64*m by have:=of_decide_eq_true h_q2;omega)) ?_;refine k_s (by exact Aj (v:= .agg #[uv (TollSha.press H ((Ab.drop (64*m)).take 64)).a,uv (TollSha.press H ((Ab.drop (64*m)).take 64)).b,uv (TollSha.press H ((Ab.drop (64*m)).take 64)).c,uv (TollSha.press H ((Ab.drop (64*m)).take 64)).d,uv (TollSha.press H ((Ab.drop (64*m)).take 64)).e,uv (TollSha.press H ((Ab.drop (64*m)).take 64)).f,uv (TollSha.press H ((Ab.drop (64*m)).take 64)).g,uv (TollSha.press H ((Ab.drop (64*m)).take 64)).h]) [802,803] rfl gg rfl (eo func176) (fun ρ S w' hb hR=>by have hD:=Gc (id:=803) hR (by simp) rfl;obtain⟨S0,s0⟩:=WV (lo:=0) (hi:=64) (n':=64) (l':=((Ab.drop (64*m)).take 64).map b8) (BI (id:=802) rfl) (Nat.zero_le _) (show 64≤Ab.length-64*m by have:=of_decide_eq_true h_q2;omega) (by rw[Nat.mul_one,Nat.mul_one,List.drop_zero,Nat.sub_zero,List.map_take]) rfl ρ S w' hb (WM [802] (by simp) hR);exact Xg H w' (sW hL hX1 hD) s0 (by rw[List.length_take,List.length_drop];have:=(show 64≤Ab.length-64*m by have:=of_decide_eq_true h_q2;omega);omega) (fun x hx=>hA8 x (List.mem_of_mem_drop (List.mem_of_mem_take hx))))) ?_;refine k_k ?_;refine TZ ?_;refine Pj ?_;iterate 5 refine k_k ?_
     refine JY ?_;refine HQ ?_;refine k_s (by exact aW (a:=64) (m:=Ab.length-64*(m+1)) (l':=(Ab.drop (64*(m+1))).map b8) rfl rfl gg rfl rfl underlying23 sizeOf5 rfl (show 64≤Ab.length-64*m by have:=of_decide_eq_true h_q2;omega) (by rw[←List.map_drop,ak]) (by simp) (by omega)) ?_;refine k_k ?_;refine JY ?_;refine ZJ ?_;refine k_k ?_;have h64:64≤Ab.length-64*m:=by have:=of_decide_eq_true h_q2;omega
     refine⟨⟨m+1,by omega⟩,by show Ab.length-64*(m+1)<Ab.length-64*m;omega,?_⟩;have e3:TollSha.press H ((Ab.drop (64*m)).take 64)=Bn H0 Ab (m+1):=by rw[←hH];rfl
     rw[e3];exact(Ar (fun i=>i==0||i==8||i==9||i==10) []).trans2 (fun f=>DD.trans2 (Lc (a:=(56,_)) (b:=(801,_)) (show(56:Nat)≠801 by decide)) (fun _=>Dk 56 802 (by decide) rfl))
   ·rw[hst,hwt,hwl,←hAbl]
    exact(Ar (fun i=>i==0||i==8||i==9||i==10) []).trans2 (fun f=>DD.trans2 (Lc (a:=(29,_)) (b:=(801,_)) (show(29:Nat)≠801 by decide)) (fun _=>Dk 29 802 (by decide) rfl))
 ·refine(Ar (fun i=>i==0||i==8||i==9||i==10) []).trans2 (fun f=>Qv (fun _=>undef) ?_)
  simp[B0,BQ,mO,I9,aI]
def CQ(w:World):Prop:= ∀j v,([uv H0.a,uv H0.b,uv H0.c,uv H0.d,uv H0.e,uv H0.f,uv H0.g,uv H0.h]:List Value)[j]? =some v→w.cell? ⟨6,j,none⟩=some v
theorem CQ.bw(h:CQ w)(hb:Bw w w'):CQ w':=fun j v hj=>hb.cell (h j v hj)
theorem ej:stH []=H0:=rfl
theorem qY(h:List Value)(hh:h=[uv H0.a,uv H0.b,uv H0.c,uv H0.d,uv H0.e,uv H0.f,uv H0.g,uv H0.h]):prog.built 250 [(0,.agg h.toArray)]=some #[uv H0.a,uv H0.b,uv H0.c,uv H0.d,uv H0.e,uv H0.f,uv H0.g,uv H0.h,.slice none 0 0,.int .i64 0]:=by subst hh;kernel_rfl
def stL(H:St)(r n:Nat):List SV:=[.v (uv H.a),.v (uv H.b),.v (uv H.c),.v (uv H.d),.v (uv H.e),.v (uv H.f),.v (uv H.g),.v (uv H.h),.d r,.v (.int .i64 (n:Nat))]
section
variable{w0:World}{ops:Array Oper}{o:Oper}{s:VS}
theorem ab(r:Nat)(hir:r≠id)(hL:CQ w0)(hNew: ∀w,CQ w→Calls prog 142 #[] w fun e w'=> ∃g,e= .returned (.pointer (some ⟨g,0,none⟩))∧w.heap.size≤g∧w'.heap[g]? =some (.cells (HH [] Bg).toArray 250 (0,0))∧Bw w w')
 (_hd:o.dst=some id)(ho:o.op= .call {callee:= .value (.func 142),args:= #[],argTypes:= #[]})(hgd:AQ ops o s)(_he: ∀args w,(callFunc 142 args).run prog w= .ok (.enter 142 args) w):
 Ev prog ops w0 o s ⟨.p id 0,[(id,.cells (stL H0 r 0) 250),(r,.row 0 1 5 (.exact []))],[],[id,r],[]⟩:=by
 refine⟨by simp[Eff.ok],.inr ⟨hgd,fun ρ S w hb hR=> .inr (.inr ⟨142,#[],?_,(hNew w (hL.bw hb)).mono fun e w' ⟨g,h1,h2,h3,h4⟩=>⟨_,h1,fun k=>if k=id then⟨g,undef⟩else if k=r then⟨0,Bg⟩else ρ k,fun _ _=>False,?_⟩⟩)⟩⟩
 ·obtain⟨dst,op,type,pos,after,guard⟩:=o
  simp only at ho;subst ho;rw[execOp_call_go];simp
 ·have cs: ∀i b,AJ [(id,Blk.cells (stL H0 r 0) 250),(r,.row 0 1 5 (.exact []))] i=some b→(i=id∧b= .cells (stL H0 r 0) 250)∨(i=r∧b= .row 0 1 5 (.exact [])):=by
   intro i b h;simp only[AJ]at h;split at h
   ·injection h with h;exact .inl ⟨by assumption,h.symm⟩
   ·split at h
    ·injection h with h;exact .inr ⟨by assumption,h.symm⟩
    ·cases h
  refine⟨by simp[SV.c],fun i hi=> ?_,h4.os,h4.tape,h4.output,h4.size,fun k hk _=>h4.block k hk,?_,fun _ _ _ h=>h.elim,?_,?_⟩
  ·simp only[List.mem_cons,List.not_mem_nil,or_false,not_or]at hi
   rw[if_neg hi.1,if_neg hi.2]
  ·intro i b h
   rcases cs i b h with⟨rfl,rfl⟩|⟨rfl,rfl⟩
   ·refine⟨by simp only[if_true];exact Nat.le_trans hb.size h2,?_⟩
    simp only[if_true];rw[h3];simp[CP,stL,SV.cs,SV.c,HH,hir,ej]
   ·exact⟨[],rfl,rfl,.inl ⟨by simp[hir,Bg],rfl⟩⟩
  ·intro i b h hob
   rcases cs i b h with⟨rfl,rfl⟩|⟨rfl,rfl⟩
   ·exact .inr ⟨by simp only[if_true];exact h2,fun _ _ h=>h⟩
   ·exact absurd (by simp[hir,Bg]) hob
  ·intro i b j c hi hob hj hoc _
   rcases cs i b hi with⟨rfl,rfl⟩|⟨rfl,rfl⟩
   ·rcases cs j c hj with⟨rfl,rfl⟩|⟨rfl,rfl⟩
    ·rfl
    ·exact absurd (by simp[hir,Bg]) hoc
   ·exact absurd (by simp[hir,Bg]) hob
theorem Tx{wl:Nat}(r2:Nat){x:Operand}{sy:SV}(rd:List Nat)(h2:r2≠id)(hL:B6 w0)(hb1:7<w0.heap.size)
 (ho:o.op= .call {callee:= .value (.func 143),args:= #[x,y],argTypes:= #[211,43]})(hgd:AQ ops o s)(_he: ∀args w,(callFunc 143 args).run prog w= .ok (.enter 143 args) w)
 (hx:AE s x= .p id 0)(hy:AE s y=sy)(hm1:s.mem id=some (.cells (stL (stH a) r n) 250))(hm2:s.mem r=some (.row wl 1 5 (.exact ((stW a).map b8))))(hn:n=a.length)(hw:wl=(stW a).length)(hi:id∈rd)(hr:r∈rd)
 (hp: ∀ρ S w,Bw w0 w→RelOn w0.heap.size ρ S w (restr rd s.mem)→ ∃F,HA w (sy.c ρ) ls F∧ ∀k,F k→k≠(ρ id).g∧((ρ r).val≠Bg→k≠(ρ r).g))
 (ha8: ∀x∈a,x<256)(hlt:(a++ls.flatten).length<1048576)(hln:ls.length≤1048576):
 Ev prog ops w0 o s ⟨.v (.tuple #[]),[(id,.cells (stL (stH (a++ls.flatten)) r2 (a++ls.flatten).length) 250),(r2,.row (stW (a++ls.flatten)).length 1 5 (.exact ((stW (a++ls.flatten)).map b8)))],[id,r],[r2],rd⟩:=by
 subst hn hw;refine⟨by simp[Eff.ok,hi,hr],.inr ⟨hgd,fun ρ S w hb hR=> ?_⟩⟩;obtain⟨F,hP,hF⟩:=hp ρ S w hb hR;have g1:=relon_get hR hm1 hi;obtain⟨xs,x1,x2,x3⟩:=relon_get hR hm2 hr;have x2':xs=(stW a).map b8:=x2;subst x2';have hin: ∀j,j∈rd→restr rd s.mem j=s.mem j:=fun j hj=>by unfold restr;rw[if_pos hj]
 have hne:(ρ r).val≠Bg→(ρ r).g≠(ρ id).g:=fun hv he=>by
  have:=hR.inj r _ id _ ((hin r hr).trans hm2) hv ((hin id hi).trans hm1) True.intro he;subst this;rw[hm1]at hm2;cases hm2
 have hst:Qk w (ρ id).g (ρ r).g (ρ r).val a:=by
  refine⟨?_,?_,hne⟩
  ·rw[g1.2];rfl
  ·rcases x3 with x3|⟨off,cap,cur,fz,a1,_,a3⟩
   ·exact .inl x3
   ·exact .inr ⟨off,cap,cur,fz,a1,Nat.zero_le _,a3⟩
 have hX1: ¬StX (ρ id).g (ρ r).g (ρ r).val 7:=by
  rintro(h|⟨hv,h⟩)
  ·have:=g1.1;omega
  ·rcases x3 with⟨x3,_⟩|⟨_,_,_,_,_,a2,_⟩
   ·exact hv x3
   ·have:w0.heap.size≤(ρ r).g:=a2
    omega
 refine .inr (.inr ⟨143,#[.pointer (some ⟨(ρ id).g,0,none⟩),sy.c ρ],?_,(sO (hL.bw hb) hX1 hst hP (fun k hk hX=> ?_) ha8 hlt hln).mono fun e w' ⟨h1,h3,gr',wv',h4,h5,h6,h7⟩=>⟨_,h1,fun k=>if k=r2 then⟨gr',wv'⟩else ρ k,fun _ _=>False,?_⟩⟩)
 ·have e1:=AI s ρ x
  rw[hx]at e1;have e2:=AI s ρ y;rw[hy]at e2;obtain⟨dst,op,type,pos,after,guard⟩:=o;simp only at ho;subst ho;rw[execOp_call_go];simp[e1,e2,SV.c]
 ·rcases hX with hX|⟨hv,hX⟩
  ·exact(hF k hk).1 hX
  ·exact(hF k hk).2 hv hX
 ·obtain⟨A,hA⟩: ∃A,a++ls.flatten=A:=⟨_,rfl⟩
  rw[hA]at h4⊢
  have cs: ∀i b,AJ [(id,Blk.cells (stL (stH A) r2 A.length) 250),(r2,.row (stW A).length 1 5 (.exact ((stW A).map b8)))] i=some b→(i=id∧b= .cells (stL (stH A) r2 A.length) 250)∨(i=r2∧b= .row (stW A).length 1 5 (.exact ((stW A).map b8))):=by
   intro i b h;simp only[AJ]at h;split at h
   ·injection h with h;exact .inl ⟨by assumption,h.symm⟩
   ·split at h
    ·injection h with h;exact .inr ⟨by assumption,h.symm⟩
    ·cases h
  have hbase:wv'≠Bg→w0.heap.size≤gr':=fun hv=>by
   rcases h6 hv with(h|⟨hv2,h⟩)|h
   ·rw[h];exact g1.1
   ·rcases x3 with⟨x3,_⟩|⟨_,_,_,_,_,a2,_⟩
    ·exact absurd x3 hv2
    ·rw[h];exact a2
   ·exact Nat.le_trans hb.size h
  refine⟨by simp[SV.c],fun i hi=> ?_,h3.os,h3.tape,h3.output,h7,fun k hk hup=>h5 k hk ?_,?_,fun _ _ _ h=>h.elim,?_,?_⟩
  ·simp only[List.mem_singleton]at hi
   rw[if_neg hi]
  ·rintro(h|⟨hv,h⟩)
   ·exact hup id (by simp) _ hm1 True.intro h.symm
   ·exact hup r (by simp) _ hm2 hv h.symm
  ·intro i b h
   rcases cs i b h with⟨rfl,rfl⟩|⟨rfl,rfl⟩
   ·refine⟨by simp only[if_neg (Ne.symm h2)];exact g1.1,?_⟩
    simp only[if_neg (Ne.symm h2)];rw[h4.1];simp[CP,stL,SV.cs,SV.c,HH]
   ·refine⟨(stW A).map b8,by simp,rfl,?_⟩
    simp only[if_true];rcases h4.2.1 with h|⟨off,cap,cur,fz,a1,a2,a3⟩
    ·exact .inl h
    ·exact .inr ⟨off,cap,cur,fz,a1,hbase (by show wv'≠Bg;have:wv'=_:=a1;rw[this];simp[Bg]),a3⟩
  ·intro i b h hob
   rcases cs i b h with⟨rfl,rfl⟩|⟨rfl,rfl⟩
   ·exact .inl ⟨i,by simp,_,hm1,True.intro,by simp only[if_neg (Ne.symm h2)]⟩
   ·have hv:wv'≠Bg:=by simpa[Blk.owns,Bg] using hob
    simp only[if_true];rcases h6 hv with(h|⟨hv2,h⟩)|h
    ·exact absurd h (h4.2.2 hv)
    ·exact .inl ⟨r,by simp,_,hm2,hv2,h.symm⟩
    ·exact .inr ⟨h,fun _ _ h=>h⟩
  ·intro i b j c hi hob hj hoc he
   rcases cs i b hi with⟨rfl,rfl⟩|⟨rfl,rfl⟩
   ·rcases cs j c hj with⟨rfl,rfl⟩|⟨rfl,rfl⟩
    ·rfl
    ·have hv:wv'≠Bg:=by simpa[Blk.owns,Bg] using hoc
     simp only[if_true,if_neg (Ne.symm h2)]at he;exact absurd he.symm (h4.2.2 hv)
   ·rcases cs j c hj with⟨rfl,rfl⟩|⟨rfl,rfl⟩
    ·have hv:wv'≠Bg:=by simpa[Blk.owns,Bg] using hob
     simp only[if_true,if_neg (Ne.symm h2)]at he;exact absurd he (h4.2.2 hv)
    ·rfl
end
theorem cz(w:World)(hH:CQ w):Calls prog 142 #[] w fun e w'=> ∃g,e= .returned (.pointer (some ⟨g,0,none⟩))∧w.heap.size≤g∧w'.heap[g]? =some (.cells (HH [] Bg).toArray 250 (0,0))∧Bw w w':=by
 go_enter func142,ntmps142
 refine A4 ?_;iterate 6 refine k_k ?_
 refine k_s (by exact A2 (vs:=[uv H0.a,uv H0.b,uv H0.c,uv H0.d,uv H0.e,uv H0.f,uv H0.g,uv H0.h]) rfl gg rfl underlying248 rfl sizeOf248 (fun j v hj=>(by rw[Nat.zero_add];exact hH j v hj)) rfl) ?_;refine k_s (by exact A6 rfl gg rfl (qY _ rfl)) ?_;iterate 3 refine k_k ?_
 refine AG ?_;refine AD (AH results142 (AF rfl)) ?_;intro ρ w' hr;refine⟨(ρ 3).g,rfl,?_,?_,hr.1⟩
 ·obtain⟨hb,S1,hR⟩:=hr
  exact(hR.good 3 _ rfl).1
 ·obtain⟨hb,S1,hR⟩:=hr
  exact(hR.good 3 _ rfl).2
theorem Xn{F:Nat→Prop}(h:HA w v ls F)(hb:Bw w w'):HA w' v ls F:=by
 obtain⟨vs,h1,h2⟩:=h;refine⟨vs,A5 h1 hb,fun i l hl=> ?_⟩;obtain⟨u,h3,h4,h5⟩:=h2 i l hl;exact⟨u,h3,A5 h4 hb,h5⟩
theorem bH{m:Mem}{wl:Nat}(hR:RelOn w0.heap.size ρ S w (restr rd m))(hid:id∈rd)(hr:r∈rd)(hm1:m id=some (.cells (stL (stH a) r n) 250))(hm2:m r=some (.row wl 1 5 (.exact ((stW a).map b8))))(hn:n=a.length)(hw:wl=(stW a).length)(hL:B6 w)(h8: ∀x∈a,x<256)(hm:a.length<1048576):
 Calls prog 144 (SV.cs ρ [.p id 0]).toArray w fun e w'=>e= .returned (.agg ((sha a).map b8).toArray)∧Bw w w':=by
 subst hn hw;have g1:=relon_get hR hm1 hid;obtain⟨xs,x1,x2,x3⟩:=relon_get hR hm2 hr;have x2':xs=(stW a).map b8:=x2;subst x2';have hs:ck w (ρ id).g (ρ r).val a:=fun j v hj=>Jl (l:=HH a (ρ r).val) (ty:=250) (by rw[g1.2];rfl) hj
 simp only[SV.cs,SV.c];exact sG w hL hs (DX x3 x1) h8 hm
theorem rF{base:Nat}{m:Mem}{l:List SV}{F:Nat→Prop}(hR:RelOn base ρ S w (restr rd m))(hid:id∈rd)(hr:r∈rd)(hm1:m id=some (.cells l ty))(hm2:m r=some (.row n 1 5 D))(hF: ∀k,F k→k<base): ∀k,F k→k≠(ρ id).g∧((ρ r).val≠Bg→k≠(ρ r).g):=fun k hk=>by
 have h0:=hF k hk;have g1:=(relon_get hR hm1 hid).1;obtain⟨xs,_,_,x3⟩:=relon_get hR hm2 hr;refine⟨fun h=>by omega,fun hv h=> ?_⟩;rcases x3 with⟨x3,_⟩|⟨_,_,_,_,_,a2,_⟩
 ·exact hv x3
 ·have:base≤(ρ r).g:=a2
  omega
theorem aL{F:Nat→Prop}(h:HA w v ls F): ∀x∈ls.flatten,x<256:=fun x hx=>by
 obtain⟨vs,_,h2⟩:=h;obtain⟨l,hl,hx⟩:=List.mem_flatten.1 hx;obtain⟨j,hj⟩:=List.getElem?_of_mem hl;obtain⟨_,_,_,h8⟩:=h2 j l hj;exact h8 x hx
theorem cw{F:Nat→Prop}(w:World)(hL:B6 w)(hH:CQ w)(hb1:7<w.heap.size)(hp:HA w v ls F)(hF: ∀k,F k→k<w.heap.size)(hlt:ls.flatten.length<1048576)(hln:ls.length≤1048576):Calls prog 90 #[v] w fun e w'=>e= .returned (.agg ((sha ls.flatten).map b8).toArray)∧Bw w w':=by
 go_enter func90,ntmps90
 refine Bz ?_
 refine M7 ?_;iterate 3 refine k_k ?_
 refine k_s (by exact ab 700 (by decide) hH (fun w h=>cz w h) rfl rfl gg (eo func142)) ?_;iterate 6 refine k_k ?_
 refine k_s (by exact Tx (id:=4) (r:=700) (n:=0) (wl:=0) (a:=[]) (ls:=ls) 701 [4,700] (by decide) hL hb1 rfl gg (eo func143) rfl rfl rfl rfl rfl rfl (by simp) (by simp) (fun ρ S w' hb hR=>⟨F,Xn hp hb,rF (id:=4) (r:=700) hR (by simp) (by simp) rfl rfl hF⟩) (fun x hx=>by cases hx) hlt hln) ?_;iterate 4 refine k_k ?_
 refine k_s (by exact Aj (v:= .agg ((sha ls.flatten).map b8).toArray) [4,701] rfl gg rfl (eo func144) (fun ρ S w' hb hR=>bH (id:=4) (r:=701) (a:=ls.flatten) hR (by simp) (by simp) rfl rfl rfl rfl (hL.bw hb) (aL hp) hlt)) ?_;refine k_s (by exact Et (l':=(sha ls.flatten).map b8) rfl gg rfl rfl rfl sizeOf64 (by simp[Value.cells,sha_len]) (by rw[Fi (by simp)];decide) (by show((sha ls.flatten).map b8).toArray.toList.all _=true;exact DR _) (by rw[List.take_zero,List.nil_append,List.drop_of_length_le (by rw[Fi (by simp)];decide),List.append_nil];simp[Value.cells])) ?_;refine EP ?_;refine AD (AH results90 (KC (vs:=(sha ls.flatten).map b8) rfl rfl underlying64 rfl sizeOf64 (List.take_of_length_le (by simp[sha_len])) (by simp[sha_len]))) ?_;intro ρ w' hr;exact⟨rfl,hr.1⟩
theorem fg(w:World)(dT sT ty elem:TypeId)(ad:Option Addr)(n cap:Nat)(ao:Option Addr)(sc:Nat)(hu:prog.underlying dT=some (.slice elem))(hs:(prog.info? elem).map (·.size)=some 1):
 (Builtin.copy_ #[dT,sT] ty #[.slice ad n cap,.slice ao 0 sc]).run prog w= .ok (goInt 0) w:=by
 cases hq:prog.info? elem with
 |none=>simp[hq]at hs
 |some i=>
  have hi:i.size=1:=by simpa[hq] using hs
  cases ao<;>cases ad<;>simp[Builtin.copy_,run_underlying hu,Builtin.lenOf,Builtin.firstCells,sizeOf,typeInfo,hq,loadCells,loadCellsFrom,storeCells]
theorem oV{dT sT:TypeId}{x:Operand}{l news:List Value}(ho:o.op= .call {callee:= .builtin .copy,args:= #[x,y],argTypes:= #[dT,sT]})(hgd:AQ ops o s)
 (hx:AE s x= .d id)(hm:s.mem id=some (.row n 1 e (.exact l)))(hy:AE s y= .v v)(hr:AO w0 v 0 1 news S0)(hu:prog.underlying dT=some (.slice e))(hs:(prog.info? e).map (·.size)=some 1)(_hpos:0<n):
 Ev prog ops w0 o s ⟨.v (.int .i64 0),[],[],[],[id]⟩:=
 Ev.run _ _ hgd fun ρ S w hb hR=>by
  have e1:=AI s ρ x;rw[hx]at e1;have e2:=AI s ρ y;rw[hy]at e2;obtain⟨xs,hxl,hxe,hrow⟩:=relon_get hR hm (by simp);obtain⟨ao,sc,rfl,_,_,_⟩:=hr;obtain⟨ad,cap,h1,_⟩:=DX hrow hxl;simp only[SV.c]at e1 e2;rw[h1]at e1;have hrun:=fg w dT sT o.type e ad n cap ao sc hu hs;unfold execOp;simp only[ho,resolve,invoke,builtin,Sem.run_bind,Sem.run_pure,Result.andThen_ok,List.map_toArray,List.map_cons,List.map_nil,e1,e2,hrun,SV.c,goInt]
theorem u8x(b c:Nat)(hb:b<256)(hc:c<256):bits .xor .u8 (b:Int) (c:Int)=((b^^^c:Nat):Int):=by
 have h:=Nat.xor_lt_two_pow (n:=8) (x:=b) (y:=c) (by omega) (by omega);show IntKind.u8.wrap ((BitVec.ofInt 8 (b:Int)^^^BitVec.ofInt 8 (c:Int)).toNat:Int)=_;rw[BitVec.toNat_xor,BitVec.toNat_ofInt,BitVec.toNat_ofInt];have h1:((b:Int) %((2^8:Nat):Int)).toNat=b:=by omega
 have h2:((c:Int) %((2^8:Nat):Int)).toNat=c:=by omega
 rw[h1,h2,IntKind.wrap_u8'];omega
theorem Uw{b c:Nat}(hb:b<256)(hc:c<256)(p q:Operand)(w:World):(do eqGuard .xor 5 p q (b8 b) (b8 c);binOp .xor 5 (b8 b) (b8 c):Sem Value).run prog w= .ok (b8 (b^^^c)) w:=by
 have h:=u8x b c hb hc;unfold b8
 go_simp
 try exact h
def FO(key:List Nat):List Nat:=key++List.replicate (64-key.length) 0
theorem S8(h:key.length≤64):(FO key).length=64:=by simp[FO];omega
theorem ZE(h: ∀x∈key,x<256): ∀x∈FO key,x<256:=fun x hx=>by
 rcases List.mem_append.1 hx with hx|hx
 ·exact h x hx
 ·rw[(List.mem_replicate.1 hx).2];decide
def Eh(K:List Nat)(x i:Nat):List Nat:=(K.take i).map (· ^^^x)++K.drop i
theorem Xw{K:List Nat}(h:i<K.length):(Eh K x i)[i]? =some (K.getD i 0):=by
 have e:((K.take i).map (· ^^^x)).length=i:=by simp;omega
 unfold Eh;rw[List.getElem?_append_right (by omega),e,Nat.sub_self,List.getElem?_drop];simp[List.getD,h]
theorem kR{K:List Nat}(h:i<K.length):(Eh K x i).set i (K.getD i 0^^^x)=Eh K x (i+1):=by
 have e:((K.take i).map (· ^^^x)).length=i:=by simp;omega
 have e2:K.drop i=K.getD i 0::K.drop (i+1):=by rw[List.drop_eq_getElem_cons h];simp[List.getD,h]
 have e3:K.take (i+1)=K.take i++[K.getD i 0]:=Im (by simp[List.getD,h]);unfold Eh;rw[e2,e3,List.map_append,List.append_assoc,List.set_append_right _ _ (by omega),e,Nat.sub_self];rfl
theorem Xv(h:key.length≤64):Eh (FO key) x 64=D4 key x:=by
 have hl:=S8 h;unfold Eh D4;rw[List.take_of_length_le (by omega),List.drop_of_length_le (by omega),List.append_nil];apply List.ext_getElem?;intro i;rw[List.getElem?_map,List.getElem?_map];by_cases hi:i<64
 ·have h1:(FO key)[i]? =some (key.getD i 0):=by
   unfold FO;by_cases hk:i<key.length
   ·rw[List.getElem?_append_left hk];simp[List.getD,hk]
   ·rw[List.getElem?_append_right (by omega),List.getElem?_replicate,if_pos (by omega)]
    simp[List.getD,List.getElem?_eq_none (show key.length≤i by omega)]
  rw[h1,List.getElem?_range hi];rfl
 ·rw[List.getElem?_eq_none (by omega),List.getElem?_eq_none (by simp;omega)];rfl
def Z64:List Value:=List.replicate 64 (Value.int .u8 0)
theorem cd:Z64=(List.replicate 64 0).map b8:=by rw[List.map_replicate];rfl
theorem sB(_h:key.length≤64):key.map b8++Z64.drop key.length=(Eh (FO key) x 0).map b8:=by
 rw[cd,←List.map_drop,←List.map_append,List.drop_replicate];rfl
theorem aQ{t:TypeId}{x:Operand}{z:Value}(l:List Value)(hl:List.replicate k z=l)(hd:o.dst=some id)(ho:o.op= .makeSlice t x y)(hgd:AQ ops o s)
 (hx:AE s x= .v (.int .i64 (k:Nat)))(hy:AE s y= .v (.int .i64 (k:Nat)))(ht:prog.underlying t=some (.slice e))(hI:DT prog e 1 1)(hz: ∀w,(zeroValue e).run prog w= .ok z w)(hzc:z.cells= #[z])(hk:k≤140737488355328):
 Ev prog ops w0 o s ⟨.d id,[(id,.row k 1 e (.exact l))],[],[id],[]⟩:=by
 subst hl;exact aP hd ho hgd hx hy ht hI hz hzc hk
theorem rZ(c:Nat):(b8 c).cells= #[b8 c]:=rfl
theorem kQ{S:Nat→Prop}(w:World)(hv:AO w v key.length 1 (key.map b8) S)(hkl:key.length≤64)(hk8: ∀y∈key,y<256)(hx:x<256)(h0:key=[]):Calls prog 184 #[v,b8 x] w fun e w'=> ∃v',e= .returned v'∧BN w w' v' 64 1 5 ((D4 key x).map b8)∧Bw w w':=by
 have hKl:=S8 hkl;have hK8:=ZE hk8
 go_enter func184,ntmps184
 refine A4 ?_;iterate 6 refine k_k ?_
 refine k_s (by exact aQ (k:=64) Z64 rfl rfl rfl gg rfl rfl underlying23 el5 zeroValue5 rfl (by decide)) ?_;iterate 6 refine k_k ?_
 refine k_s (by exact oV rfl gg rfl rfl rfl (by rw[h0]at hv;exact hv) underlying23 (by kernel_rfl) (by decide)) ?_;iterate 5 refine k_k ?_
 refine El ?_;iterate 3 refine k_k ?_
 refine Bo (α:={y:Nat // y≤64}) (fun(y:{y:Nat // y≤64}) f=>⟨[.v (f 0),.v (b8 x),.v (f 2),.v (f 3),.v (f 4),.d 7,.v (f 6),.v (f 7),.v (f 8),.v (f 9),.v (f 10),.v (f 11),.v (.int .i64 64),.v (.int .i64 (y.1:Nat)),.v (f 14),.v (f 15),.v (f 16),.v (f 17),.v (f 18),.v (f 19),.v (f 20),.v (f 21),.v (f 22),.v (f 23),.v (f 24)],AJ [(7,.row 64 1 5 (.exact ((Eh (FO key) x y.1).map b8)))]⟩) (fun y=>64-y.1) ?_ (⟨0,Nat.zero_le _⟩) ?_
 ·rintro⟨i,hi⟩ f
  obtain⟨q,h_q⟩: ∃q,decide (i<64)=q:=⟨_,rfl⟩
  have h_q':=(CL i 64).trans h_q;refine Ch ?_
  refine k_s (by exact BM rfl gg rfl rfl h_q') ?_;iterate 2 refine k_k ?_
  cases q
  ·refine k_k ?_
   have hi64:i=64:=by have:=of_decide_eq_false h_q;omega
   subst hi64;refine As ?_;refine IG ?_
   refine AG ?_;refine AD (AH results184 (AF rfl)) ?_;intro ρ w' hr;refine⟨_,rfl,?_,hr.1⟩;have hh:=B8 (id:=7) hr rfl;rw[Xv hkl]at hh;exact hh
  ·refine k_k ?_
   have hlt:i<64:=of_decide_eq_true h_q;iterate 11 refine k_k ?_
   refine Kp ?_;refine k_s (by exact Cb rfl gg rfl underlying5 rfl (BI rfl) (by rw[List.getElem?_map,Xw (by rw[hKl];exact hlt)];rfl)) ?_;refine k_k ?_;refine k_s (by exact AK rfl gg rfl rfl (fun w=>Uw (P6 hK8 _) hx _ _ w)) ?_;refine Kp ?_;refine Zd ?_;iterate 2 refine k_k ?_
   refine ER ?_;iterate 2 refine k_k ?_
   refine⟨⟨i+1,by omega⟩,by show 64-(i+1)<64-i;omega,?_⟩;exact Ar (fun i=>i==1||i==5||i==12||i==13) []
 ·rw[show Z64=(Eh (FO key) x 0).map b8 by subst h0;exact cd]
  exact Ar (fun i=>i==1||i==5||i==12||i==13) []
theorem kO{S:Nat→Prop}(w:World)(hv:AO w v key.length 1 (key.map b8) S)(hkl:key.length≤64)(hk8: ∀y∈key,y<256)(hx:x<256)(h0:0<key.length):Calls prog 184 #[v,b8 x] w fun e w'=> ∃v',e= .returned v'∧BN w w' v' 64 1 5 ((D4 key x).map b8)∧Bw w w':=by
 have hKl:=S8 hkl;have hK8:=ZE hk8
 go_enter func184,ntmps184
 refine A4 ?_;iterate 6 refine k_k ?_
 refine k_s (by exact aQ (k:=64) Z64 rfl rfl rfl gg rfl rfl underlying23 el5 zeroValue5 rfl (by decide)) ?_;iterate 6 refine k_k ?_
 refine k_s (by exact oU (l':=(Eh (FO key) x 0).map b8) rfl gg rfl rfl rfl (AW hv) underlying23 (by kernel_rfl) hkl h0 (by decide) (DR _) (sB hkl)) ?_;iterate 5 refine k_k ?_
 refine El ?_;iterate 3 refine k_k ?_
 refine Bo (α:={y:Nat // y≤64}) (fun(y:{y:Nat // y≤64}) f=>⟨[.v (f 0),.v (b8 x),.v (f 2),.v (f 3),.v (f 4),.d 7,.v (f 6),.v (f 7),.v (f 8),.v (f 9),.v (f 10),.v (f 11),.v (.int .i64 64),.v (.int .i64 (y.1:Nat)),.v (f 14),.v (f 15),.v (f 16),.v (f 17),.v (f 18),.v (f 19),.v (f 20),.v (f 21),.v (f 22),.v (f 23),.v (f 24)],AJ [(7,.row 64 1 5 (.exact ((Eh (FO key) x y.1).map b8)))]⟩) (fun y=>64-y.1) ?_ (⟨0,Nat.zero_le _⟩) ?_
 ·rintro⟨i,hi⟩ f
  obtain⟨q,h_q⟩: ∃q,decide (i<64)=q:=⟨_,rfl⟩
  have h_q':=(CL i 64).trans h_q;refine Ch ?_
  refine k_s (by exact BM rfl gg rfl rfl h_q') ?_;iterate 2 refine k_k ?_
  cases q
  ·refine k_k ?_
   have hi64:i=64:=by have:=of_decide_eq_false h_q;omega
   subst hi64;refine As ?_;refine IG ?_
   refine AG ?_;refine AD (AH results184 (AF rfl)) ?_;intro ρ w' hr;refine⟨_,rfl,?_,hr.1⟩;have hh:=B8 (id:=7) hr rfl;rw[Xv hkl]at hh;exact hh
  ·refine k_k ?_
   have hlt:i<64:=of_decide_eq_true h_q;iterate 11 refine k_k ?_
   refine Kp ?_;refine k_s (by exact Cb rfl gg rfl underlying5 rfl (BI rfl) (by rw[List.getElem?_map,Xw (by rw[hKl];exact hlt)];rfl)) ?_;refine k_k ?_;refine k_s (by exact AK rfl gg rfl rfl (fun w=>Uw (P6 hK8 _) hx _ _ w)) ?_;refine Kp ?_;refine Zd ?_;iterate 2 refine k_k ?_
   refine ER ?_;iterate 2 refine k_k ?_
   refine⟨⟨i+1,by omega⟩,by show 64-(i+1)<64-i;omega,?_⟩;exact Ar (fun i=>i==1||i==5||i==12||i==13) []
 ·exact Ar (fun i=>i==1||i==5||i==12||i==13) []
theorem Xs{S:Nat→Prop}(w:World)(hv:AO w v key.length 1 (key.map b8) S)(hkl:key.length≤64)(hk8: ∀y∈key,y<256)(hx:x<256):Calls prog 184 #[v,b8 x] w fun e w'=> ∃v',e= .returned v'∧BN w w' v' 64 1 5 ((D4 key x).map b8)∧Bw w w':=by
 by_cases h0:0<key.length
 ·exact kO w hv hkl hk8 hx h0
 ·exact kQ w hv hkl hk8 hx (List.eq_nil_of_length_eq_zero (by omega))
def LW(base:Nat)(ρ:Nat→Nm)(S:Nat→Nat→Prop)(m:Mem)(rd:List Nat)(k:Nat):Prop:=k<base∨ ∃j∈rd,∃b,m j=some b∧((b.owns (ρ j)∧k=(ρ j).g)∨S j k)
theorem Rj{l:List Value}{S S':Nat→Prop}(h:AO w v n size l S)(hs: ∀k,S k→S' k):AO w v n size l S':=by
 obtain⟨ao,cap,h1,h2,h3,h4⟩:=h;exact⟨ao,cap,h1,h2,h3,h4.imp _root_.id fun⟨a,b,c,d⟩=>⟨a,b,hs _ c,d⟩⟩
theorem LW.mono{base:Nat}{m:Mem}{rd':List Nat}(h:LW base ρ S m rd k)(hs: ∀j∈rd,j∈rd'):LW base ρ S m rd' k:=
 h.imp _root_.id fun⟨j,a,b⟩=>⟨j,hs j a,b⟩
def LV(w0:World)(m:Mem)(rd:List Nat)(x:SV)(n:Nat)(l:List Value):Prop:=
 ∀ρ S w,Bw w0 w→RelOn w0.heap.size ρ S w (restr rd m)→AO w (x.c ρ) n 1 l (LW w0.heap.size ρ S m rd)
def Uo(w0:World)(m:Mem)(rd:List Nat)(x:SV)(ls:List (List Nat)):Prop:=
 ∀ρ S w,Bw w0 w→RelOn w0.heap.size ρ S w (restr rd m)→HA w (x.c ρ) ls (LW w0.heap.size ρ S m rd)
section
variable{w0:World}{m:Mem}{rd:List Nat}
theorem Ol{l:List Value}(hid:id∈rd)(hm:m id=some (.row n 1 e (.exact l))):LV w0 m rd (.d id) n l:=fun ρ S w hb hR=>by
 obtain⟨xs,x1,x2,x3⟩:=relon_get hR hm hid;have x2':xs=l:=x2;subst x2';by_cases hv:(ρ id).val=Bg
 ·rcases x3 with⟨_,h0⟩|⟨off,cap,cur,fz,a1,_⟩
  ·subst h0
   exact⟨none,0,hv,Nat.le_refl _,x1,.inl (List.eq_nil_of_length_eq_zero (by simpa using x1))⟩
  ·rw[hv]at a1;simp[Bg]at a1
 ·exact Rj (DX x3 x1) fun k hk=> .inr ⟨id,hid,_,hm,.inl ⟨hv,hk⟩⟩
theorem WU{len cap:Nat}(hid:id∈rd)(hm:m id=some (.arr b ty))(hn:b.length=len)(hc:len≤cap):LV w0 m rd (.s id 0 len cap) len b:=fun ρ S w hb hR=>by
 have h:=relon_get hR hm hid;refine⟨_,cap,rfl,hc,by omega,.inr ⟨_,rfl,.inr ⟨id,hid,_,hm,.inl ⟨True.intro,rfl⟩⟩,fun i x hx=> ?_⟩⟩;rw[Bd,Nat.zero_add];exact Jl (by rw[h.2]) hx
theorem kJ{F:Nat→Prop}(h:HA w0 v ls F)(hF: ∀k,F k→k<w0.heap.size):Uo w0 m rd (.v v) ls:=fun ρ S w hb _=>by
 obtain⟨vs,h1,h2⟩:=Xn h hb;refine⟨vs,Rj h1 fun k hk=> .inl (hF k hk),fun i l hl=> ?_⟩;obtain⟨u,h3,h4,h5⟩:=h2 i l hl;exact⟨u,h3,Rj h4 fun k hk=> .inl (hF k hk),h5⟩
def Qr(w0:World)(m:Mem)(rd:List Nat):List SV→List (List Nat)→Prop
 | [],[]=>True
 |y::ys,l::ls=>(LV w0 m rd y l.length (l.map b8)∧ ∀x∈l,x<256)∧Qr w0 m rd ys ls
 |_,_=>False
theorem cU: ∀{ys:List SV} {ls:List (List Nat)},Qr w0 m rd ys ls→ys.length=ls.length
 | [],[],_=>rfl
 |_::_,_::_,h=>by simp[cU h.2]
 | [],_::_,h=>h.elim
 |_::_,[],h=>h.elim
theorem cV: ∀{ys:List SV} {ls:List (List Nat)},Qr w0 m rd ys ls→ ∀(i:Nat) (l:List Nat),ls[i]? =some l→ ∃y,ys[i]? =some y∧LV w0 m rd y l.length (l.map b8)∧ ∀x∈l,x<256
 | [],[],_,i,l,hl=>by simp at hl
 |y::_,_::_,h,0,l,hl=>by
  simp only[List.getElem?_cons_zero,Option.some.injEq]at hl;subst hl;exact⟨y,rfl,h.1⟩
 |_::_,_::_,h,i+1,l,hl=>by
  simp only[List.getElem?_cons_succ]at hl⊢;exact cV h.2 i l hl
 | [],_::_,h,_,_,_=>h.elim
 |_::_,[],h,_,_,_=>h.elim
theorem H4(hid:id∈rd)(hm:m id=some (.cells ys ty))(hn:ls.length=n)(h:Qr w0 m rd ys ls):Uo w0 m rd (.s id 0 n n) ls:=fun ρ S w hb hR=>by
 have hc:=relon_get hR hm hid;subst hn;refine⟨SV.cs ρ ys,⟨_,_,rfl,Nat.le_refl _,by rw[A8,List.length_map,Nat.mul_one,cU h],.inr ⟨_,rfl,.inr ⟨id,hid,_,hm,.inl ⟨True.intro,rfl⟩⟩,fun i x hx=> ?_⟩⟩,fun i l hl=> ?_⟩
 ·rw[Bd,Nat.zero_add]
  rw[A8,List.getElem?_map]at hx;cases hy:ys[i]? with
  |none=>rw[hy]at hx;cases hx
  |some y=>rw[hy]at hx;simp only[Option.map_some,Option.some.injEq]at hx;rw[←hx];exact GK hc.2 hy
 ·obtain⟨y,h1,h2,h3⟩:=cV h i l hl
  exact⟨y.c ρ,by rw[A8,List.getElem?_map,h1];rfl,h2 ρ S w hb hR,h3⟩
theorem Xm{x:SV}{l:List SV}(rd2:List Nat)(h:Uo w0 m rd2 x ls)(hs: ∀j∈rd2,j∈rd)(hi:id∈rd)(hr:r∈rd)(hni:id∉rd2)(hnr:r∉rd2)(hm1:m id=some (.cells l ty))(hm2:m r=some (.row n 1 5 D)):
 ∀ρ S w,Bw w0 w→RelOn w0.heap.size ρ S w (restr rd m)→ ∃F,HA w (x.c ρ) ls F∧ ∀k,F k→k≠(ρ id).g∧((ρ r).val≠Bg→k≠(ρ r).g):=fun ρ S w hb hR=>by
 refine⟨_,h ρ S w hb (WM rd2 hs hR),fun k hk=> ?_⟩;have hin: ∀j,j∈rd→restr rd m j=m j:=fun j hj=>by unfold restr;rw[if_pos hj]
 have one: ∀q c,q∈rd→q∉rd2→m q=some c→c.owns (ρ q)→k≠(ρ q).g:=by
  rintro q c hq hn2 hm ho rfl;rcases hk with hk|⟨j,hj,b,hb',h1|h1⟩
  ·have:=(CR.own (relon_get hR hm hq) ho).1
   omega
  ·have:=hR.inj q _ j _ ((hin q hq).trans hm) ho ((hin j (hs j hj)).trans hb') h1.1 h1.2
   subst this;exact hn2 hj
  ·exact hR.dis q c j ((hin q hq).trans hm) ho (by rw[hin j (hs j hj),hb'];rfl) h1
 exact⟨one id _ hi hni hm1 True.intro,fun hv=>one r _ hr hnr hm2 hv⟩
theorem Ja(hb:Bw w0 w)(hR:RelOn w0.heap.size ρ S w (restr rd m)): ∀k,LW w0.heap.size ρ S m rd k→k<w.heap.size:=fun k hk=>by
 have hin: ∀j,j∈rd→restr rd m j=m j:=fun j hj=>by unfold restr;rw[if_pos hj]
 rcases hk with hk|⟨j,hj,b,hb',h1|h1⟩
 ·exact Nat.lt_of_lt_of_le hk hb.size
 ·rw[h1.2];exact(CR.own (relon_get hR hb' hj) h1.1).2
 ·exact hR.lt j k (by rw[hin j hj,hb'];rfl) h1
end
theorem Rk{a:Array Value}(h:a.size=1): ∃c,a= #[c]:=by
 have h':a.toList.length=1:=by simpa using h
 obtain⟨c,hc⟩:=List.length_eq_one_iff.1 h';exact⟨c,by apply Array.ext';rw[hc]⟩
theorem qv(v:Value)(w:World)(h:v.cells.size=1):(Instr.buildSlice 43 1 #[(0,v)]).run prog w= .ok (.slice (some ⟨w.heap.size,0,none⟩) 1 1) (w.alloc (.cells v.cells 23)):=by
 have hz: ∀w,(zeroValue 23).run prog w= .ok (.slice none 0 0) w:=zeroValue23;have hs: ∀w,(Go.sizeOf 23).run prog w= .ok 1 w:=sizeOf23;obtain⟨c,hc⟩:=Rk h;unfold Instr.buildSlice;have hzc:Value.cells (.slice none 0 0)= #[.slice none 0 0]:=rfl;simp[run_underlying underlying43,hs,hz,Instr.fill,hc,hzc,newRow,newObj];rw[show(Array.map (fun x=>([Value.slice none 0 0][x %1]?).getD default) (Array.range 1))= #[.slice none 0 0] from by kernel_rfl];rfl
theorem qu(v u:Value)(w:World)(h:v.cells.size=1)(h':u.cells.size=1):(Instr.buildSlice 43 2 #[(0,v),(1,u)]).run prog w= .ok (.slice (some ⟨w.heap.size,0,none⟩) 2 2) (w.alloc (.cells (v.cells++u.cells) 23)):=by
 have hz: ∀w,(zeroValue 23).run prog w= .ok (.slice none 0 0) w:=zeroValue23;have hs: ∀w,(Go.sizeOf 23).run prog w= .ok 1 w:=sizeOf23;obtain⟨c,hc⟩:=Rk h;obtain⟨d,hd⟩:=Rk h';unfold Instr.buildSlice;have hzc:Value.cells (.slice none 0 0)= #[.slice none 0 0]:=rfl;simp[run_underlying underlying43,hs,hz,Instr.fill,hc,hd,hzc,newRow,newObj];rw[show(Array.map (fun x=>([Value.slice none 0 0][x %1]?).getD default) (Array.range 2))= #[.slice none 0 0,.slice none 0 0] from by kernel_rfl];rfl
theorem og{x:Operand}{sv sv2:SV}{l l2:List SV}(rd:List Nat)(_hd:o.dst=some id)(ho:o.op= .buildSlice ty 2 #[(0,x),(1,y)])(hgd:AQ ops o s)
 (hx:AE s x=sv)(hy:AE s y=sv2)(hc: ∀ρ S w,RelOn w0.heap.size ρ S w (restr rd s.mem)→(sv.c ρ).cells.toList=SV.cs ρ l∧(sv2.c ρ).cells.toList=SV.cs ρ l2)(hn:l.length=n)(hn2:l2.length=n)(hid:SV.hasL id (l++l2)=false)
 (hb: ∀v u w,v.cells.size=n→u.cells.size=n→(Instr.buildSlice ty 2 #[(0,v),(1,u)]).run P w= .ok (.slice (some ⟨w.heap.size,0,none⟩) 2 2) (w.alloc (.cells (v.cells++u.cells) e))):Ev P ops w0 o s ⟨.s id 0 2 2,[(id,.cells (l++l2) e)],[],[id],rd⟩:=
 ⟨by simp[Eff.ok],.inr ⟨hgd,fun ρ S w hbw hR=>by
  have e0:=AI s ρ x;rw[hx]at e0;have e1:=AI s ρ y;rw[hy]at e1;obtain⟨hcs,hcs2⟩:=hc ρ S w hR;have hsz:(sv.c ρ).cells.size=n:=by rw[←Array.length_toList,hcs,A8,List.length_map];exact hn
  have hsz2:(sv2.c ρ).cells.size=n:=by rw[←Array.length_toList,hcs2,A8,List.length_map];exact hn2
  have hcells:(sv.c ρ).cells++(sv2.c ρ).cells=(SV.cs ρ (l++l2)).toArray:=by apply Array.ext';rw[Array.toList_append,hcs,hcs2];simp[A8]
  have hrun:=hb _ _ w hsz hsz2;rw[hcells]at hrun;refine .inl ⟨.slice (some ⟨w.heap.size,0,none⟩) 2 2,w.alloc (.cells (SV.cs ρ (l++l2)).toArray e),?_,fun j=>if j=id then⟨w.heap.size,undef⟩else ρ j,fun _ _=>False,?_⟩
  ·simp only[execOp,ho,List.map_toArray,List.map_cons,List.map_nil,e0,e1]
   rw[Sem.run_bind,hrun];rfl
  ·have:=Cj (base:=w0.heap.size) (t:=s.mem) (ρ:=ρ) (S:=S) (w:=w) (w':=w.alloc (.cells (SV.cs ρ (l++l2)).toArray e)) (val:= .s id 0 2 2) (rd:=rd) (up:=[]) (id:=id) (b:= .cells (l++l2) e) (m:=⟨w.heap.size,undef⟩) (S1:=fun _=>False)
    rfl rfl rfl (by simp) (fun k hk _=>heap_alloc_old w _ hk) (fun ρ' g1 g2=>by
     refine⟨by rw[g1];exact hbw.size,?_⟩;rw[g1];simp only[CP];rw[GI (nw:=[id]) (fun i hi=>g2 i (by simpa using hi)) (fun i hi=>by simp at hi;rw[hi];exact hid)];exact heap_alloc_new w _) (fun _ h=>h.elim) (fun _=> .inr ⟨Nat.le_refl _,fun h=>h⟩)
   simpa[SV.c] using this⟩⟩
theorem Xu(k:List Nat)(x:Nat):(D4 k x).length=64:=by simp[D4]
theorem Xt{k:List Nat}(h: ∀y∈k,y<256)(hx:x<256): ∀y∈D4 k x,y<256:=fun y hy=>by
 simp only[D4,List.mem_map,List.mem_range]at hy;obtain⟨i,_,rfl⟩:=hy;exact Nat.xor_lt_two_pow (n:=8) (P6 h i) hx
theorem Oa(s:List Nat): ∀x∈sha s,x<256:=kV _
theorem nJ{s:List Nat}(h:key.length≤64):sha (D4 key 92++sha (D4 key 54++s))=CH key s:=by
 unfold CH TollSha.keyOf;rw[if_neg (by omega)]
theorem NJ(k s:List Nat):(CH k s).length=32:=sha_len _
theorem NI(k s:List Nat): ∀x∈CH k s,x<256:=Oa _
theorem Me{u:Value}{F G:Nat→Prop}(w:World)(hL:B6 w)(hH:CQ w)(hb1:7<w.heap.size)(hv:AO w v key.length 1 (key.map b8) G)(hkl:key.length≤64)(hk8: ∀y∈key,y<256)(hp:HA w u ls F)(hF: ∀k,F k→k<w.heap.size)(hlt:ls.flatten.length<1040000)(hln:ls.length≤1048576):Calls prog 158 #[v,u] w fun e w'=>e= .returned (.agg ((CH key ls.flatten).map b8).toArray)∧Bw w w':=by
 obtain⟨I,hI⟩: ∃I,D4 key 54=I:=⟨_,rfl⟩
 obtain⟨O,hO⟩: ∃O,D4 key 92=O:=⟨_,rfl⟩
 have hIl:I.length=64:=by rw[←hI];exact Xu _ _
 have hOl:O.length=64:=by rw[←hO];exact Xu _ _
 have hI8: ∀x∈I,x<256:=by rw[←hI];exact Xt hk8 (by decide)
 have hO8: ∀x∈O,x<256:=by rw[←hO];exact Xt hk8 (by decide)
 have hres:sha [O,sha ([I].flatten++ls.flatten)].flatten=CH key ls.flatten:=by rw[←nJ hkl,hI,hO];simp
 rw[←hres]
 go_enter func158,ntmps158
 refine Bz ?_
 refine M7 ?_;iterate 5 refine k_k ?_
 refine CU ?_;refine FS ?_;iterate 5 refine k_k ?_
 refine k_s (by exact ab 700 (by decide) hH (fun w h=>cz w h) rfl rfl gg (eo func142)) ?_;iterate 6 refine k_k ?_
 refine k_s (by exact Cs [] rfl rfl gg rfl (eo func184) (n:=64) (size:=1) (l:=I.map b8) (by simp[hIl]) (fun ρ S w' hb hR=>by rw[←hI];exact Xs w' (A5 hv hb) hkl hk8 (by decide))) ?_;refine k_s (by exact Ty (n:=1) (l:=[.d 18]) [18] rfl rfl gg rfl (fun ρ S w' hR=>by have hh:=Cf (id:=18) hR (by simp) rfl;exact hh.1) rfl rfl qv) ?_;refine k_s (by exact Tx (id:=15) (r:=700) (n:=0) (wl:=0) (a:=[]) (ls:=[I]) 701 [15,700,18,19] (by decide) hL hb1 rfl gg (eo func143) rfl rfl rfl rfl rfl rfl (by simp) (by simp) (Xm [18,19] (H4 (by simp) rfl rfl ⟨⟨by rw[hIl];exact Ol (by simp) rfl,hI8⟩,trivial⟩) (by simp) (by simp) (by simp) (by decide) (by decide) rfl rfl) (fun x hx=>by cases hx) (by simp[hIl]) (by simp)) ?_;iterate 5 refine k_k ?_
 refine k_s (by exact Tx (id:=15) (r:=701) (a:=[I].flatten) (ls:=ls) 702 [15,701] (by decide) hL hb1 rfl gg (eo func143) rfl rfl rfl rfl rfl rfl (by simp) (by simp) (Xm [] (kJ hp hF) (by simp) (by simp) (by simp) (by decide) (by decide) rfl rfl) (by simpa using hI8) (by simp only[List.length_append,List.flatten_cons,List.flatten_nil,List.length_nil,hIl];omega) hln) ?_;iterate 4 refine k_k ?_
 refine k_s (by exact Aj (v:= .agg ((sha ([I].flatten++ls.flatten)).map b8).toArray) [15,702] rfl gg rfl (eo func144) (fun ρ S w' hb hR=>bH (id:=15) (a:=[I].flatten++ls.flatten) hR (by simp) (by simp) rfl rfl rfl rfl (hL.bw hb) (fun x hx=>by rcases List.mem_append.1 hx with hx|hx;exact hI8 x (by simpa using hx);exact aL hp x hx) (by simp only[List.length_append,List.flatten_cons,List.flatten_nil,List.length_nil,hIl];omega))) ?_;refine M7 ?_;refine ZO ?_;iterate 4 refine k_k ?_
 refine k_s (by exact Cs [] rfl rfl gg rfl (eo func184) (n:=64) (size:=1) (l:=O.map b8) (by simp[hOl]) (fun ρ S w' hb hR=>by rw[←hO];exact Xs w' (A5 hv hb) hkl hk8 (by decide))) ?_;refine k_s (by exact NS rfl gg rfl underlying64 sizeOf5) ?_;refine k_s (by exact og (n:=1) (l:=[.d 27]) (l2:=[.s 7 0 32 32]) [27] rfl rfl gg rfl rfl (fun ρ S w' hR=>by have hh:=Cf (id:=27) hR (by simp) rfl;exact⟨hh.1,rfl⟩) rfl rfl rfl qu) ?_;refine k_s (by exact Aj (v:= .agg ((sha [O,sha ([I].flatten++ls.flatten)].flatten).map b8).toArray) [7,27,29] rfl gg rfl (eo func90) (fun ρ S w' hb hR=>cw w' (hL.bw hb) (hH.bw hb) (Nat.lt_of_lt_of_le hb1 hb.size) (H4 (id:=29) (n:=2) (ls:=[O,sha ([I].flatten++ls.flatten)]) (by simp) (by rfl) rfl (by exact⟨⟨by rw[hOl];exact Ol (by simp) rfl,hO8⟩,⟨by rw[sha_len];exact WU (by simp) rfl (by simp[sha_len]) (by decide),Oa _⟩,trivial⟩) ρ S w' hb hR) (Ja hb hR) (by simp[hOl,sha_len]) (by simp))) ?_;refine ZO ?_;refine EP ?_;refine AD (AH results158 (KC (vs:=(sha [O,sha ([I].flatten++ls.flatten)].flatten).map b8) rfl rfl underlying64 rfl sizeOf64 (List.take_of_length_le (by simp[sha_len])) (by simp[sha_len]))) ?_;intro ρ w' hr;exact⟨rfl,hr.1⟩
end Go.Proofs.YtafbhakmkbehiaaGreatDoor
