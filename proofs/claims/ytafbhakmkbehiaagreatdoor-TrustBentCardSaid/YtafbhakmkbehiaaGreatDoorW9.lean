import Derived.Test.YtafbhakmkbehiaaGreatDoorW8
open Go.Proofs.Tryz
set_option maxHeartbeats 4000000
set_option maxRecDepth 100000
namespace Go.Proofs.YtafbhakmkbehiaaGreatDoor
open Go.RowKit Go.Vx
variable{ops:Array Oper}{D:Dat}{ls:List (List Nat)}{a k key rd:List Nat}{ys:List SV}{b:List Value}{g gr i id n r size x:Nat}{ρ:Nat->Nm}{S S0 X:Nat->Prop}{o:Oper}{y:Operand}{P:Program}{e ty:TypeId}{s:VS}{v wv:Value}{w w' w0:World}
open TollSha
theorem aH{y:Value}{a:Addr}{x:Value}(h:(LB w X).holds [y] w' S)(c:w.cell? a=some x)(d: ¬X a.block):w'.cell? a=some x:=by
 have f:=uF4 _ _ c;have j:=(h a.block f d).1;rw[<-c];simp only[World.cell?,j]
theorem L3{m:Mem}{F:Nat->Prop}{l:List Value}(B:m id=some (.dat (LB w X)))(h:AO w v n size l F)(z:∀k,F k-> ¬X k):Rdg (Jq w) m [id] (.v v) n size l:=λρ S w' E A=>by
 have u:=Gc A (RK.2 rfl) B;obtain⟨f,d,j,p,q,t⟩:=h;refine⟨F,f,d,by simp only[SV.c];exact j,p,q,t.imp _root_.id λ⟨g,a,b,c⟩=>⟨g,a,b,λi x C=> ?_⟩⟩;have e:(g.add i).block=g.block:=by unfold Addr.add;split<;>rfl
 exact aH u (c i x C) (by rw[e];exact z g.block b)
def HA(w:World)(v:Value)(ls:List (List Nat))(F:Nat->Prop):Prop:=
 ∃c,AO w v ls.length 1 c F/\ ∀(i:Nat) (l:List Nat),ls[i]? =some l-> ∃u,c[i]? =some u/\AO w u l.length 1 (l.map b8) F/\ ∀x∈l,x<256
def Qk(w:World)(g gr:Nat)(wv:Value)(a:List Nat):Prop:=
 w.heap[g]? =some (.cells (HH a wv).toArray 250 (0,0))/\EC w 0 ⟨gr,wv⟩ (stW a).length 1 5 ((stW a).map b8)/\(wv≠Bg->gr≠g)
def StX(g gr:Nat)(wv:Value)(k:Nat):Prop:=k=g\/(wv≠Bg/\k=gr)
def SU(g gr:Nat)(wv:Value):Nat->Nm:=λk=>if k=801 then⟨g,undef⟩else if k=802 then⟨gr,wv⟩else⟨0,undef⟩
def I9(w:World)(g gr:Nat)(wv:Value)(H:St)(j:List Nat)(n r:Nat):List (Nat×Blk):=
 [(801,.cells [.v (uv H.a),.v (uv H.b),.v (uv H.c),.v (uv H.d),.v (uv H.e),.v (uv H.f),.v (uv H.g),.v (uv H.h),.d r,.v (.int .i64 (n:Nat))] 250),(r,.row j.length 1 5 (.exact (j.map b8))),(803,.dat (LB w (StX g gr wv))),(804,.pin 801 g),(805,.floor w.heap.size)]
theorem jl(h:Qk w g gr wv a)(J:List SV):Rel (Jq w) (SU g gr wv) ⟨J,AJ (I9 w g gr wv (stH a) (stW a) a.length 802)⟩ w:=by
 obtain⟨B,u,C⟩:=h;refine⟨qP w,λi k=>i=803/\k<w.heap.size/\ ¬StX g gr wv k,?_⟩
 have t:∀i b,AJ (I9 w g gr wv (stH a) (stW a) a.length 802) i=some b->(i=801/\b=.cells [.v (uv (stH a).a),.v (uv (stH a).b),.v (uv (stH a).c),.v (uv (stH a).d),.v (uv (stH a).e),.v (uv (stH a).f),.v (uv (stH a).g),.v (uv (stH a).h),.d 802,.v (.int .i64 (a.length:Nat))] 250)\/
  (i=802/\b=.row (stW a).length 1 5 (.exact ((stW a).map b8)))\/(i=803/\b=.dat (LB w (StX g gr wv)))\/(i=804/\b=.pin 801 g)\/(i=805/\b=.floor w.heap.size):=by
  intro i b l;simp only[I9,AJ]at l;split at l
  .injection l with l;exact .inl ⟨by assumption,l.symm⟩
  .split at l
   .injection l with l;exact .inr (.inl ⟨by assumption,l.symm⟩)
   .split at l
    .injection l with l;exact .inr (.inr (.inl ⟨by assumption,l.symm⟩))
    .split at l
     .injection l with l;exact .inr (.inr (.inr (.inl ⟨by assumption,l.symm⟩)))
     .split at l
      .injection l with l;exact .inr (.inr (.inr (.inr ⟨by assumption,l.symm⟩)))
      .cases l
 have R:g<w.heap.size:=(z8.1 B).1
 have K:wv≠Bg->gr<w.heap.size:=λM=>by
  rcases u with⟨u,_⟩|⟨O,H,I,Q,_,_,E,_⟩
  .exact absurd u M
  .exact(z8.1 E).1
 refine⟨?_,?_,?_,?_,?_⟩
 .intro i b l
  rcases t i b l with⟨rfl,rfl⟩|⟨rfl,rfl⟩|⟨rfl,rfl⟩|⟨rfl,rfl⟩|⟨rfl,rfl⟩
  .refine⟨y6 _,?_⟩
   show w.heap[g]? =_;rw[B];rfl
  .exact⟨(stW a).map b8,by simp,rfl,u⟩
  .exact λk L N=>⟨rfl,rfl,L,N⟩
  .rfl
  .exact yD _
 .rintro i k _ ⟨_,h,_⟩;exact h
 .rintro i k _ _;exact y6 _
 .rintro i b j z p A ⟨rfl,E,F⟩
  rcases t i b z with⟨rfl,rfl⟩|⟨rfl,rfl⟩|⟨rfl,rfl⟩|⟨rfl,rfl⟩|⟨rfl,rfl⟩
  .exact F (.inl rfl)
  .exact F (.inr ⟨p,rfl⟩)
  .exact p
  .exact p
  .exact p
 .intro i b j c z p A q G
  rcases t i b z with⟨rfl,rfl⟩|⟨rfl,rfl⟩|⟨rfl,rfl⟩|⟨rfl,rfl⟩|⟨rfl,rfl⟩
  .rcases t j c A with⟨rfl,rfl⟩|⟨rfl,rfl⟩|⟨rfl,rfl⟩|⟨rfl,rfl⟩|⟨rfl,rfl⟩
   .rfl
   .exact absurd G.symm (C q)
   .exact q.elim
   .exact q.elim
   .exact q.elim
  .rcases t j c A with⟨rfl,rfl⟩|⟨rfl,rfl⟩|⟨rfl,rfl⟩|⟨rfl,rfl⟩|⟨rfl,rfl⟩
   .exact absurd G (C p)
   .rfl
   .exact q.elim
   .exact q.elim
   .exact q.elim
  .exact p.elim
  .exact p.elim
  .exact p.elim
theorem WM{d:Nat}{S:Nat->Nat->Prop}{m:Mem}(c:List Nat)(j:∀i∈c,i∈rd)(f:RelOn d ρ S w (restr rd m)):RelOn d ρ S w (restr c m):=by
 have e:restr c (restr rd m)=restr c m:=by
  funext k
  unfold restr;by_cases h:k∈c
  .rw[x9 h,x9 h,x9 (j k h)]
  .rw[x8 h,x8 h]
 rw[<-e];exact f.restr c
def aI(a:List Nat)(ls:List (List Nat))(i:Nat):List Nat:=a++(ls.take i).flatten
def mO(w:World)(g gr:Nat)(wv:Value)(a:List Nat)(ls:List (List Nat))(i:Nat):List (Nat×Blk):=I9 w g gr wv (stH (aI a ls i)) (stW (aI a ls i)) (aI a ls i).length 802
theorem oF{r:TypeId}{x:Operand}{d:Nat}(l:o.op=.binOp .eql 211 x y r)(j:AQ ops o s)(q:AE s x=.p id d)(t:AE s y=.v (.pointer none)):Ev prog ops w0 o s ⟨.v (.bool false),[],[],[],[]⟩:=
 Ev.run _ _ j λρ S w z u=>by
  have e1:=AI s ρ x;rw[q]at e1;have f:=AI s ρ y;rw[t]at f;simp only[SV.c]at e1 f;have h:=Xe ⟨(ρ id).g,d,none⟩ x y w;simp only[execOp,l,e1,f,SV.c];rw[Sem.run_bind,h];rfl
theorem lU{p:List Nat}:64*nb a<=(a++p).length:=by have:=KV a;rw[yM];omega
theorem sW{y:Value}(c:B6 w)(d: ¬StX g gr wv 7)(h:(LB w (StX g gr wv)).holds [y] w' S):B6 w':=λi f=>aH h (c i f) d
theorem sO{F:Nat->Prop}(hL:B6 w)(a3: ¬StX g gr wv 7)(hs:Qk w g gr wv a)(hp:HA w v ls F)(E:∀k,F k-> ¬StX g gr wv k)(a4:∀x∈a,x<256)(K:(a++ls.flatten).length<1048576)(b7:ls.length<=1048576):
 Calls prog 143 #[.pointer (some ⟨g,0,none⟩),v] w λe w'=>e=.returned (.tuple #[])/\Bw (Jq w) w'/\ ∃J Z,Qk w' g J Z (a++ls.flatten)/\(∀k,k<w.heap.size-> ¬StX g gr wv k->w'.heap[k]? =w.heap[k]?)/\(Z≠Bg->StX g gr wv J\/w.heap.size<=J)/\w.heap.size<=w'.heap.size:=by
 obtain⟨vs,M,T⟩:=hp
 have a5:∀i,((ls.take i).flatten).length<=(ls.flatten).length:=λi=>by
  have:ls.flatten=(ls.take i).flatten++(ls.drop i).flatten:=by rw[<-List.flatten_append,uE6]
  rw[this,yM];omega
 have U:∀i,(aI a ls i).length<1048576:=λi=>by have:=a5 i;unfold aI;rw[yM]at K ⊢; omega
 have R:∀i,∀x∈aI a ls i,x<256:=λi x hx=>by
  rcases uB3.1 hx with hx|hx
  .exact a4 x hx
  .obtain⟨l,hl,hx⟩:=List.mem_flatten.1 hx
   obtain⟨j,hj⟩:=List.getElem?_of_mem (PA hl);obtain⟨_,_,_,h8⟩:=T j l hj;exact h8 x hx
 go_enter func143,ntmps143
 refine dZ (SU g gr wv) (by simp[SV.c,SU]) (jl hs [.p 801 0,.v v,.v undef,.v undef,.v undef,.v undef,.v undef,.v undef,.v undef,.v undef,.v undef,.v undef,.v undef,.v undef,.v undef,.v undef,.v undef,.v undef,.v undef,.v undef,.v undef,.v undef,.v undef,.v undef,.v undef,.v undef,.v undef,.v undef,.v undef,.v undef,.v undef,.v undef,.v undef,.v undef,.v undef,.v undef,.v undef,.v undef,.v undef,.v undef,.v undef,.v undef,.v undef,.v undef,.v undef,.v undef,.v undef,.v undef,.v undef,.v undef,.v undef,.v undef,.v undef,.v undef,.v undef,.v undef,.v undef,.v undef,.v undef,.v undef]) ?_;simp only[I9];iterate 4 refine dO ?_
 refine iD (by exact oF rfl gg rfl rfl) ?_;iterate 6 refine dO ?_
 refine iD (by exact BU rfl gg rfl yX (L3 (id:=803) rfl M E)) ?_;iterate 3 refine dO ?_
 refine Bo (α:={x:Nat // x<=ls.length}) (fun(x:{x:Nat // x<=ls.length}) f=>⟨.p 801 0::fv f 7 1 (.v v::.v (.int .i64 (ls.length:Nat))::.v (.int .i64 (x.1:Nat))::fv f 49 11 []),AJ (mO w g gr wv a ls x.1)⟩) (λx=>ls.length-x.1) ?_ (⟨0,y6 _⟩) ?_
 .rintro⟨i,hi⟩ f
  obtain⟨q,I⟩:∃q,decide (i<ls.length)=q:=⟨_,rfl⟩
  have Q:=(CL i ls.length).trans I;simp only[mO,I9];change VOk _ _ _ _ _;simp only[fv,Nat.reduceAdd];iterate 2 refine dO ?_
  refine iD (by exact BM rfl gg rfl rfl Q) ?_;iterate 2 refine dO ?_
  cases q
  .refine dO ?_
   have a6:i=ls.length:=by have:=yC I;omega
   subst a6;refine As ?_;refine Xj (WJ results143) ?_;intro ρ w' hr;refine⟨rfl,hr.1,?_⟩;obtain⟨hb,S1,G⟩:=hr;have g1:=G.good 801 _ rfl;have g2:=G.good 802 _ rfl;have g3:=G.good 803 _ rfl;have g4:(ρ 801).g=g:=G.good 804 _ rfl;have eA:aI a ls ls.length=a++ls.flatten:=by unfold aI;rw[List.take_length]
   rw[eA]at g1 g2;obtain⟨xs,x1,x2,x3⟩:=g2;have b2:xs=_:=x2;subst b2;refine⟨(ρ 802).g,(ρ 802).val,⟨?_,x3,λhn he=> ?_⟩,λk hk hX=>(g3 k hk hX).1,λhn=> ?_,G.good 805 _ rfl⟩
   .have h:=g1.2
    rw[g4]at h;rw[h];rfl
   .exact absurd (G.inj 802 _ 801 _ rfl hn rfl True.intro (he.trans g4.symm)) (by decide)
   .by_cases hX:StX g gr wv (ρ 802).g
    .exact .inl hX
    .right
     apply uA1;intro b3;exact G.dis 802 _ 803 rfl hn rfl (g3 (ρ 802).g (by omega) hX).2
  .refine dO ?_
   have K:i<ls.length:=yA I;obtain⟨l,hl⟩:∃l,ls[i]? =some l:=⟨ls[i],zK K⟩
   obtain⟨u,b0,W,b9⟩:=T i l hl;obtain⟨B,O⟩:∃B,(aI a ls i)=B:=⟨_,rfl⟩
   obtain⟨z,C⟩:∃z,B++l=z:=⟨_,rfl⟩
   have L:(aI a ls (i+1))=z:=by rw[<-C,<-O];unfold aI;rw[Im hl];simp
   have a0:∀x∈z,x<256:=by rw[<-L];exact R _
   have b6:z.length<1048576:=by rw[<-L];exact U _
   have N:z.length=B.length+l.length:=by rw[<-C,yM]
   have V:64*nb B<=z.length:=by rw[<-C];exact lU
   have a9:stH B=Bn H0 z (nb B):=by rw[<-C];exact ep B l
   have Y:(stW B).map b8++l.map b8=(z.drop (64*nb B)).map b8:=by rw[<-SW,eh,C]
   have b1:(stW B).length+l.length=z.length-64*nb B:=by have:=BT List.length Y;simp only[yM,DE,zH]at this;exact this
   have b4:=Vm B;rw[O];iterate 5 refine dO ?_
   refine iD (by exact Bc (k:=i) rfl gg rfl rfl yX y7 (L3 (id:=803) rfl M E) (yA I) (by decide)) ?_;refine iD (by exact Cb rfl gg rfl x7 rfl (L3 (id:=803) rfl M E) b0) ?_;iterate 6 refine dO ?_
   refine TX ?_;refine DJ ?_;refine dO ?_;refine iD (by exact BU rfl gg rfl x7 (L3 (id:=803) rfl W E)) ?_;refine iD (by exact BE (c:=((B.length+l.length:Nat):Int)) rfl gg rfl rfl (by rw[Ah (by omega) (by omega)];omega)) ?_;refine dO ?_;refine TX ?_;refine iD (by exact BA rfl gg rfl rfl rfl DS rfl (by simp) rfl) ?_;iterate 6 refine dO ?_
   refine JY ?_;refine HQ ?_;refine dO ?_;refine iD (by exact Di rfl rfl gg rfl rfl rfl (L3 (id:=803) rfl W E) x7 el5 (by decide) (by simp) (DR _) (by simp only[maxLen];omega) (by omega) (by simp)) ?_;refine dO ?_;refine JY ?_;refine ZJ ?_;iterate 2 refine dO ?_
   refine Bo (α:={x:Nat // 64*x<=z.length}) (fun(x:{x:Nat // 64*x<=z.length}) f=>⟨.p 801 0::fv f 7 1 (.v v::.v (.int .i64 (ls.length:Nat))::.v (.int .i64 (i:Nat))::fv f 49 11 []),AJ [(801,.cells [.v (uv (Bn H0 z x.1).a),.v (uv (Bn H0 z x.1).b),.v (uv (Bn H0 z x.1).c),.v (uv (Bn H0 z x.1).d),.v (uv (Bn H0 z x.1).e),.v (uv (Bn H0 z x.1).f),.v (uv (Bn H0 z x.1).g),.v (uv (Bn H0 z x.1).h),.d 802,.v (.int .i64 (z.length:Nat))] 250),(802,.row (z.length-64*x.1) 1 5 (.exact ((z.drop (64*x.1)).map b8))),(803,.dat (LB w (StX g gr wv))),(804,.pin 801 g),(805,.floor w.heap.size)]⟩) (λx=>z.length-64*x.1) ?_ (⟨nb B,V⟩) ?_
   .rintro⟨m,a7⟩ f
    obtain⟨q2,A⟩:∃q,decide (((z.length-64*m:Nat):Int)>=((64:Nat):Int))=q:=⟨_,rfl⟩
    obtain⟨H,hH⟩:∃H,Bn H0 z m=H:=⟨_,rfl⟩
    rw[hH];change VOk _ _ _ _ _;simp only[fv,Nat.reduceAdd];iterate 5 refine dO ?_
    refine JY ?_;refine HQ ?_;refine El ?_;refine iD (by exact B4 rfl gg rfl rfl A) ?_;refine dO ?_;cases q2
    .refine dO ?_
     have a8:m=nb z:=o7 a7 (by rw[zH];have:=yC A;omega);subst a8;have a1:stH z=H:=hH;have a2:stW z=z.drop (64*nb z):=rfl;refine As ?_;change VOk _ _ _ _ _;refine dO ?_;refine ER ?_;iterate 2 refine dO ?_
     refine⟨⟨i+1,by omega⟩,by show ls.length-(i+1)<ls.length-i;omega,?_⟩;simp only[L,a1,a2,zH];exact Ar (λi=>i==0||i==8||i==9||i==10) []
    .iterate 8 refine dO ?_
     refine TZ ?_;refine TC ?_;iterate 2 refine dO ?_
     refine JY ?_;refine HQ ?_;refine iD (by exact Jh (a:=0) (b:=64) (size:=1) rfl gg rfl x7 yG (BI rfl) rfl rfl (by decide) (show 64<=z.length-64*m by have:=yA A;omega)) ?_;refine iD (by exact Aj (v:=.agg #[uv (TollSha.press H ((z.drop (64*m)).take 64)).a,uv (TollSha.press H ((z.drop (64*m)).take 64)).b,uv (TollSha.press H ((z.drop (64*m)).take 64)).c,uv (TollSha.press H ((z.drop (64*m)).take 64)).d,uv (TollSha.press H ((z.drop (64*m)).take 64)).e,uv (TollSha.press H ((z.drop (64*m)).take 64)).f,uv (TollSha.press H ((z.drop (64*m)).take 64)).g,uv (TollSha.press H ((z.drop (64*m)).take 64)).h]) [802,803] rfl gg rfl (eo func176) (λρ S w' hb G=>by have hD:=Gc (id:=803) G (by simp) rfl;obtain⟨S0,s0⟩:=WV (lo:=0) (hi:=64) (n':=64) (l':=((z.drop (64*m)).take 64).map b8) (BI (id:=802) rfl) (y6 _) (show 64<=z.length-64*m by have:=yA A;omega) (by rw[yQ,yQ,List.drop_zero,Nat.sub_zero,uB7]) rfl ρ S w' hb (WM [802] (by simp) G);exact Xg H w' (sW hL a3 hD) s0 (by rw[z6,zH];have:=(show 64<=z.length-64*m by have:=yA A;omega);omega) (λx hx=>a0 x (DO (PA hx))))) ?_;refine dO ?_;refine TZ ?_;refine Pj ?_;iterate 5 refine dO ?_
     refine JY ?_;refine HQ ?_;refine iD (by exact aW (a:=64) (m:=z.length-64*(m+1)) (l':=(z.drop (64*(m+1))).map b8) rfl rfl gg rfl rfl x7 yG rfl (show 64<=z.length-64*m by have:=yA A;omega) (by rw[<-RM,ak]) (by simp) (by omega)) ?_;refine dO ?_;refine JY ?_;refine ZJ ?_;refine dO ?_;have b5:64<=z.length-64*m:=by have:=yA A;omega
     refine⟨⟨m+1,by omega⟩,by show z.length-64*(m+1)<z.length-64*m;omega,?_⟩;have e3:TollSha.press H ((z.drop (64*m)).take 64)=Bn H0 z (m+1):=by rw[<-hH];rfl
     rw[e3];exact(Ar (λi=>i==0||i==8||i==9||i==10) []).trans2 (λf=>DD.trans2 (Lc (a:=(56,_)) (b:=(801,_)) (show(56:Nat)≠801 by decide)) (λ_=>Dk 56 802 (by decide) rfl))
   .rw[a9,Y,b1,<-N]
    exact(Ar (λi=>i==0||i==8||i==9||i==10) []).trans2 (λf=>DD.trans2 (Lc (a:=(29,_)) (b:=(801,_)) (show(29:Nat)≠801 by decide)) (λ_=>Dk 29 802 (by decide) rfl))
 .refine(Ar (λi=>i==0||i==8||i==9||i==10) []).trans2 (λf=>Qv (λ_=>undef) ?_)
  simp[fv,B0,BQ,mO,I9,aI]
def CQ(w:World):Prop:= ∀j v,([uv H0.a,uv H0.b,uv H0.c,uv H0.d,uv H0.e,uv H0.f,uv H0.g,uv H0.h]:List Value)[j]? =some v->w.cell? ⟨6,j,none⟩=some v
theorem CQ.bw(h:CQ w)(c:Bw w w'):CQ w':=λj v d=>c.cell (h j v d)
theorem ej:stH []=H0:=rfl
theorem qY(h:List Value)(j:h=[uv H0.a,uv H0.b,uv H0.c,uv H0.d,uv H0.e,uv H0.f,uv H0.g,uv H0.h]):prog.built 250 [(0,.agg h.toArray)]=some #[uv H0.a,uv H0.b,uv H0.c,uv H0.d,uv H0.e,uv H0.f,uv H0.g,uv H0.h,.slice none 0 0,.int .i64 0]:=by subst j;kernel_rfl
def stL(H:St)(r n:Nat):List SV:=[.v (uv H.a),.v (uv H.b),.v (uv H.c),.v (uv H.d),.v (uv H.e),.v (uv H.f),.v (uv H.g),.v (uv H.h),.d r,.v (.int .i64 (n:Nat))]
section
variable{w0:World}{ops:Array Oper}{o:Oper}{s:VS}
theorem ab(r:Nat)(d:r≠id)(G:CQ w0)(l:∀w,CQ w->Calls prog 142 #[] w λe w'=> ∃g,e=.returned (.pointer (some ⟨g,0,none⟩))/\w.heap.size<=g/\w'.heap[g]? =some (.cells (HH [] Bg).toArray 250 (0,0))/\Bw w w')
 (_hd:o.dst=some id)(C:o.op=.call {callee:=.value (.func 142),args:=#[],argTypes:=#[]})(z:AQ ops o s)(_he:∀args w,(callFunc 142 args).run prog w=.ok (.enter 142 args) w):
 Ev prog ops w0 o s ⟨.p id 0,[(id,.cells (stL H0 r 0) 250),(r,.row 0 1 5 (.exact []))],[],[id,r],[]⟩:=by
 refine⟨by simp[Eff.ok],.inr ⟨z,λρ S w B K=>.inr (.inr ⟨142,#[],?_,(l w (G.bw B)).mono λe w' ⟨g,h1,h2,h3,h4⟩=>⟨_,h1,λk=>if k=id then⟨g,undef⟩else if k=r then⟨0,Bg⟩else ρ k,λ_ _=>False,?_⟩⟩)⟩⟩
 .obtain⟨F,L,E,J,u,guard⟩:=o
  simp only at C;subst C;rw[DH];simp
 .have t:∀i b,AJ [(id,Blk.cells (stL H0 r 0) 250),(r,.row 0 1 5 (.exact []))] i=some b->(i=id/\b=.cells (stL H0 r 0) 250)\/(i=r/\b=.row 0 1 5 (.exact [])):=by
   intro i b h;simp only[AJ]at h;split at h
   .injection h with h;exact .inl ⟨by assumption,h.symm⟩
   .split at h
    .injection h with h;exact .inr ⟨by assumption,h.symm⟩
    .cases h
  refine⟨by simp[SV.c],λi q=> ?_,h4.os,h4.tape,h4.output,h4.size,λk I _=>h4.block k I,?_,λ_ _ _ h=>h.elim,?_,?_⟩
  .simp only[List.mem_cons,List.not_mem_nil,or_false,not_or]at q
   rw[x8 q.1,x8 q.2]
  .intro i b h
   rcases t i b h with⟨rfl,rfl⟩|⟨rfl,rfl⟩
   .refine⟨by simp only[zG];exact uA9 B.size h2,?_⟩
    simp only[zG];rw[h3];simp[CP,stL,SV.cs,SV.c,HH,d,ej]
   .exact⟨[],rfl,rfl,.inl ⟨by simp[d,Bg],rfl⟩⟩
  .intro i b h f
   rcases t i b h with⟨rfl,rfl⟩|⟨rfl,rfl⟩
   .exact .inr ⟨by simp only[zG];exact h2,λ_ _ h=>h⟩
   .exact absurd (by simp[d,Bg]) f
  .intro i b j c q f H A _
   rcases t i b q with⟨rfl,rfl⟩|⟨rfl,rfl⟩
   .rcases t j c H with⟨rfl,rfl⟩|⟨rfl,rfl⟩
    .rfl
    .exact absurd (by simp[d,Bg]) A
   .exact absurd (by simp[d,Bg]) f
theorem Tx{wl:Nat}(q:Nat){x:Operand}{sy:SV}(rd:List Nat)(K:q≠id)(hL:B6 w0)(b3:7<w0.heap.size)
 (ho:o.op=.call {callee:=.value (.func 143),args:=#[x,y],argTypes:=#[211,43]})(a4:AQ ops o s)(_he:∀args w,(callFunc 143 args).run prog w=.ok (.enter 143 args) w)
 (hx:AE s x=.p id 0)(hy:AE s y=sy)(l:s.mem id=some (.cells (stL (stH a) r n) 250))(f:s.mem r=some (.row wl 1 5 (.exact ((stW a).map b8))))(hn:n=a.length)(hw:wl=(stW a).length)(u:id∈rd)(hr:r∈rd)
 (hp:∀ρ S w,Bw w0 w->RelOn w0.heap.size ρ S w (restr rd s.mem)-> ∃F,HA w (sy.c ρ) ls F/\ ∀k,F k->k≠(ρ id).g/\((ρ r).val≠Bg->k≠(ρ r).g))
 (a0:∀x∈a,x<256)(a6:(a++ls.flatten).length<1048576)(a5:ls.length<=1048576):
 Ev prog ops w0 o s ⟨.v (.tuple #[]),[(id,.cells (stL (stH (a++ls.flatten)) q (a++ls.flatten).length) 250),(q,.row (stW (a++ls.flatten)).length 1 5 (.exact ((stW (a++ls.flatten)).map b8)))],[id,r],[q],rd⟩:=by
 subst hn hw;refine⟨by simp[Eff.ok,u,hr],.inr ⟨a4,λρ S w hb R=> ?_⟩⟩;obtain⟨F,hP,hF⟩:=hp ρ S w hb R;have g1:=w4 R l u;obtain⟨xs,x1,x2,t⟩:=w4 R f hr;have b0:xs=(stW a).map b8:=x2;subst b0;have M:∀j,j∈rd->restr rd s.mem j=s.mem j:=λj T=>by unfold restr;rw[x9 T]
 have a7:(ρ r).val≠Bg->(ρ r).g≠(ρ id).g:=λd I=>by
  have:=R.inj r _ id _ ((M r hr).trans f) d ((M id u).trans l) True.intro I;subst this;rw[l]at f;cases f
 have a9:Qk w (ρ id).g (ρ r).g (ρ r).val a:=by
  refine⟨?_,?_,a7⟩
  .rw[g1.2];rfl
  .rcases t with t|⟨H,z,B,Y,O,_,V⟩
   .exact .inl t
   .exact .inr ⟨H,z,B,Y,O,y6 _,V⟩
 have Z: ¬StX (ρ id).g (ρ r).g (ρ r).val 7:=by
  rintro(h|⟨d,h⟩)
  .have:=g1.1;omega
  .rcases t with⟨t,_⟩|⟨_,_,_,_,_,Q,_⟩
   .exact d t
   .have:w0.heap.size<=(ρ r).g:=Q
    omega
 refine .inr (.inr ⟨143,#[.pointer (some ⟨(ρ id).g,0,none⟩),sy.c ρ],?_,(sO (hL.bw hb) Z a9 hP (λk U L=> ?_) a0 a6 a5).mono λe w' ⟨h1,h3,gr',wv',h4,h5,h6,h7⟩=>⟨_,h1,λk=>if k=q then⟨gr',wv'⟩else ρ k,λ_ _=>False,?_⟩⟩)
 .have e1:=AI s ρ x
  rw[hx]at e1;have e2:=AI s ρ y;rw[hy]at e2;obtain⟨b2,op,b1,b4,W,guard⟩:=o;simp only at ho;subst ho;rw[DH];simp[e1,e2,SV.c]
 .rcases L with L|⟨d,L⟩
  .exact(hF k U).1 L
  .exact(hF k U).2 d L
 .obtain⟨A,hA⟩:∃A,a++ls.flatten=A:=⟨_,rfl⟩
  rw[hA]at h4⊢
  have J:∀i b,AJ [(id,Blk.cells (stL (stH A) q A.length) 250),(q,.row (stW A).length 1 5 (.exact ((stW A).map b8)))] i=some b->(i=id/\b=.cells (stL (stH A) q A.length) 250)\/(i=q/\b=.row (stW A).length 1 5 (.exact ((stW A).map b8))):=by
   intro i b h;simp only[AJ]at h;split at h
   .injection h with h;exact .inl ⟨by assumption,h.symm⟩
   .split at h
    .injection h with h;exact .inr ⟨by assumption,h.symm⟩
    .cases h
  have C:wv'≠Bg->w0.heap.size<=gr':=λd=>by
   rcases h6 d with(h|⟨G,h⟩)|h
   .rw[h];exact g1.1
   .rcases t with⟨t,_⟩|⟨_,_,_,_,_,Q,_⟩
    .exact absurd t G
    .rw[h];exact Q
   .exact uA9 hb.size h
  refine⟨by simp[SV.c],λi u=> ?_,h3.os,h3.tape,h3.output,h7,λk U N=>h5 k U ?_,?_,λ_ _ _ h=>h.elim,?_,?_⟩
  .simp only[RK]at u
   rw[x8 u]
  .rintro(h|⟨d,h⟩)
   .exact N id (by simp) _ l True.intro h.symm
   .exact N r (by simp) _ f d h.symm
  .intro i b h
   rcases J i b h with⟨rfl,rfl⟩|⟨rfl,rfl⟩
   .refine⟨by simp only[x8 (Ne.symm K)];exact g1.1,?_⟩
    simp only[x8 (Ne.symm K)];rw[h4.1];simp[CP,stL,SV.cs,SV.c,HH]
   .refine⟨(stW A).map b8,by simp,rfl,?_⟩
    simp only[zG];rcases h4.2.1 with h|⟨H,z,B,Y,O,Q,V⟩
    .exact .inl h
    .exact .inr ⟨H,z,B,Y,O,C (by show wv'≠Bg;have:wv'=_:=O;rw[this];simp[Bg]),V⟩
  .intro i b h E
   rcases J i b h with⟨rfl,rfl⟩|⟨rfl,rfl⟩
   .exact .inl ⟨i,by simp,_,l,True.intro,by simp only[x8 (Ne.symm K)]⟩
   .have d:wv'≠Bg:=by simpa[Blk.owns,Bg] using E
    simp only[zG];rcases h6 d with(h|⟨G,h⟩)|h
    .exact absurd h (h4.2.2 d)
    .exact .inl ⟨r,by simp,_,f,G,h.symm⟩
    .exact .inr ⟨h,λ_ _ h=>h⟩
  .intro i b j c u E T a8 I
   rcases J i b u with⟨rfl,rfl⟩|⟨rfl,rfl⟩
   .rcases J j c T with⟨rfl,rfl⟩|⟨rfl,rfl⟩
    .rfl
    .have d:wv'≠Bg:=by simpa[Blk.owns,Bg] using a8
     simp only[zG,x8 (Ne.symm K)]at I;exact absurd I.symm (h4.2.2 d)
   .rcases J j c T with⟨rfl,rfl⟩|⟨rfl,rfl⟩
    .have d:wv'≠Bg:=by simpa[Blk.owns,Bg] using E
     simp only[zG,x8 (Ne.symm K)]at I;exact absurd I (h4.2.2 d)
    .rfl
end
theorem cz(w:World)(t:CQ w):Calls prog 142 #[] w λe w'=> ∃g,e=.returned (.pointer (some ⟨g,0,none⟩))/\w.heap.size<=g/\w'.heap[g]? =some (.cells (HH [] Bg).toArray 250 (0,0))/\Bw w w':=by
 go_enter func142,ntmps142
 refine A4 ?_;iterate 6 refine dO ?_
 refine iD (by exact A2 (vs:=[uv H0.a,uv H0.b,uv H0.c,uv H0.d,uv H0.e,uv H0.f,uv H0.g,uv H0.h]) rfl gg rfl uA4 rfl sizeOf248 (λj v z=>(by rw[zW];exact t j v z)) rfl) ?_;refine iD (by exact A6 rfl gg rfl (qY _ rfl)) ?_;iterate 3 refine dO ?_
 refine AG ?_;refine AD (AH results142 (AF rfl)) ?_;intro ρ w' p;refine⟨(ρ 3).g,rfl,?_,?_,p.1⟩
 .obtain⟨u,q,l⟩:=p
  exact(l.good 3 _ rfl).1
 .obtain⟨u,q,l⟩:=p
  exact(l.good 3 _ rfl).2
theorem Xn{F:Nat->Prop}(h:HA w v ls F)(c:Bw w w'):HA w' v ls F:=by
 obtain⟨z,d,f⟩:=h;refine⟨z,A5 d c,λi l t=> ?_⟩;obtain⟨u,j,p,q⟩:=f i l t;exact⟨u,j,A5 p c,q⟩
theorem bH{S:Nat->Nat->Prop}{m:Mem}{u:Nat}(t:RelOn w0.heap.size ρ S w (restr rd m))(d:id∈rd)(F:r∈rd)(f:m id=some (.cells (stL (stH a) r n) 250))(h:m r=some (.row u 1 5 (.exact ((stW a).map b8))))(E:n=a.length)(H:u=(stW a).length)(A:B6 w)(z:∀x∈a,x<256)(C:a.length<1048576):
 CBy 144 (SV.cs ρ [.p id 0]).toArray w (.agg ((sha a).map b8).toArray):=by
 subst E H;have g1:=w4 t f d;obtain⟨L,I,J,K⟩:=w4 t h F;have q:L=(stW a).map b8:=J;subst q;have G:ck w (ρ id).g (ρ r).val a:=λj v B=>Jl (l:=HH a (ρ r).val) (ty:=250) (by rw[g1.2];rfl) B
 simp only[SV.cs,SV.c];exact sG w A G (DX K I) z C
theorem rF{c:Nat}{S:Nat->Nat->Prop}{m:Mem}{l:List SV}{F:Nat->Prop}(q:RelOn c ρ S w (restr rd m))(d:id∈rd)(A:r∈rd)(f:m id=some (.cells l ty))(j:m r=some (.row n 1 5 D))(u:∀k,F k->k<c):∀k,F k->k≠(ρ id).g/\((ρ r).val≠Bg->k≠(ρ r).g):=λk z=>by
 have C:=u k z;have g1:=(w4 q f d).1;obtain⟨E,_,_,p⟩:=w4 q j A;refine⟨λh=>by omega,λB h=> ?_⟩;rcases p with⟨p,_⟩|⟨_,_,_,_,_,t,_⟩
 .exact B p
 .have:c<=(ρ r).g:=t
  omega
theorem aL{F:Nat->Prop}(h:HA w v ls F):∀x∈ls.flatten,x<256:=λx c=>by
 obtain⟨t,_,d⟩:=h;obtain⟨l,q,c⟩:=List.mem_flatten.1 c;obtain⟨j,p⟩:=List.getElem?_of_mem q;obtain⟨_,_,_,f⟩:=d j l p;exact f x c
theorem cw{F:Nat->Prop}(w:World)(t:B6 w)(A:CQ w)(p:7<w.heap.size)(u:HA w v ls F)(z:∀k,F k->k<w.heap.size)(c:ls.flatten.length<1048576)(q:ls.length<=1048576):CBy 90 #[v] w (.agg ((sha ls.flatten).map b8).toArray):=by
 go_enter func90,ntmps90
 refine A4 ?_;iterate 2 refine dO ?_
 refine M7 ?_;iterate 3 refine dO ?_
 refine iD (by exact ab 700 (by decide) A (λw h=>cz w h) rfl rfl gg (eo func142)) ?_;iterate 6 refine dO ?_
 refine iD (by exact Tx (id:=4) (r:=700) (n:=0) (wl:=0) (a:=[]) (ls:=ls) 701 [4,700] (by decide) t p rfl gg (eo func143) rfl rfl rfl rfl rfl rfl (by simp) (by simp) (λρ S w' j d=>⟨F,Xn u j,rF (id:=4) (r:=700) d (by simp) (by simp) rfl rfl z⟩) (λx C=>by cases C) c q) ?_;iterate 4 refine dO ?_
 refine iD (by exact Aj (v:=.agg ((sha ls.flatten).map b8).toArray) [4,701] rfl gg rfl (eo func144) (λρ S w' j d=>bH (id:=4) (r:=701) (a:=ls.flatten) d (by simp) (by simp) rfl rfl rfl rfl (t.bw j) (aL u) c)) ?_;refine iD (by exact Et (l':=(sha ls.flatten).map b8) rfl gg rfl rfl rfl yR (by simp[Value.cells,sha_len]) (by rw[Fi (by simp)];decide) (by show((sha ls.flatten).map b8).toArray.toList.all _=true;exact DR _) (by rw[List.take_zero,List.nil_append,DB (by rw[Fi (by simp)];decide),List.append_nil];simp[Value.cells])) ?_;refine dO ?_;refine AG ?_;refine AD (AH results90 (KC (vs:=(sha ls.flatten).map b8) rfl rfl yY rfl yR (zT (by simp[sha_len])) (by simp[sha_len]))) ?_;intro ρ w' B;exact⟨rfl,B.1⟩
theorem fg(w:World)(l t ty c:TypeId)(h:Option Addr)(n d:Nat)(j:Option Addr)(u:Nat)(q:prog.underlying l=some (.slice c))(p:(prog.info? c).map (·.size)=some 1):
 (Builtin.copy_ #[l,t] ty #[.slice h n d,.slice j 0 u]).run prog w=.ok (goInt 0) w:=by
 cases f:prog.info? c with
 |none=>simp[f]at p
 |some i=>
  have z:i.size=1:=by simpa[f] using p
  cases j<;>cases h<;>simp[Builtin.copy_,yU q,Builtin.lenOf,Builtin.firstCells,sizeOf,typeInfo,f,loadCells,loadCellsFrom,storeCells]
theorem oV{dT sT:TypeId}{x:Operand}{l j:List Value}(F:o.op=.call {callee:=.builtin .copy,args:=#[x,y],argTypes:=#[dT,sT]})(t:AQ ops o s)
 (J:AE s x=.d id)(E:s.mem id=some (.row n 1 e (.exact l)))(L:AE s y=.v v)(G:AO w0 v 0 1 j S0)(I:prog.underlying dT=some (.slice e))(H:(prog.info? e).map (·.size)=some 1)(_hpos:0<n):
 Ev prog ops w0 o s ⟨.v (.int .i64 0),[],[],[],[id]⟩:=
 Ev.run _ _ t λρ S w N C=>by
  have e1:=AI s ρ x;rw[J]at e1;have q:=AI s ρ y;rw[L]at q;obtain⟨O,u,K,f⟩:=w4 C E (by simp);obtain⟨A,M,rfl,_,_,_⟩:=G;obtain⟨z,p,B,_⟩:=DX f u;simp only[SV.c]at e1 q;rw[B]at e1;have h:=fg w dT sT o.type e z n p A M I H;unfold execOp;simp only[F,resolve,invoke,builtin,Sem.run_bind,Sem.run_pure,Result.andThen_ok,List.map_toArray,List.map_cons,List.map_nil,e1,q,h,SV.c,goInt]
theorem u8x(b c:Nat)(j:b<256)(l:c<256):bits .xor .u8 (b:Int) (c:Int)=((b^^^c:Nat):Int):=by
 have h:=Nat.xor_lt_two_pow (n:=8) (x:=b) (y:=c) (by omega) (by omega);show IntKind.u8.wrap ((BitVec.ofInt 8 (b:Int)^^^BitVec.ofInt 8 (c:Int)).toNat:Int)=_;rw[BitVec.toNat_xor,uC6,uC6];have d:((b:Int) %((2^8:Nat):Int)).toNat=b:=by omega
 have f:((c:Int) %((2^8:Nat):Int)).toNat=c:=by omega
 rw[d,f,uD8];omega
theorem Uw{b c:Nat}(d:b<256)(f:c<256):BOy .xor 5 (b8 b) (b8 c) (b8 (b^^^c)):=by
 intro p q w
 have h:=u8x b c d f;unfold b8
 go_simp
 try exact h
def FO(key:List Nat):List Nat:=key++List.replicate (64-key.length) 0
theorem S8(h:key.length<=64):(FO key).length=64:=by simp[FO];omega
theorem ZE(h:∀x∈key,x<256):∀x∈FO key,x<256:=λx hx=>by
 rcases uB3.1 hx with hx|hx
 .exact h x hx
 .rw[(List.mem_replicate.1 hx).2];decide
def Eh(K:List Nat)(x i:Nat):List Nat:=(K.take i).map (· ^^^x)++K.drop i
theorem Xw{K:List Nat}(h:i<K.length):(Eh K x i)[i]? =some (K.getD i 0):=by
 have e:((K.take i).map (· ^^^x)).length=i:=by simp;omega
 unfold Eh;rw[uC2 (by omega),e,Nat.sub_self,zQ];simp[List.getD,h]
theorem kR{K:List Nat}(h:i<K.length):(Eh K x i).set i (K.getD i 0^^^x)=Eh K x (i+1):=by
 have e:((K.take i).map (· ^^^x)).length=i:=by simp;omega
 have c:K.drop i=K.getD i 0::K.drop (i+1):=by rw[List.drop_eq_getElem_cons h];simp[List.getD,h]
 have d:K.take (i+1)=K.take i++[K.getD i 0]:=Im (by simp[List.getD,h]);unfold Eh;rw[c,d,SW,z7,List.set_append_right _ _ (by omega),e,Nat.sub_self];rfl
theorem Xv(h:key.length<=64):Eh (FO key) x 64=D4 key x:=by
 have j:=S8 h;unfold Eh D4;rw[zT (by omega),DB (by omega),List.append_nil];apply uB1;intro i;rw[zC,zC];by_cases f:i<64
 .have d:(FO key)[i]? =some (key.getD i 0):=by
   unfold FO;by_cases c:i<key.length
   .rw[uB5 c];simp[List.getD,c]
   .rw[uC2 (by omega),List.getElem?_replicate,x9 (by omega)]
    simp[List.getD,D0 (show key.length<=i by omega)]
  rw[d,List.getElem?_range f];rfl
 .rw[D0 (by omega),D0 (by simp;omega)];rfl
def Z64:List Value:=List.replicate 64 (Value.int .u8 0)
theorem cd:Z64=(List.replicate 64 0).map b8:=by rw[List.map_replicate];rfl
theorem sB(_h:key.length<=64):key.map b8++Z64.drop key.length=(Eh (FO key) x 0).map b8:=by
 rw[cd,<-RM,<-SW,List.drop_replicate];rfl
theorem aQ{t:TypeId}{x:Operand}{k:Nat}{z:Value}(l:List Value)(q:List.replicate k z=l)(j:o.dst=some id)(u:o.op=.makeSlice t x y)(c:AQ ops o s)
 (B:AE s x=.v (.int .i64 (k:Nat)))(C:AE s y=.v (.int .i64 (k:Nat)))(A:prog.underlying t=some (.slice e))(h:DT prog e 1 1)(E:∀w,(zeroValue e).run prog w=.ok z w)(f:z.cells=#[z])(p:k<=140737488355328):
 Ev prog ops w0 o s ⟨.d id,[(id,.row k 1 e (.exact l))],[],[id],[]⟩:=by
 subst q;exact aP j u c B C A h E f p
theorem rZ(c:Nat):(b8 c).cells=#[b8 c]:=rfl
theorem kQ(w:World)(E:AO w v key.length 1 (key.map b8) S)(p:key.length<=64)(z:∀y∈key,y<256)(G:x<256)(A:key=[]):Calls prog 184 #[v,b8 x] w λe w'=> ∃F,e=.returned F/\BN w w' F 64 1 5 ((D4 key x).map b8)/\Bw w w':=by
 have hKl:=S8 p;have u:=ZE z
 go_enter func184,ntmps184
 refine A4 ?_;iterate 6 refine dO ?_
 refine iD (by exact aQ (k:=64) Z64 rfl rfl rfl gg rfl rfl x7 el5 zeroValue5 rfl (by decide)) ?_;iterate 6 refine dO ?_
 refine iD (by exact oV rfl gg rfl rfl rfl (by rw[A]at E;exact E) x7 (by kernel_rfl) (by decide)) ?_;iterate 5 refine dO ?_
 refine El ?_;iterate 3 refine dO ?_
 refine Bo (α:={y:Nat // y<=64}) (fun(y:{y:Nat // y<=64}) f=>⟨.v (f 0)::.v (b8 x)::.v (f 2)::.v (f 3)::.v (f 4)::.d 7::fv f 6 6 (.v (.int .i64 64)::.v (.int .i64 (y.1:Nat))::fv f 11 14 []),AJ [(7,.row 64 1 5 (.exact ((Eh (FO key) x y.1).map b8)))]⟩) (λy=>64-y.1) ?_ (⟨0,y6 _⟩) ?_
 .rintro⟨i,H⟩ f
  obtain⟨q,h⟩:∃q,decide (i<64)=q:=⟨_,rfl⟩
  have j:=(CL i 64).trans h;change VOk _ _ _ _ _;simp only[fv,Nat.reduceAdd];iterate 2 refine dO ?_
  refine iD (by exact BM rfl gg rfl rfl j) ?_;iterate 2 refine dO ?_
  cases q
  .refine dO ?_
   have l:i=64:=by have:=yC h;omega
   subst l;refine As ?_;change VOk _ _ _ _ _;iterate 5 refine dO ?_
   refine AG ?_;refine AD (AH results184 (AF rfl)) ?_;intro ρ w' C;refine⟨_,rfl,?_,C.1⟩;have B:=B8 (id:=7) C rfl;rw[Xv p]at B;exact B
  .refine dO ?_
   have hlt:i<64:=yA h;iterate 11 refine dO ?_
   refine Kp ?_;refine iD (by exact Cb rfl gg rfl yL rfl (BI rfl) (by rw[zC,Xw (by rw[hKl];exact hlt)];rfl)) ?_;refine dO ?_;refine iD (by exact AK rfl gg rfl rfl (λw=>Uw (P6 u _) G _ _ w)) ?_;refine Kp ?_;refine Zd ?_;iterate 2 refine dO ?_
   refine ER ?_;iterate 2 refine dO ?_
   refine⟨⟨i+1,by omega⟩,by show 64-(i+1)<64-i;omega,?_⟩;exact Ar (λi=>i==1||i==5||i==12||i==13) []
 .rw[show Z64=(Eh (FO key) x 0).map b8 by subst A;exact cd]
  exact Ar (λi=>i==1||i==5||i==12||i==13) []
theorem kO(w:World)(F:AO w v key.length 1 (key.map b8) S)(h:key.length<=64)(z:∀y∈key,y<256)(G:x<256)(E:0<key.length):Calls prog 184 #[v,b8 x] w λe w'=> ∃C,e=.returned C/\BN w w' C 64 1 5 ((D4 key x).map b8)/\Bw w w':=by
 have hKl:=S8 h;have u:=ZE z
 go_enter func184,ntmps184
 refine A4 ?_;iterate 6 refine dO ?_
 refine iD (by exact aQ (k:=64) Z64 rfl rfl rfl gg rfl rfl x7 el5 zeroValue5 rfl (by decide)) ?_;iterate 6 refine dO ?_
 refine iD (by exact oU (l':=(Eh (FO key) x 0).map b8) rfl gg rfl rfl rfl (AW F) x7 (by kernel_rfl) h E (by decide) (DR _) (sB h)) ?_;iterate 5 refine dO ?_
 refine El ?_;iterate 3 refine dO ?_
 refine Bo (α:={y:Nat // y<=64}) (fun(y:{y:Nat // y<=64}) f=>⟨.v (f 0)::.v (b8 x)::.v (f 2)::.v (f 3)::.v (f 4)::.d 7::fv f 6 6 (.v (.int .i64 64)::.v (.int .i64 (y.1:Nat))::fv f 11 14 []),AJ [(7,.row 64 1 5 (.exact ((Eh (FO key) x y.1).map b8)))]⟩) (λy=>64-y.1) ?_ (⟨0,y6 _⟩) ?_
 .rintro⟨i,H⟩ f
  obtain⟨q,j⟩:∃q,decide (i<64)=q:=⟨_,rfl⟩
  have l:=(CL i 64).trans j;change VOk _ _ _ _ _;simp only[fv,Nat.reduceAdd];iterate 2 refine dO ?_
  refine iD (by exact BM rfl gg rfl rfl l) ?_;iterate 2 refine dO ?_
  cases q
  .refine dO ?_
   have p:i=64:=by have:=yC j;omega
   subst p;refine As ?_;change VOk _ _ _ _ _;iterate 5 refine dO ?_
   refine AG ?_;refine AD (AH results184 (AF rfl)) ?_;intro ρ w' B;refine⟨_,rfl,?_,B.1⟩;have A:=B8 (id:=7) B rfl;rw[Xv h]at A;exact A
  .refine dO ?_
   have hlt:i<64:=yA j;iterate 11 refine dO ?_
   refine Kp ?_;refine iD (by exact Cb rfl gg rfl yL rfl (BI rfl) (by rw[zC,Xw (by rw[hKl];exact hlt)];rfl)) ?_;refine dO ?_;refine iD (by exact AK rfl gg rfl rfl (λw=>Uw (P6 u _) G _ _ w)) ?_;refine Kp ?_;refine Zd ?_;iterate 2 refine dO ?_
   refine ER ?_;iterate 2 refine dO ?_
   refine⟨⟨i+1,by omega⟩,by show 64-(i+1)<64-i;omega,?_⟩;exact Ar (λi=>i==1||i==5||i==12||i==13) []
 .exact Ar (λi=>i==1||i==5||i==12||i==13) []
theorem Xs(w:World)(f:AO w v key.length 1 (key.map b8) S)(d:key.length<=64)(c:∀y∈key,y<256)(h:x<256):Calls prog 184 #[v,b8 x] w λe w'=> ∃j,e=.returned j/\BN w w' j 64 1 5 ((D4 key x).map b8)/\Bw w w':=by
 by_cases l:0<key.length
 .exact kO w f d c h l
 .exact kQ w f d c h (zJ (by omega))
def LW(c:Nat)(ρ:Nat->Nm)(S:Nat->Nat->Prop)(m:Mem)(rd:List Nat)(k:Nat):Prop:=k<c\/ ∃j∈rd,∃b,m j=some b/\((b.owns (ρ j)/\k=(ρ j).g)\/S j k)
theorem Rj{l:List Value}{j:Nat->Prop}(h:AO w v n size l S)(A:∀k,S k->j k):AO w v n size l j:=by
 obtain⟨p,f,q,t,u,z⟩:=h;exact⟨p,f,q,t,u,z.imp _root_.id λ⟨a,b,c,d⟩=>⟨a,b,A _ c,d⟩⟩
def LV(w0:World)(m:Mem)(rd:List Nat)(x:SV)(n:Nat)(l:List Value):Prop:=
 ∀ρ S w,Bw w0 w->RelOn w0.heap.size ρ S w (restr rd m)->AO w (x.c ρ) n 1 l (LW w0.heap.size ρ S m rd)
def Uo(w0:World)(m:Mem)(rd:List Nat)(x:SV)(ls:List (List Nat)):Prop:=
 ∀ρ S w,Bw w0 w->RelOn w0.heap.size ρ S w (restr rd m)->HA w (x.c ρ) ls (LW w0.heap.size ρ S m rd)
section
variable{w0:World}{m:Mem}{rd:List Nat}
theorem Ol{l:List Value}(c:id∈rd)(q:m id=some (.row n 1 e (.exact l))):LV w0 m rd (.d id) n l:=λρ S w I B=>by
 obtain⟨G,h,F,t⟩:=w4 B q c;have j:G=l:=F;subst j;by_cases f:(ρ id).val=Bg
 .rcases t with⟨_,A⟩|⟨E,u,z,H,p,_⟩
  .subst A
   exact⟨none,0,f,yD _,h,.inl (zJ (by simpa using h))⟩
  .rw[f]at p;simp[Bg]at p
 .exact Rj (DX t h) λk C=>.inr ⟨id,c,_,q,.inl ⟨f,C⟩⟩
theorem WU{c d:Nat}(f:id∈rd)(j:m id=some (.arr b ty))(u:b.length=c)(p:c<=d):LV w0 m rd (.s id 0 c d) c b:=λρ S w t l=>by
 have h:=w4 l j f;refine⟨_,d,rfl,p,by omega,.inr ⟨_,rfl,.inr ⟨id,f,_,j,.inl ⟨True.intro,rfl⟩⟩,λi x q=> ?_⟩⟩;rw[Bd,zW];exact Jl (by rw[h.2]) q
theorem kJ{F:Nat->Prop}(h:HA w0 v ls F)(d:∀k,F k->k<w0.heap.size):Uo w0 m rd (.v v) ls:=λρ S w z _=>by
 obtain⟨B,f,j⟩:=Xn h z;refine⟨B,Rj f λk c=>.inl (d k c),λi l A=> ?_⟩;obtain⟨u,p,q,t⟩:=j i l A;exact⟨u,p,Rj q λk c=>.inl (d k c),t⟩
def Qr(w0:World)(m:Mem)(rd:List Nat):List SV->List (List Nat)->Prop
 | [],[]=>True
 |y::ys,l::ls=>(LV w0 m rd y l.length (l.map b8)/\ ∀x∈l,x<256)/\Qr w0 m rd ys ls
 |_,_=>False
theorem cU:∀{ys:List SV} {ls:List (List Nat)},Qr w0 m rd ys ls->ys.length=ls.length
 | [],[],_=>rfl
 |_::_,_::_,h=>by simp[cU h.2]
 | [],_::_,h=>h.elim
 |_::_,[],h=>h.elim
theorem cV:∀{ys:List SV} {ls:List (List Nat)},Qr w0 m rd ys ls-> ∀(i:Nat) (l:List Nat),ls[i]? =some l-> ∃y,ys[i]? =some y/\LV w0 m rd y l.length (l.map b8)/\ ∀x∈l,x<256
 | [],[],_,i,l,hl=>by simp at hl
 |y::_,_::_,h,0,l,hl=>by
  simp only[List.getElem?_cons_zero,yT]at hl;subst hl;exact⟨y,rfl,h.1⟩
 |_::_,_::_,h,i+1,l,hl=>by
  simp only[List.getElem?_cons_succ]at hl⊢;exact cV h.2 i l hl
 | [],_::_,h,_,_,_=>h.elim
 |_::_,[],h,_,_,_=>h.elim
theorem H4(f:id∈rd)(q:m id=some (.cells ys ty))(E:ls.length=n)(h:Qr w0 m rd ys ls):Uo w0 m rd (.s id 0 n n) ls:=λρ S w A p=>by
 have B:=w4 p q f;subst E;refine⟨SV.cs ρ ys,⟨_,_,rfl,yD _,by rw[A8,DE,yQ,cU h],.inr ⟨_,rfl,.inr ⟨id,f,_,q,.inl ⟨True.intro,rfl⟩⟩,λi x d=> ?_⟩⟩,λi l C=> ?_⟩
 .rw[Bd,zW]
  rw[A8,zC]at d;cases j:ys[i]? with
  |none=>rw[j]at d;cases d
  |some y=>rw[j]at d;simp only[AT,yT]at d;rw[<-d];exact GK B.2 j
 .obtain⟨y,t,u,z⟩:=cV h i l C
  exact⟨y.c ρ,by rw[A8,zC,t];rfl,u ρ S w A p,z⟩
theorem Xm{x:SV}{l:List SV}(d:List Nat)(h:Uo w0 m d x ls)(K:∀j∈d,j∈rd)(N:id∈rd)(O:r∈rd)(G:id∉d)(H:r∉d)(B:m id=some (.cells l ty))(C:m r=some (.row n 1 5 D)):
 ∀ρ S w,Bw w0 w->RelOn w0.heap.size ρ S w (restr rd m)-> ∃F,HA w (x.c ρ) ls F/\ ∀k,F k->k≠(ρ id).g/\((ρ r).val≠Bg->k≠(ρ r).g):=λρ S w M z=>by
 refine⟨_,h ρ S w M (WM d K z),λk L=> ?_⟩;have f:∀j,j∈rd->restr rd m j=m j:=λj t=>by unfold restr;rw[x9 t]
 have u:∀q c,q∈rd->q∉d->m q=some c->c.owns (ρ q)->k≠(ρ q).g:=by
  rintro q c J E A I rfl;rcases L with L|⟨j,t,b,p,h1|h1⟩
  .have:=(CR.own (w4 z A J) I).1
   omega
  .have:=z.inj q _ j _ ((f q J).trans A) I ((f j (K j t)).trans p) h1.1 h1.2
   subst this;exact E t
  .exact z.dis q c j ((f q J).trans A) I (by rw[f j (K j t),p];rfl) h1
 exact⟨u id _ N G B True.intro,λQ=>u r _ O H C Q⟩
theorem Ja{S:Nat->Nat->Prop}(p:Bw w0 w)(l:RelOn w0.heap.size ρ S w (restr rd m)):∀k,LW w0.heap.size ρ S m rd k->k<w.heap.size:=λk h=>by
 have f:∀j,j∈rd->restr rd m j=m j:=λj d=>by unfold restr;rw[x9 d]
 rcases h with h|⟨j,d,b,c,h1|h1⟩
 .exact yK h p.size
 .rw[h1.2];exact(CR.own (w4 l c d) h1.1).2
 .exact l.lt j k (by rw[f j d,c];rfl) h1
end
theorem Rk{a:Array Value}(h:a.size=1):∃c,a=#[c]:=by
 have d:a.toList.length=1:=by simpa using h
 obtain⟨c,f⟩:=List.length_eq_one_iff.1 d;exact⟨c,by apply Array.ext';rw[f]⟩
theorem qv(v:Value)(w:World)(h:v.cells.size=1):(Instr.buildSlice 43 1 #[(0,v)]).run prog w=.ok (.slice (some ⟨w.heap.size,0,none⟩) 1 1) (w.alloc (.cells v.cells 23)):=by
 have l:∀w,(zeroValue 23).run prog w=.ok (.slice none 0 0) w:=zeroValue23;have j:∀w,(Go.sizeOf 23).run prog w=.ok 1 w:=y7;obtain⟨c,f⟩:=Rk h;unfold Instr.buildSlice;have d:Value.cells (.slice none 0 0)=#[.slice none 0 0]:=rfl;simp[yU yX,j,l,Instr.fill,f,d,newRow,newObj];rw[show(Array.map (λx=>([Value.slice none 0 0][x %1]?).getD default) (Array.range 1))=#[.slice none 0 0] from by kernel_rfl];rfl
theorem qu(v u:Value)(w:World)(h:v.cells.size=1)(j:u.cells.size=1):(Instr.buildSlice 43 2 #[(0,v),(1,u)]).run prog w=.ok (.slice (some ⟨w.heap.size,0,none⟩) 2 2) (w.alloc (.cells (v.cells++u.cells) 23)):=by
 have t:∀w,(zeroValue 23).run prog w=.ok (.slice none 0 0) w:=zeroValue23;have q:∀w,(Go.sizeOf 23).run prog w=.ok 1 w:=y7;obtain⟨c,l⟩:=Rk h;obtain⟨d,p⟩:=Rk j;unfold Instr.buildSlice;have f:Value.cells (.slice none 0 0)=#[.slice none 0 0]:=rfl;simp[yU yX,q,t,Instr.fill,l,p,f,newRow,newObj];rw[show(Array.map (λx=>([Value.slice none 0 0][x %1]?).getD default) (Array.range 2))=#[.slice none 0 0,.slice none 0 0] from by kernel_rfl];rfl
theorem og{x:Operand}{C f:SV}{l l2:List SV}(rd:List Nat)(_hd:o.dst=some id)(Q:o.op=.buildSlice ty 2 #[(0,x),(1,y)])(F:AQ ops o s)
 (R:AE s x=C)(T:AE s y=f)(M:∀ρ S w,RelOn w0.heap.size ρ S w (restr rd s.mem)->(C.c ρ).cells.toList=SV.cs ρ l/\(f.c ρ).cells.toList=SV.cs ρ l2)(O:l.length=n)(H:l2.length=n)(G:SV.hasL id (l++l2)=false)
 (L:∀v u w,v.cells.size=n->u.cells.size=n->(Instr.buildSlice ty 2 #[(0,v),(1,u)]).run P w=.ok (.slice (some ⟨w.heap.size,0,none⟩) 2 2) (w.alloc (.cells (v.cells++u.cells) e))):Ev P ops w0 o s ⟨.s id 0 2 2,[(id,.cells (l++l2) e)],[],[id],rd⟩:=
 ⟨by simp[Eff.ok],.inr ⟨F,λρ S w E K=>by
  have e0:=AI s ρ x;rw[R]at e0;have e1:=AI s ρ y;rw[T]at e1;obtain⟨z,p⟩:=M ρ S w K;have I:(C.c ρ).cells.size=n:=by rw[<-Array.length_toList,z,A8,DE];exact O
  have A:(f.c ρ).cells.size=n:=by rw[<-Array.length_toList,p,A8,DE];exact H
  have d:(C.c ρ).cells++(f.c ρ).cells=(SV.cs ρ (l++l2)).toArray:=by apply Array.ext';rw[Array.toList_append,z,p];simp[A8]
  have q:=L _ _ w I A;rw[d]at q;refine .inl ⟨.slice (some ⟨w.heap.size,0,none⟩) 2 2,w.alloc (.cells (SV.cs ρ (l++l2)).toArray e),?_,λj=>if j=id then⟨w.heap.size,undef⟩else ρ j,λ_ _=>False,?_⟩
  .simp only[execOp,Q,List.map_toArray,List.map_cons,List.map_nil,e0,e1]
   rw[Sem.run_bind,q];rfl
  .have:=Cj (base:=w0.heap.size) (t:=s.mem) (ρ:=ρ) (S:=S) (w:=w) (w':=w.alloc (.cells (SV.cs ρ (l++l2)).toArray e)) (val:=.s id 0 2 2) (rd:=rd) (up:=[]) (id:=id) (b:=.cells (l++l2) e) (m:=⟨w.heap.size,undef⟩) (S1:=λ_=>False)
    rfl rfl rfl (by simp) (λk N _=>DM w _ N) (λU g1 J=>by
     refine⟨by rw[g1];exact E.size,?_⟩;rw[g1];simp only[CP];rw[GI (nw:=[id]) (λi B=>J i (by simpa using B)) (λi B=>by simp at B;rw[B];exact G)];exact L7 w _) (λ_ h=>h.elim) (λ_=>.inr ⟨yD _,λh=>h⟩)
   simpa[SV.c] using this⟩⟩
theorem Xu(k:List Nat)(x:Nat):(D4 k x).length=64:=by simp[D4]
theorem Xt(h:∀y∈k,y<256)(d:x<256):∀y∈D4 k x,y<256:=λy c=>by
 simp only[D4,uB8,List.mem_range]at c;obtain⟨i,_,rfl⟩:=c;exact Nat.xor_lt_two_pow (n:=8) (P6 h i) d
theorem Oa(s:List Nat):∀x∈sha s,x<256:=kV _
theorem nJ{s:List Nat}(h:key.length<=64):sha (D4 key 92++sha (D4 key 54++s))=CH key s:=by
 unfold CH TollSha.keyOf;rw[x8 (by omega)]
theorem NJ(k s:List Nat):(CH k s).length=32:=sha_len _
theorem NI(k s:List Nat):∀x∈CH k s,x<256:=Oa _
theorem Me{u:Value}{F G:Nat->Prop}(w:World)(K:B6 w)(R:CQ w)(C:7<w.heap.size)(hv:AO w v key.length 1 (key.map b8) G)(E:key.length<=64)(z:∀y∈key,y<256)(T:HA w u ls F)(U:∀k,F k->k<w.heap.size)(V:ls.flatten.length<1040000)(Q:ls.length<=1048576):CBy 158 #[v,u] w (.agg ((CH key ls.flatten).map b8).toArray):=by
 obtain⟨I,J⟩:∃I,D4 key 54=I:=⟨_,rfl⟩
 obtain⟨O,L⟩:∃O,D4 key 92=O:=⟨_,rfl⟩
 have c:I.length=64:=by rw[<-J];exact Xu _ _
 have B:O.length=64:=by rw[<-L];exact Xu _ _
 have A:∀x∈I,x<256:=by rw[<-J];exact Xt z (by decide)
 have M:∀x∈O,x<256:=by rw[<-L];exact Xt z (by decide)
 have H:sha [O,sha ([I].flatten++ls.flatten)].flatten=CH key ls.flatten:=by rw[<-nJ E,J,L];simp
 rw[<-H]
 go_enter func158,ntmps158
 refine A4 ?_;iterate 2 refine dO ?_
 refine M7 ?_;iterate 5 refine dO ?_
 refine CU ?_;refine FS ?_;iterate 5 refine dO ?_
 refine iD (by exact ab 700 (by decide) R (λw h=>cz w h) rfl rfl gg (eo func142)) ?_;iterate 6 refine dO ?_
 refine iD (by exact Cs [] rfl rfl gg rfl (eo func184) (n:=64) (size:=1) (l:=I.map b8) (by simp[c]) (λρ S w' j q=>by rw[<-J];exact Xs w' (A5 hv j) E z (by decide))) ?_;refine iD (by exact Ty (n:=1) (l:=[.d 18]) [18] rfl rfl gg rfl (λρ S w' q=>by have N:=Cf (id:=18) q (by simp) rfl;exact N.1) rfl rfl qv) ?_;refine iD (by exact Tx (id:=15) (r:=700) (n:=0) (wl:=0) (a:=[]) (ls:=[I]) 701 [15,700,18,19] (by decide) K C rfl gg (eo func143) rfl rfl rfl rfl rfl rfl (by simp) (by simp) (Xm [18,19] (H4 (by simp) rfl rfl ⟨⟨by rw[c];exact Ol (by simp) rfl,A⟩,trivial⟩) (by simp) (by simp) (by simp) (by decide) (by decide) rfl rfl) (λx hx=>by cases hx) (by simp[c]) (by simp)) ?_;iterate 5 refine dO ?_
 refine iD (by exact Tx (id:=15) (r:=701) (a:=[I].flatten) (ls:=ls) 702 [15,701] (by decide) K C rfl gg (eo func143) rfl rfl rfl rfl rfl rfl (by simp) (by simp) (Xm [] (kJ T U) (by simp) (by simp) (by simp) (by decide) (by decide) rfl rfl) (by simpa using A) (by simp only[yM,List.flatten_cons,List.flatten_nil,List.length_nil,c];omega) Q) ?_;iterate 4 refine dO ?_
 refine iD (by exact Aj (v:=.agg ((sha ([I].flatten++ls.flatten)).map b8).toArray) [15,702] rfl gg rfl (eo func144) (λρ S w' j q=>bH (id:=15) (a:=[I].flatten++ls.flatten) q (by simp) (by simp) rfl rfl rfl rfl (K.bw j) (λx hx=>by rcases uB3.1 hx with hx|hx;exact A x (by simpa using hx);exact aL T x hx) (by simp only[yM,List.flatten_cons,List.flatten_nil,List.length_nil,c];omega))) ?_;refine M7 ?_;refine ZO ?_;iterate 4 refine dO ?_
 refine iD (by exact Cs [] rfl rfl gg rfl (eo func184) (n:=64) (size:=1) (l:=O.map b8) (by simp[B]) (λρ S w' j q=>by rw[<-L];exact Xs w' (A5 hv j) E z (by decide))) ?_;refine iD (by exact NS rfl gg rfl yY yG) ?_;refine iD (by exact og (n:=1) (l:=[.d 27]) (l2:=[.s 7 0 32 32]) [27] rfl rfl gg rfl rfl (λρ S w' q=>by have N:=Cf (id:=27) q (by simp) rfl;exact⟨N.1,rfl⟩) rfl rfl rfl qu) ?_;refine iD (by exact Aj (v:=.agg ((sha [O,sha ([I].flatten++ls.flatten)].flatten).map b8).toArray) [7,27,29] rfl gg rfl (eo func90) (λρ S w' j q=>cw w' (K.bw j) (R.bw j) (yK C j.size) (H4 (id:=29) (n:=2) (ls:=[O,sha ([I].flatten++ls.flatten)]) (by simp) (by rfl) rfl (by exact⟨⟨by rw[B];exact Ol (by simp) rfl,M⟩,⟨by rw[sha_len];exact WU (by simp) rfl (by simp[sha_len]) (by decide),Oa _⟩,trivial⟩) ρ S w' j q) (Ja j q) (by simp[B,sha_len]) (by simp))) ?_;refine ZO ?_;refine dO ?_;refine AG ?_;refine AD (AH results158 (KC (vs:=(sha [O,sha ([I].flatten++ls.flatten)].flatten).map b8) rfl rfl yY rfl yR (zT (by simp[sha_len])) (by simp[sha_len]))) ?_;intro ρ w' W;exact⟨rfl,W.1⟩
end Go.Proofs.YtafbhakmkbehiaaGreatDoor
