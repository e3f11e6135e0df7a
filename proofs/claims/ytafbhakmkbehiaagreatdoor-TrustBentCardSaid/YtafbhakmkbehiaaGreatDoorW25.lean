import Derived.Test.YtafbhakmkbehiaaGreatDoorW23
import Derived.Test.YtafbhakmkbehiaaGreatDoorW24
open Go.Proofs.Tryz
set_option maxHeartbeats 4000000
set_option maxRecDepth 100000
namespace Go.Proofs.YtafbhakmkbehiaaGreatDoor
open Go.RowKit Go.Vx
variable(w:World){ops:Array Oper}{rest:Code}{R':Ending->World->Prop}{E:List Eff}{X b rd:List Nat}{fr:List SV}{vs:List Value}{id n:Nat}{g:Nat->Nat}{S:Nat->Nat->Prop}{ρ:Nat->Nm}{v:Nat->Value}{o:Oper}{ty:TypeId}{s s':VS}{rv:Value}{w1 w2:World}
open TollMont
open TollEc (base)
theorem q_141{A B:Prop}(b:B)(c:B->A:=by exact A3 (by first|exact Ev.skip (λ_=>rfl)|exact Ag (p:=true) rfl (λ_=>rfl) rfl rfl (by decide)) id):A:=c b
theorem JZ{w:World}{a:Nat}{m:Mem}{j:Nat}(p:RelOn a ρ S w (restr rd m))(f:id∈rd)(q:m id=some (.cells [.d j] ty)):AO w (SV.c ρ (.s id 0 1 1)) 1 1 [(ρ j).val] (λk=>k=(ρ id).g):=by
 have e:=(w4 p q f).2;refine⟨_,_,rfl,yD _,rfl,.inr ⟨_,rfl,rfl,λi x h=> ?_⟩⟩;rcases i with _|i
 .simp at h;subst h
  rw[Bd];simpa[SV.c] using GK (l:=[.d j]) e (show([.d j]:List SV)[0]? =some (.d j) from rfl)
 .simp at h
theorem tM:BOy .and 3 (.int .i64 5) (.int .i64 1) (.int .i64 1):=by intro p q w;kernel_rfl
theorem tL:BOy .and 3 (.int .i64 5) (.int .i64 4) (.int .i64 4):=by intro p q w;kernel_rfl
theorem uQ:Ob (wrT (tG.whole bg3 bg4)).1 CN=0:=by
 unfold Ob;rw[Kd];exact uH
theorem wj(a:Int)(c:decide (a<0)=false)(d:decide (a>9)=false):[(wrT (tF.whole bg5 bg6)).1].any (rok a 0 tG.is (wrT (tG.whole bg3 bg4)).1)=true:=by
 simp only[List.any_cons,List.any_nil,Bool.or_false];unfold rok;rw[bU];show(true && !decide ((0:Int)<((0:Nat):Int)) && !decide (a<0) && !decide (a>9) && !decide (tF.su≠tG.is) && decide (Ob (wrT (tG.whole bg3 bg4)).1 CN=0))=true;rw[c,d,uQ];decide
theorem tj(u:Laid w)(t:B6 w)(r:CQ w)(x:Ci w)(d:7<w.heap.size):CBy 17 #[] w (.bool true):=by
 go_enter func17,ntmps17
 refine A4 ?_;iterate 6 refine AA ?_
 refine AX (by exact A6 (cells:=(.agg #[.int .u8 1,.int .u8 1,.int .u8 1,.int .i64 0,.int .i64 9,.bool true,.int .i64 0,.int .i64 1]:Value).cells) rfl gg rfl (by kernel_rfl)) ?_;refine AX (by exact Al (D:=.sl (wrT (tF.whole bg5 bg6)).1.length 1 ((wrT (tF.whole bg5 bg6)).1.map b8)) [] rfl rfl gg rfl (eo func16) (λρ S j hb i=>(uw j (u.bw hb) (t.bw hb) (r.bw hb) (yK d (Below.size hb))).mono λe w2 ⟨v,h1,h2,h3⟩=>⟨v,h1,dn (by simp) h2,h3⟩)) ?_;iterate 4 refine AA ?_
 refine AX (by exact A6 (cells:=(.agg #[.int .u8 2,.int .u8 1,.int .u8 1,.int .i64 0,.int .i64 9,.bool false,.int .i64 0,.int .i64 5]:Value).cells) rfl gg rfl (by kernel_rfl)) ?_;refine AX (by exact Al (D:=.sl (wrT (tG.whole bg3 bg4)).1.length 1 ((wrT (tG.whole bg3 bg4)).1.map b8)) [] rfl rfl gg rfl (eo func16) (λρ S j hb i=>(uu j (u.bw hb) (t.bw hb) (r.bw hb) (yK d (Below.size hb))).mono λe w2 ⟨v,h1,h2,h3⟩=>⟨v,h1,dn (by simp) h2,h3⟩)) ?_;iterate 5 refine AA ?_
 refine pk ?_;refine AA ?_;refine pj ?_;refine AX (by exact DL (D:=G5 tG) (ys:=[.int .i64 0,.int .i64 0]) [15,12,17,10] rfl rfl gg rfl (eo func18) (λρ S j hb i=>xk (c:=tG) (Rs:=[(wrT (tF.whole bg5 bg6)).1]) j (u.bw hb) (t.bw hb) (r.bw hb) (yK d (Below.size hb)) (JZ (id:=15) i (by simp) rfl) (T5 (id:=12) i (by simp) rfl) (EE (Lb Ke.fit _ _)) (by have:=GN (tG.whole bg3 bg4);omega) (x.bw d hb) (Fy (T:=λk=>k=(ρ 17).g\/S 10 k) (λk q=>Or.inl q) (JZ (id:=17) i (by simp) rfl)) (⟨Fy (λk q=>Or.inr q) (T5 (id:=10) i (by simp) rfl),trivial⟩) (by decide) (λb m=>by rcases RK.1 m with rfl;exact⟨EE (Lb Kf.fit _ _),by have:=GN (tF.whole bg5 bg6);omega⟩) Kd tM tL (by decide) (by decide) (by decide) (by decide) (wj 9 (by decide) (by decide)))) ?_;iterate 5 refine AA ?_
 refine mt ?_;iterate 6 refine AA ?_
 refine pk ?_;refine AA ?_;refine pj ?_;refine AX (by exact Aj (v:=.tuple #[CZ,.int .i64 0,.int .i64 7]) [24,12,26,10] rfl gg rfl (eo func18) (λρ S j hb i=>xj (c:=tG) (Rs:=[(wrT (tF.whole bg5 bg6)).1]) j (u.bw hb) (t.bw hb) (r.bw hb) (yK d (Below.size hb)) (JZ (id:=24) i (by simp) rfl) (T5 (id:=12) i (by simp) rfl) (EE (Lb Ke.fit _ _)) (by have:=GN (tG.whole bg3 bg4);omega) (x.bw d hb) (Fy (T:=λk=>k=(ρ 26).g\/S 10 k) (λk q=>Or.inl q) (JZ (id:=26) i (by simp) rfl)) (⟨Fy (λk q=>Or.inr q) (T5 (id:=10) i (by simp) rfl),trivial⟩) (by decide) (λb m=>by rcases RK.1 m with rfl;exact⟨EE (Lb Kf.fit _ _),by have:=GN (tF.whole bg5 bg6);omega⟩) Kd tM tL (by decide) (by decide) (by decide) (by decide))) ?_;iterate 5 refine AA ?_
 refine mt ?_;iterate 6 refine AA ?_
 refine C6 ?_;iterate 3 refine AA ?_
 refine AX (by first|exact Ev.skip (λ_=>rfl)|exact Ad (v:=.string (AB [110,99])) rfl (λ_=>rfl) rfl (eo func41) (λj z=>fE j)) ?_;refine AX (by first|exact Ev.skip (λ_=>rfl)|exact AK (c:=.bool true) rfl (λ_=>rfl) rfl rfl (λw=>E4 (a:=[110,99]) (b:=[110,99]) (by decide) (by decide) (by decide) _ _ w)) ?_;iterate 3 refine AA ?_
 refine q_141 ?_;iterate 3 refine AA ?_
 refine q_141 ?_;iterate 3 refine AA ?_
 exact AG (AD (AH results17 (AF rfl)) λ_ _ y=>⟨rfl,y.1⟩)
theorem uS{w:World}{e:Nat}{m:Mem}{a:Nat}{l:List SV}(p:RelOn e ρ S w (restr rd m))(j:id∈rd)(r:m id=some (.cells l ty))(q:l.length=n*a):AO w (SV.c ρ (.s id 0 n n)) n a (SV.cs ρ l) (λk=>k=(ρ id).g):=by
 have f:=(w4 p r j).2;refine⟨_,_,rfl,yD _,by rw[A8,DE];exact q,.inr ⟨_,rfl,rfl,λi x d=> ?_⟩⟩;rw[A8,zC]at d;cases h:l[i]? with
 |none=>rw[h]at d;cases d
 |some y=>
  rw[h]at d;simp only[AT,yT]at d;rw[<-d,Bd,zW];exact GK f h
theorem M5:rdC []=none:=by
 have h:(rdT []).2≠0:=by decide
 unfold rdC;rw[yE h];rfl
noncomputable abbrev wtH:List Nat:=(wrT (tH.whole bg9 Dr)).1
noncomputable abbrev wtI:List Nat:=(wrT (tI.whole bg7 bg8)).1
noncomputable abbrev wtJ:List Nat:=(wrT (tJ.whole EL EK)).1
theorem ut(hL:Laid w)(m:B6 w)(k:CQ w)(e:7<w.heap.size):CRy 16 #[.agg #[.int .u8 0,.int .u8 1,.int .u8 1,.int .i64 0,.int .i64 50,.bool false,.int .i64 0,.int .i64 5]] w ((wrT (tH.whole bg9 Dr)).1.length) ((wrT (tH.whole bg9 Dr)).1.map b8):=by
 go_enter func16,ntmps16
 refine A4 ?_;iterate 9 refine AA ?_
 refine wH ?_;iterate 11 refine AA ?_
 refine IH ?_;iterate 11 refine AA ?_
 refine KF ?_;iterate 2 refine AA ?_
 refine AX (by exact Ad (v:=.string (AB [110,97])) rfl gg rfl (eo func41) (λh z=>ui h)) ?_;iterate 2 refine AA ?_
 refine KO ?_;refine IG ?_;iterate 2 refine AA ?_
 refine AX (by exact JS (a:=50) rfl gg rfl rfl) ?_;refine Pl ?_;iterate 5 refine AA ?_
 refine AX (by exact B1 (c:=.int .u64 5) rfl gg rfl (λw=>by kernel_rfl)) ?_;refine m4 ?_;refine AX (by exact B1 (c:=.int .i64 5) rfl gg rfl (λw=>by kernel_rfl)) ?_;refine mz ?_;refine J3 ?_;refine AA ?_;refine AX (by exact Bh (vl:=[.v (.int .i64 7),.v (.string (AB [110,98])),.v (.string (AB [110,97])),.v (.int .i64 0),.v (.int .i64 50),.d 13,.v (.bool false),.v (.int .i64 0),.v (.int .i64 5)]) [13,7] rfl gg rfl rfl rfl yN rfl (λρ S h _ j=>⟨DC _,by have u:=Cf (id:=13) j (by simp) rfl;simp only[SV.cs,SV.c,List.all_cons,List.all_nil,u.2];rfl⟩) rfl (by simp)) ?_;iterate 4 refine aT ?_
 iterate 2 refine AA ?_
 iterate 5 refine aT ?_
 iterate 2 refine AA ?_
 refine AX (by exact IU [13] rfl rfl gg rfl (eo func30) (n:=(wrT (tH.whole bg9 Dr)).1.length) (size:=1) (l:=(wrT (tH.whole bg9 Dr)).1.map b8) (y:=.int .i64 0) (by simp) (λρ S h hb j=>qG (c:=tH) (d:=bg1) (r:=bg9) (t:=Dr) h (hL.bw hb) (m.bw hb) (k.bw hb) (yK e hb.size) (EH (id:=13) j (by simp) rfl) Mz.fit My (λw2 i=>Mz.made ((hL.bw hb).bw i) ((m.bw hb).bw i) ((k.bw hb).bw i) (yK (yK e hb.size) i.size)))) ?_;iterate 10 refine AA ?_
 refine IM ?_;iterate 8 refine AA ?_
 refine AG ?_;refine AD (AH results16 (AF rfl)) ?_;intro ρ h q;exact⟨_,rfl,B8 q rfl,q.1⟩
theorem Wq:wtH≠[]:=λh=>by
 have a:rdC wtH=some (tH,bg9,Dr):=Kc;rw[h,M5]at a;cases a
theorem W0:(∀x∈wtH,x<256)/\wtH.length<=1048576:=⟨EE (Lb Mz.fit _ _),by have:=GN (tH.whole bg9 Dr);show(wrT (tH.whole bg9 Dr)).1.length<=1048576;omega⟩
theorem uq(hL:Laid w)(m:B6 w)(k:CQ w)(e:7<w.heap.size):CRy 16 #[.agg #[.int .u8 1,.int .u8 2,.int .u8 2,.int .i64 0,.int .i64 50,.bool true,.int .i64 0,.int .i64 1]] w ((wrT (tI.whole bg7 bg8)).1.length) ((wrT (tI.whole bg7 bg8)).1.map b8):=by
 go_enter func16,ntmps16
 refine A4 ?_;iterate 9 refine AA ?_
 refine IH ?_;iterate 11 refine AA ?_
 refine KG ?_;iterate 11 refine AA ?_
 refine Lg ?_;iterate 2 refine AA ?_
 refine KF ?_;iterate 2 refine AA ?_
 refine KO ?_;refine IG ?_;iterate 2 refine AA ?_
 refine AX (by exact JS (a:=50) rfl gg rfl rfl) ?_;refine Pl ?_;iterate 5 refine AA ?_
 refine AX (by exact B1 (c:=.int .u64 1) rfl gg rfl (λw=>by kernel_rfl)) ?_;refine Pe ?_;refine AX (by exact B1 (c:=.int .i64 1) rfl gg rfl (λw=>by kernel_rfl)) ?_;refine AX (by exact AK (c:=.int .i64 1) rfl gg rfl rfl (λw=>by kernel_rfl)) ?_;refine J3 ?_;refine AA ?_;refine AX (by exact Bh (vl:=[.v (.int .i64 7),.v (.string (AB [110,99])),.v (.string (AB [110,98])),.v (.int .i64 0),.v (.int .i64 50),.d 13,.v (.bool true),.v (.int .i64 0),.v (.int .i64 1)]) [13,7] rfl gg rfl rfl rfl yN rfl (λρ S j _ i=>⟨DC _,by have u:=Cf (id:=13) i (by simp) rfl;simp only[SV.cs,SV.c,List.all_cons,List.all_nil,u.2];rfl⟩) rfl (by simp)) ?_;iterate 4 refine aT ?_
 iterate 2 refine AA ?_
 iterate 3 refine aT ?_
 iterate 2 refine AA ?_
 refine PY ?_;refine PZ ?_;refine PC ?_;iterate 2 refine AA ?_
 refine my ?_;iterate 4 refine AA ?_
 iterate 3 refine aT ?_
 iterate 2 refine AA ?_
 refine AX (by exact IU [13] rfl rfl gg rfl (eo func30) (n:=(wrT (tI.whole bg7 bg8)).1.length) (size:=1) (l:=(wrT (tI.whole bg7 bg8)).1.map b8) (y:=.int .i64 0) (by simp) (λρ S j hb i=>qG (c:=tI) (d:=bg2) (r:=bg7) (t:=bg8) j (hL.bw hb) (m.bw hb) (k.bw hb) (yK e hb.size) (EH (id:=13) i (by simp) rfl) Mw.fit Mv (λw2 h=>Mw.made ((hL.bw hb).bw h) ((m.bw hb).bw h) ((k.bw hb).bw h) (yK (yK e hb.size) h.size)))) ?_;iterate 10 refine AA ?_
 refine IM ?_;iterate 8 refine AA ?_
 refine AG ?_;refine AD (AH results16 (AF rfl)) ?_;intro ρ j q;exact⟨_,rfl,B8 q rfl,q.1⟩
theorem Vt:wtI≠[]:=λh=>by
 have a:rdC wtI=some (tI,bg7,bg8):=JP;rw[h,M5]at a;cases a
theorem WC:(∀x∈wtI,x<256)/\wtI.length<=1048576:=⟨EE (Lb Mw.fit _ _),by have:=GN (tI.whole bg7 bg8);show(wrT (tI.whole bg7 bg8)).1.length<=1048576;omega⟩
theorem uo(hL:Laid w)(m:B6 w)(k:CQ w)(e:7<w.heap.size):CRy 16 #[.agg #[.int .u8 2,.int .u8 2,.int .u8 2,.int .i64 0,.int .i64 50,.bool true,.int .i64 1,.int .i64 0]] w ((wrT (tJ.whole EL EK)).1.length) ((wrT (tJ.whole EL EK)).1.map b8):=by
 go_enter func16,ntmps16
 refine A4 ?_;iterate 9 refine AA ?_
 refine KG ?_;iterate 11 refine AA ?_
 refine KG ?_;iterate 11 refine AA ?_
 refine Lg ?_;iterate 2 refine AA ?_
 refine Lg ?_;iterate 2 refine AA ?_
 refine KO ?_;refine IG ?_;iterate 2 refine AA ?_
 refine AX (by exact JS (a:=50) rfl gg rfl rfl) ?_;refine Pl ?_;iterate 5 refine AA ?_
 refine PY ?_;refine PZ ?_;refine PC ?_;refine IG ?_;refine J3 ?_;refine AA ?_;refine AX (by exact Bh (vl:=[.v (.int .i64 7),.v (.string (AB [110,99])),.v (.string (AB [110,99])),.v (.int .i64 0),.v (.int .i64 50),.d 13,.v (.bool true),.v (.int .i64 0),.v (.int .i64 0)]) [13,7] rfl gg rfl rfl rfl yN rfl (λρ S j _ i=>⟨DC _,by have u:=Cf (id:=13) i (by simp) rfl;simp only[SV.cs,SV.c,List.all_cons,List.all_nil,u.2];rfl⟩) rfl (by simp)) ?_;iterate 4 refine aT ?_
 iterate 2 refine AA ?_
 iterate 3 refine aT ?_
 iterate 2 refine AA ?_
 refine AX (by exact B1 (c:=.int .u64 1) rfl gg rfl (λw=>by kernel_rfl)) ?_;refine Pe ?_;refine AX (by exact B1 (c:=.int .i64 1) rfl gg rfl (λw=>by kernel_rfl)) ?_;iterate 2 refine AA ?_
 refine wJ ?_;iterate 4 refine AA ?_
 iterate 3 refine aT ?_
 iterate 2 refine AA ?_
 refine AX (by exact IU [13] rfl rfl gg rfl (eo func30) (n:=(wrT (tJ.whole EL EK)).1.length) (size:=1) (l:=(wrT (tJ.whole EL EK)).1.map b8) (y:=.int .i64 0) (by simp) (λρ S j hb i=>qG (c:=tJ) (d:=bg2) (r:=EL) (t:=EK) j (hL.bw hb) (m.bw hb) (k.bw hb) (yK e hb.size) (EH (id:=13) i (by simp) rfl) Mu.fit Mt (λw2 h=>Mu.made ((hL.bw hb).bw h) ((m.bw hb).bw h) ((k.bw hb).bw h) (yK (yK e hb.size) h.size)))) ?_;iterate 10 refine AA ?_
 refine IM ?_;iterate 8 refine AA ?_
 refine AG ?_;refine AD (AH results16 (AF rfl)) ?_;intro ρ j q;exact⟨_,rfl,B8 q rfl,q.1⟩
theorem Vo:wtJ≠[]:=λh=>by
 have a:rdC wtJ=some (tJ,EL,EK):=Kb;rw[h,M5]at a;cases a
theorem Vp:(∀x∈wtJ,x<256)/\wtJ.length<=1048576:=⟨EE (Lb Mu.fit _ _),by have:=GN (tJ.whole EL EK);show(wrT (tJ.whole EL EK)).1.length<=1048576;omega⟩
theorem un(j:Laid w)(f:B6 w)(d:CQ w)(c:7<w.heap.size):∀i b,[wtH,wtI][i]? =some b->b≠[]/\((([.int .u8 0,.int .u8 1,.int .u8 1,.int .i64 0,.int .i64 50,.bool false,.int .i64 0,.int .i64 5,.int .u8 1,.int .u8 2,.int .u8 2,.int .i64 0,.int .i64 50,.bool true,.int .i64 0,.int .i64 1]:List Value).drop (i*8)).take 8).length=8/\ ∀a,Bw w a->CRy 16 #[.agg ((([.int .u8 0,.int .u8 1,.int .u8 1,.int .i64 0,.int .i64 50,.bool false,.int .i64 0,.int .i64 5,.int .u8 1,.int .u8 2,.int .u8 2,.int .i64 0,.int .i64 50,.bool true,.int .i64 0,.int .i64 1]:List Value).drop (i*8)).take 8).toArray] a b.length (b.map b8):=by
 intro i b h;rcases i with _|_|i
 .rw[List.getElem?_cons_zero]at h
  have e:wtH=b:=z4 h;rw[<-e];refine⟨Wq,rfl,λa hb=> ?_⟩;exact ut a (j.bw hb) (f.bw hb) (d.bw hb) (yK c (Below.size hb))
 .rw[List.getElem?_cons_succ,List.getElem?_cons_zero]at h
  have e:wtI=b:=z4 h;rw[<-e];refine⟨Vt,rfl,λa hb=> ?_⟩;exact uq a (j.bw hb) (f.bw hb) (d.bw hb) (yK c (Below.size hb))
 .rw[List.getElem?_cons_succ,List.getElem?_cons_succ,List.getElem?_nil]at h
  cases h
section
variable{P:Program}{w0:World}
def WOk(P:Program)(w0:World)(s:VS)(c:Code)(R:Exit->Act->World->Prop):Prop:= ∀ρ w,Rel w0 ρ s w->c.wp P R (s.act ρ) w
theorem wgo{c:Code}{l:List Value}{w:World}{R:Exit->Act->World->Prop}(h:WOk P w ⟨l.map .v,AJ []⟩ c R):c.wp P R ⟨l.toArray,[]⟩ w:=by
 have a:(⟨l.toArray,[]⟩:Act)=(⟨l.map .v,AJ []⟩:VS).act (λ_=>default):=by
  simp[VS.act,SV.c,uB0]
 rw[a];exact h _ w (gZ l w _)
theorem FT{c d:Code}{R:Exit->Act->World->Prop}(h:VOk P w0 s c λe s'=>e=.normal/\WOk P w0 s' d R):WOk P w0 s (.seq c d) R:=λρ w j=>by
 refine wp_seq (h ρ w _ j ?_);rintro e f s' k ⟨rfl,i⟩ a;exact i f k a
theorem XG{c:Code}{R:Exit->Act->World->Prop}(d:fr.map (SV.c ρ)=vs)(h:WOk P w1 ⟨vs.map .v,AJ []⟩ c R)(m:Mem):c.wp P R ((⟨fr,m⟩:VS).act ρ) w1:=by
 have a:=h ρ w1 ⟨Bw.refl w1,λ_ _=>False,⟨λ_ _ h=>(by cases h),λ_ _ h=>(by cases h),λ_ _ h=>(by cases h),λ_ _ _ h=>(by cases h),λ_ _ _ _ h=>(by cases h)⟩⟩;have e:(⟨vs.map .v,AJ []⟩:VS).act ρ=(⟨fr,m⟩:VS).act ρ:=by simp[VS.act,<-d,SV.c,uB0]
 rw[e]at a;exact a
theorem tX{k:Func}{c:Code}{R:Ending->World->Prop}(d:∀e f,R e f->R' e f)(h:VOk P w0 s c (QB P k w0 R)):WOk P w0 s c (bodyPost P k R'):=λρ w m=>h ρ w _ m λe j s' f l i=>by
 have a:=l j f i;cases e with
 |normal=>exact⟨a.1,a.2.imp λv h=>⟨h.1,d _ _ h.2⟩⟩
 |ret=>exact⟨a.1,a.2.imp λv h=>⟨h.1,d _ _ h.2⟩⟩
 |panic chain=>exact⟨a.1,d _ _ a.2⟩
 |outgrown=>exact d _ _ a
 |_=>exact a
theorem td{l l2:List Oper}(h:VE P ops w0 l E s s'):(∀o∈l,Dv o.op=false)->Go.Vx.plainB E=true->
 (∀e∈E,∀id∈e.nw,Bl id s)-> ∀{Q:Exit->Act->World->Prop},(∀ρ w,Rel w0 ρ s' w->wpList P ops Q l2 (s'.act ρ) w)->
 ∀{ρ:Nat->Nm} {w:World},Rel w0 ρ s w->wpList P ops Q (l++l2) (s.act ρ) w:=by
 induction h with
 |nil s=>intro _ _ _ Q k ρ w m;exact k ρ w m
 | @cons o l e E s s' h r ih=>
   intro a j d Q k ρ w m;simp only[Go.Vx.plainB,yW]at j
   have c:∀f∈E,∀id∈f.nw,Bl id (s.put o.dst e):=by
    intro f q id hid;have i:=y5.1 (y5.1 j.1 f q) id hid;simp only[yW,uF2]at i;exact NL h.ok (d f (by simp[q]) id hid) i.1 (by simpa using i.2)
   have:=h.step (K:=wpList P ops Q (l++l2)) (Q:=Q) (s:=s) (by intro y b t;have:=a o (by simp);rw[t]at this;cases this) (λ_ _=>rfl) (λ_ _=>rfl) (d e (by simp)) m
    (λx z p=>ih (λo u=>a o (by simp[u])) j.2 c k p)
   rw[List.cons_append];unfold wpList;exact this
theorem tZ{l:List Oper}{m:List (Nat×Blk)}{R:Exit->Act->World->Prop}(h:VE P (l++[o]).toArray w0 l E ⟨fr,AJ m⟩ s')
 (a:(l.all (λo=> !Dv o.op) && Go.Vx.plainB E && Es fr m E)=true)(k:o.guard=none)(j:o.dst=none)
 (i:∀ρ w,Rel w0 ρ s' w-> ∃d,(execOp (s'.act ρ).eval o).run P w=.ok .skip d/\rest.wp P R (s'.act ρ) d):WOk P w0 ⟨fr,AJ m⟩ (.seq (.region id (l++[o]).toArray false) rest) R:=λρ w c=>by
 simp only[yW]at a;refine wp_seq (wp_region_lit (td (l2:=[o]) h (λo p=>by have:=y5.1 a.1.1 o p;simpa using this) a.1.2 (NN a.2) (λρ w c=> ?_) c));obtain⟨d,e,f⟩:=i ρ w c;unfold wpList;rw[x9 (Qw k _)];refine .inl ?_;unfold Oper.wp;rw[e];simp only[Oper.upon];unfold wpList;rw[j];exact f
theorem tY{m:List (Nat×Blk)}{R:Exit->Act->World->Prop}(ho:ops.toList.dropLast++[o]=ops.toList)(h:VE P ops w0 ops.toList.dropLast E ⟨fr,AJ m⟩ s')
 (c:(ops.toList.dropLast.all (λo=> !Dv o.op) && Go.Vx.plainB E && Es fr m E)=true)(k:o.guard=none)(j:o.dst=none)
 (i:∀ρ w,Rel w0 ρ s' w-> ∃f,(execOp (s'.act ρ).eval o).run P w=.ok .skip f/\rest.wp P R (s'.act ρ) f):WOk P w0 ⟨fr,AJ m⟩ (.seq (.region id ops false) rest) R:=by
 have d:∀(a:Array Oper) (l:List Oper),a=(l++[o]).toArray->VE P a w0 l E ⟨fr,AJ m⟩ s'->(l.all (λo=> !Dv o.op) && Go.Vx.plainB E && Es fr m E)=true->WOk P w0 ⟨fr,AJ m⟩ (.seq (.region id a false) rest) R:=by
  intro a l e h c;subst e;exact tZ h c k j i
 exact d ops _ (by rw[ho]) h c
end
structure Cut5(w w1:World)(lv rv:Value)(W:Nat->List Nat)(g:Nat->Nat)(v:Nat->Value):Prop where
 byt:∀k,k<3->Byt w1 (g k) (v k) (W k)
 lo:∀k,k<3->w.heap.size<=g k
 ne:∀j k,j<3->k<3->g j=g k->j=k
 l:∃a,a<w1.heap.size/\AO w1 lv 2 1 [v 0,v 1] (λj=>j=a)/\ ∀k,k<3->g k≠a
 r:∃a,a<w1.heap.size/\AO w1 rv 1 1 [v 2] (λj=>j=a)/\ ∀k,k<3->g k≠a
theorem Byt.lt{w:World}{g:Nat}{v:Value}(h:Byt w g v b):g<w.heap.size:=by
 obtain⟨e,a,c,f,i,d,_⟩:=h;exact(z8.1 d).1
theorem Cut5.bw{w:World}{i:Value}{W:Nat->List Nat}(h:Cut5 w w1 i rv W g v)(c:Bw w1 w2):Cut5 w w2 i rv W g v where
 byt k hk:=(h.byt k hk).keep (c.block _ (h.byt k hk).lt)
 lo:=h.lo
 ne:=h.ne
 l:=by obtain⟨a,d,e,f⟩:=h.l;exact⟨a,yK d c.size,A5 e c,f⟩
 r:=by obtain⟨a,d,e,f⟩:=h.r;exact⟨a,yK d c.size,A5 e c,f⟩
theorem Cut5.set{w i:World}{x:Value}{W:Nat->List Nat}{k:Nat}(h:Cut5 w w2 x rv W g v)(q:k<3)(u:i.heap.size=w2.heap.size)(t:∀j,j≠g k->i.heap[j]? =w2.heap[j]?)(y:Byt i (g k) (v k) X):Cut5 w i x rv (λj=>if j=k then X else W j) g v where
 byt j d:=by
  show Byt i (g j) (v j) (if j=k then X else W j);split
  .rename_i e;subst e;exact y
  .rename_i e;exact(h.byt j d).keep (t _ λc=>e (h.ne j k d q c))
 lo:=h.lo
 ne:=h.ne
 l:=by obtain⟨a,m,p,f⟩:=h.l;exact⟨a,by rw[u];exact m,p.keep (λj d=>by subst d;exact t _ (λc=>f k q c.symm)),f⟩
 r:=by obtain⟨a,m,p,f⟩:=h.r;exact⟨a,by rw[u];exact m,p.keep (λj d=>by subst d;exact t _ (λc=>f k q c.symm)),f⟩
theorem qH(h:n<9223372036854775808)(w:World):(convert 49 3 (.int .u64 (n:Nat))).run prog w=.ok (.int .i64 (n:Nat)) w:=by
 go_simp
 exact Ah (by omega) (by omega)
theorem dp(n m:Nat)(h:0<m):BOy .rem 49 (.int .u64 (n:Nat)) (.int .u64 (m:Nat)) (.int .u64 ((n %m:Nat):Int)):=by
 intro p q w
 go_simp
 rw[x8 (by omega),uD5 (by omega)]
theorem uN{w:World}{x y:Operand}{g i z:Nat}{v:Value}(M:o.op=.store 5 x y)(N:AE s x=.fn (FK i) (.v v))(O:AE s y=.v (b8 z))(h:Byt w g v b)(Q:i<b.length):
 ∃f,(execOp (s.act ρ).eval o).run prog w=.ok .skip f/\f.os=w.os/\f.tape=w.tape/\f.output=w.output/\f.heap.size=w.heap.size/\(∀j,j≠g->f.heap[j]? =w.heap[j]?)/\Byt f g v (b.set i z):=by
 have r:=AI s ρ x;rw[N]at r;have t:=AI s ρ y;rw[O]at t;obtain⟨d,q,a,A,rfl,B,C,F,G,H,I⟩:=h;have k:d+i+1<=a.size:=by omega
 have l:=Lu (P:=prog) g (d+i) 5 A [b8 z] 0 a w B (NK C) (by simpa using k) (λu D=>by simp at D;subst D;rfl);simp only[Nat.add_zero,uA8]at l
 have e:(a.toList.take (d+i)++[b8 z]++a.toList.drop (d+i+1)).toArray.size=a.size:=by
  simp only[uD1,yM,z6,zH,Array.length_toList,uA8];omega
 refine⟨w.setRow g (a.toList.take (d+i)++[b8 z]++a.toList.drop (d+i+1)).toArray,?_,rfl,rfl,rfl,by simp,λj L=>MT w _ j _ L,d,q,_,A,by rw[List.length_set],ID w g a _ 5 _ B,by rw[e];exact C,by rw[List.length_set];exact F,G,by rw[e];exact H,?_⟩
 .simp only[execOp,M,r,t,SV.c,FK,Bd,Instr.storeAt,Instr.sureAddr,storeVar]
  rw[Sem.run_bind,Sem.run_bind,Sem.run_pure,Result.andThen_ok,Sem.run_bind,yG,Result.andThen_ok,x8 (by simp[b8,Value.cells])];have K:(b8 z).cells.toList=[b8 z]:=rfl;rw[K,l];rfl
 .rw[List.length_set,List.map_set,<-I]
  apply uB1;intro j;simp only[zP,zQ,List.getElem?_append,List.getElem?_set,z6,zH,yM,Array.length_toList,uA8];have J:min (d+i) a.size=d+i:=by omega
  simp only[J];by_cases m:j<b.length
  .rw[x9 m]
   by_cases p:i=j
   .subst p
    rw[x9 (by omega),x8 (by omega),x9 rfl,x9 (by omega)];simp
   .rw[x8 p]
    by_cases R:j<i
    .rw[x9 (by omega),x9 (by omega),x9 (by omega),x9 m]
    .rw[x8 (by omega),x9 m]
     congr 1;omega
  .rw[x8 m]
   by_cases p:i=j
   .omega
   .rw[x8 p,x8 m]
noncomputable def W5w(k:Nat):List Nat:=if k=0 then wtH else if k=1 then wtI else wtJ
theorem GU(k:Nat):(∀x∈W5w k,x<256)/\(W5w k).length<=1048576/\W5w k≠[]:=by
 unfold W5w;split
 .exact⟨W0.1,W0.2,Wq⟩
 .split
  .exact⟨WC.1,WC.2,Vt⟩
  .exact⟨Vp.1,Vp.2,Vo⟩
theorem wL{w:World}(hr:Rel w ρ s w1)(z:s.mem 19=some (.dat (Jx [wtH,wtI])))(t:s.mem 21=some (.row wtJ.length 1 5 (.exact (wtJ.map b8))))(m:s.mem 22=some (.cells [.d 21] 23)):∃g v,Cut5 w w1 (ρ 19).val (.slice (some ⟨(ρ 22).g,0,none⟩) 1 1) W5w g v:=by
 obtain⟨hb,S,i⟩:=hr;obtain⟨lv,e,gl,vs,D,L,B,T,⟨Z,V,W,Y,O⟩,q,p⟩:(Jx [wtH,wtI]).holds [(ρ 19).val] w1 (S 19):=i.good 19 _ z;simp only[zX,zS]at e;subst e;have f:(s.mem 19).isSome:=by rw[z];rfl
 match Z,V,vs,W with
 | [ga,gb],_,[va,vb],_=>
   have u:=O 0 ga va wtH rfl rfl rfl;have a:=O 1 gb vb wtI rfl rfl rfl
   have C:ga≠gb:=by
    intro e;subst e;simp at Y
   obtain⟨xs,x1,x2,x3⟩:=i.good 21 _ t;have M:xs=wtJ.map b8:=x2;subst M
   have hJ:Byt w1 (ρ 21).g (ρ 21).val wtJ/\w.heap.size<=(ρ 21).g:=by
    rcases x3 with⟨_,h⟩|⟨F,x,y,N,G,h2,h3,h4,h5,h6,Q,R⟩
    .exact absurd (zJ h) Vo
    .exact⟨⟨F,x,y,N,G,h3,h4,h5,h6,by rw[yQ]at Q;exact Q,by rw[yQ]at R;exact R⟩,h2⟩
   have U:Blk.owns (ρ 21) (.row wtJ.length 1 5 (.exact (wtJ.map b8))):=by
    intro hv;obtain⟨F,x,y,N,G,_⟩:=hJ.1;rw[hv]at G;cases G
   have d21: ¬S 19 (ρ 21).g:=i.dis 21 _ 19 t U f;have d22: ¬S 19 (ρ 22).g:=i.dis 22 _ 19 m True.intro f
   have d:(ρ 21).g≠(ρ 22).g:=λc=>by
    have:=i.inj 21 _ 22 _ t U m True.intro c;omega
   have A:=i.good 22 _ m;have K:=JZ (id:=22) (j:=21) (i.restr [22]) (by simp) (by show(if 22∈[22]then s.mem 22 else none)=_;rw[x9 (by simp)];exact m);refine⟨λk=>if k=0 then ga else if k=1 then gb else(ρ 21).g,λk=>if k=0 then va else if k=1 then vb else(ρ 21).val,?_,?_,?_,?_,?_⟩
   .intro k H
    have:k=0\/k=1\/k=2:=by omega
    rcases this with rfl|rfl|rfl
    .exact u.2
    .exact a.2
    .exact hJ.1
   .intro k H
    have:k=0\/k=1\/k=2:=by omega
    rcases this with rfl|rfl|rfl
    .exact i.fr 19 ga f (q _ u.1)
    .exact i.fr 19 gb f (q _ a.1)
    .exact hJ.2
   .intro j k hj H e
    have I:j=0\/j=1\/j=2:=by omega
    have J:k=0\/k=1\/k=2:=by omega
    rcases I with rfl|rfl|rfl<;>rcases J with rfl|rfl|rfl
    .rfl
    .exact absurd e C
    .exact absurd (q _ u.1) (by have r:ga=(ρ 21).g:=e;rw[r];exact d21)
    .exact absurd e.symm C
    .rfl
    .exact absurd (q _ a.1) (by have r:gb=(ρ 21).g:=e;rw[r];exact d21)
    .exact absurd (q _ u.1) (by have r:(ρ 21).g=ga:=e;rw[<-r];exact d21)
    .exact absurd (q _ a.1) (by have r:(ρ 21).g=gb:=e;rw[<-r];exact d21)
    .rfl
   .refine⟨gl,i.lt 19 gl f B,?_,?_⟩
    .exact DX D L
    .intro k H
     have:k=0\/k=1\/k=2:=by omega
     rcases this with rfl|rfl|rfl
     .intro c;have l:ga=gl:=c;rw[<-l]at p;exact p u.1
     .intro c;have l:gb=gl:=c;rw[<-l]at p;exact p a.1
     .intro c;have l:(ρ 21).g=gl:=c;rw[l]at d21;exact d21 B
   .refine⟨(ρ 22).g,(z8.1 A.2).1,?_,?_⟩
    .exact K
    .intro k H
     have:k=0\/k=1\/k=2:=by omega
     rcases this with rfl|rfl|rfl
     .intro c;have l:ga=(ρ 22).g:=c;rw[<-l]at d22;exact d22 (q _ u.1)
     .intro c;have l:gb=(ρ 22).g:=c;rw[<-l]at d22;exact d22 (q _ a.1)
     .exact d
theorem uk(hL:Laid w):CRy 21 #[.int .u8 1] w (65) (CN.map b8):=by
 go_enter func21,ntmps21
 refine A4 ?_;iterate 7 refine AA ?_
 refine IH ?_;iterate 12 refine AA ?_
 refine AG ?_;refine AD (AH results21 (AF rfl)) ?_;intro ρ c a;exact⟨_,rfl,B8 a rfl,a.1⟩
theorem uj(hL:Laid w):CRy 21 #[.int .u8 2] w (65) (Ch.map b8):=by
 go_enter func21,ntmps21
 refine A4 ?_;iterate 7 refine AA ?_
 refine KG ?_;iterate 12 refine AA ?_
 refine AG ?_;refine AD (AH results21 (AF rfl)) ?_;intro ρ c a;exact⟨_,rfl,B8 a rfl,a.1⟩
end Go.Proofs.YtafbhakmkbehiaaGreatDoor
