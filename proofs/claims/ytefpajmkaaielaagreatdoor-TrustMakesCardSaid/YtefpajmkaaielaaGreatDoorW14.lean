import Derived.Test.YtefpajmkaaielaaGreatDoorW13
open Go.Proofs.Tryz
set_option maxHeartbeats 4000000
set_option maxRecDepth 100000
namespace Go.Proofs.YtefpajmkaaielaaGreatDoor
open Go.RowKit Go.Vx
variable(w:World){ops:Array Oper}{tg:Int}{b bs rd:List Nat}{ks:List Tr}{i sz:Nat}{ρ:Nat→Nm}{S:Nat→Prop}{x:Operand}{P:Program}{t:Tr}{d:TypeDesc}{bt:TypeId}{bv kv x0 x1 x2:Value}
open Go.Toll (Gw)
def CN:Tr→Nat→Option (List Nat)
 | .mk tg b ks,sz=>bif decide (tg≠2)then none else bif !(Ag (.mk tg b ks) 1)then none else bif decide (b.headD 0≥128)then none else bif decide ((AY b).length>sz)then none else some (List.replicate (sz-(AY b).length) 0++AY b)
theorem OT{l:List Nat}(h:CN (.mk tg b ks) sz=some l):decide (tg≠2)=false∧Ag (.mk tg b ks) 1=true∧decide (b.headD 0≥128)=false∧decide ((AY b).length>sz)=false∧l=List.replicate (sz-(AY b).length) 0++AY b:=by
 simp only[CN]at h;cases h1:decide (tg≠2)<;>rw[h1]at h<;>simp only[cond_true,cond_false]at h
 ·cases h2:Ag (.mk tg b ks) 1<;>rw[h2]at h<;>simp only[Bool.not_true,Bool.not_false,cond_true,cond_false]at h
  ·cases h
  ·cases h3:decide (b.headD 0≥128)<;>rw[h3]at h<;>simp only[cond_true,cond_false]at h
   ·cases h4:decide ((AY b).length>sz)<;>rw[h4]at h<;>simp only[cond_true,cond_false]at h
    ·exact⟨rfl,rfl,rfl,rfl,(Option.some.inj h).symm⟩
    ·cases h
   ·cases h
 ·cases h
theorem Z5(h:CN (.mk tg b ks) sz=none):(decide (tg≠2)||(!(Ag (.mk tg b ks) 1)||(decide (b.headD 0≥128)||decide ((AY b).length>sz))))=true:=by
 simp only[CN]at h;cases h1:decide (tg≠2)<;>rw[h1]at h<;>simp only[cond_true,cond_false]at h
 ·cases h2:Ag (.mk tg b ks) 1<;>rw[h2]at h<;>simp only[Bool.not_true,Bool.not_false,cond_true,cond_false]at h
  ·rfl
  ·cases h3:decide (b.headD 0≥128)<;>rw[h3]at h<;>simp only[cond_true,cond_false]at h
   ·cases h4:decide ((AY b).length>sz)<;>rw[h4]at h<;>simp only[cond_true,cond_false]at h
    ·cases h
    ·rfl
   ·rfl
 ·rfl
theorem OW(h: ∀x∈bs,x<256): ∀x∈AY bs,x<256:=fun x hx=>h x ((List.dropWhile_suffix _).subset hx)
theorem Lh{l:List Nat}(h:CN t sz=some l):l.length=sz:=by
 cases t with
 |mk tg b ks=>
  obtain⟨_,_,_,h4,rfl⟩:=OT h;have:=of_decide_eq_false h4;rw[List.length_append,List.length_replicate];omega
theorem Lg(hok:t.ok){l:List Nat}(h:CN t sz=some l): ∀x∈l,x<256:=by
 cases t with
 |mk tg b ks=>
  obtain⟨_,_,_,h4,rfl⟩:=OT h;simp only[Tr.ok]at hok;intro x hx;rcases List.mem_append.1 hx with hx|hx
  ·rw[(List.mem_replicate.1 hx).2];decide
  ·exact OW hok.1 x hx
theorem TL(h1:decide (tg≠2)=false)(h2:Ag (.mk tg b ks) 1=true):EX b=true:=by
 have e:tg=2:=by have:=of_decide_eq_false h1;omega
 subst e;have h:Ag (.mk 2 b ks) 1=(decide (ks.length=0) && EX b):=rfl;rw[h,Bool.and_eq_true]at h2;exact h2.2
theorem SD(h:EX b=true):0<b.length:=by
 cases b with
 |nil=>cases h
 |cons x r=>simp
theorem Ze(k:Nat)(l:List Nat):List.replicate k (Value.int .u8 0)++l.map b8=(List.replicate k 0++l).map b8:=by
 rw[List.map_append,List.map_replicate];rfl
theorem Z3(hok:(Tr.mk tg b ks).ok)(hx:DN w S (.mk tg b ks) [.int .i64 tg,bv,kv])(hsz:sz≤64)(h:CN (.mk tg b ks) sz=none):CBy 130 #[.agg #[.int .i64 tg,bv,kv],.int .i64 (sz:Nat)] w (.tuple #[.slice none 0 0,.int .i64 2]):=by
 have hbm:b.length≤maxLen:=by simp only[Tr.ok]at hok;simp only[maxLen];omega
 have hv:AJ w bv b.length 1 (b.map b8) S:=by
  simp only[DN]at hx;obtain⟨bv',kv',cs,e,h2,_⟩:=hx;simp only[List.cons.injEq,and_true]at e;rw[e.2.1];exact h2
 have htv:=Li hv;have htl:=G4 b;have hle:decide ((AY b).length>sz)=false→(AY b).length≤sz:=fun g=>by have:=of_decide_eq_false g;omega
 have hpos:decide (tg≠2)=false→Ag (.mk tg b ks) 1=true→0<b.length:=fun g1 g2=>SD (TL g1 g2)
 have hq:=Z5 h;obtain⟨q1,h_q1⟩: ∃p,decide (tg≠2)=p:=⟨_,rfl⟩
 obtain⟨q2,h_q2⟩: ∃p,Ag (.mk tg b ks) 1=p:=⟨_,rfl⟩
 obtain⟨q3,h_q3⟩: ∃p,decide (b.headD 0≥128)=p:=⟨_,rfl⟩
 obtain⟨q4,h_q4⟩: ∃p,decide ((AY b).length>sz)=p:=⟨_,rfl⟩
 have h_q3':=(KU (b.headD 0) 128).trans h_q3;have h_q4':=(EI (AY b).length sz).trans h_q4;rw[h_q1,h_q2,h_q3,h_q4]at hq
 go_enter func130,ntmps130
 refine AO ?_;cases q1<;>cases q2<;>cases q3<;>cases q4<;>
 (
  iterate 11 refine k_g ?_
  refine V4 ?_;iterate 2 refine k_g ?_
  refine P6 ?_;iterate 5 refine k_g ?_
  refine WC ?_;refine k_s (by first|exact Ev.skip (fun _=>rfl)|exact B5 rfl (fun _=>rfl) rfl underlying5 rfl (AW hv) (NE (hpos h_q1 h_q2))) ?_;refine Vm ?_;iterate 2 refine k_g ?_
  first
  |(
   iterate 6 refine k_g ?_
   refine AG ?_;refine AD (Av results130 (AE rfl) (AE rfl)) ?_;intro ρ w' hr
   (first|exact⟨rfl,hr.1⟩|(cases hq))
   )
  |(
   iterate 6 refine k_g ?_
   refine k_s (by exact Ah rfl gg rfl (eo func127) (fun w' hb=>OV w' (Aa hv hb) hbm)) ?_;iterate 6 refine k_g ?_
   refine Km ?_;refine k_g ?_;refine k_s (by exact Bf rfl gg rfl rfl h_q4') ?_;refine k_g ?_;first
   |(
    iterate 6 refine k_g ?_
    refine AG ?_;refine AD (Av results130 (AE rfl) (AE rfl)) ?_;intro ρ w' hr
    (first|exact⟨rfl,hr.1⟩|(cases hq))
    )
   |(
    iterate 6 refine k_g ?_
    refine Km ?_;refine WY ?_;refine WP ?_;refine k_g ?_;refine WQ ?_;iterate 3 refine k_g ?_
    refine AG ?_;refine AD (Av results130 (AE rfl) (AE rfl)) ?_;intro ρ w' hr
    (first|exact⟨rfl,hr.1⟩|(cases hq))
    )
   )
 )
theorem Z2(hok:(Tr.mk tg b ks).ok)(hx:DN w S (.mk tg b ks) [.int .i64 tg,bv,kv])(hsz:sz≤64){l:List Nat}(h:CN (.mk tg b ks) sz=some l):Calls prog 130 #[.agg #[.int .i64 tg,bv,kv],.int .i64 (sz:Nat)] w fun e w'=> ∃v,e= .returned (.tuple #[v,.int .i64 0])∧BJ w w' v sz 1 5 (l.map b8)∧Bw w w':=by
 have hbm:b.length≤maxLen:=by simp only[Tr.ok]at hok;simp only[maxLen];omega
 have hv:AJ w bv b.length 1 (b.map b8) S:=by
  simp only[DN]at hx;obtain⟨bv',kv',cs,e,h2,_⟩:=hx;simp only[List.cons.injEq,and_true]at e;rw[e.2.1];exact h2
 have htv:=Li hv;have htl:=G4 b;have hle:decide ((AY b).length>sz)=false→(AY b).length≤sz:=fun g=>by have:=of_decide_eq_false g;omega
 have hpos:decide (tg≠2)=false→Ag (.mk tg b ks) 1=true→0<b.length:=fun g1 g2=>SD (TL g1 g2)
 obtain⟨h_q1,h_q2,h_q3,h_q4,hl⟩:=OT h;have h_q3':=(KU (b.headD 0) 128).trans h_q3;have h_q4':=(EI (AY b).length sz).trans h_q4
 go_enter func130,ntmps130
 refine AO ?_;iterate 11 refine k_g ?_
 refine V4 ?_;iterate 2 refine k_g ?_
 refine P6 ?_;iterate 5 refine k_g ?_
 refine WC ?_;refine k_s (by first|exact Ev.skip (fun _=>rfl)|exact B5 rfl (fun _=>rfl) rfl underlying5 rfl (AW hv) (NE (hpos h_q1 h_q2))) ?_;refine Vm ?_;iterate 8 refine k_g ?_
 refine k_s (by exact Ah rfl gg rfl (eo func127) (fun w' hb=>OV w' (Aa hv hb) hbm)) ?_;iterate 6 refine k_g ?_
 refine Km ?_;refine k_g ?_;refine k_s (by exact Bf rfl gg rfl rfl h_q4') ?_;iterate 7 refine k_g ?_
 refine Km ?_;refine WY ?_;refine WP ?_;refine k_g ?_;refine WQ ?_;iterate 3 refine k_g ?_
 refine AG ?_;refine AD (Av results130 (AE rfl) (AE rfl)) ?_;intro ρ w' hr;refine⟨(ρ 35).val,rfl,?_,hr.1⟩;have hh:=BR (id:=35) hr rfl;rw[Ze,Nat.sub_add_cancel (hle h_q4)]at hh;rw[hl];exact hh
theorem SJ{c:List Value}(hok:t.ok)(hx:DN w S t c)(hsz:sz≤64)(h:CN t sz=none):CBy 130 #[.agg c.toArray,.int .i64 (sz:Nat)] w (.tuple #[.slice none 0 0,.int .i64 2]):=by
 cases t with
 |mk tg b ks=>
  have hx':=hx;simp only[DN]at hx';obtain⟨bv,kv,cs,rfl,_⟩:=hx';exact Z3 w hok hx hsz h
theorem SI{c:List Value}(hok:t.ok)(hx:DN w S t c)(hsz:sz≤64){l:List Nat}(h:CN t sz=some l):Calls prog 130 #[.agg c.toArray,.int .i64 (sz:Nat)] w fun e w'=> ∃v,e= .returned (.tuple #[v,.int .i64 0])∧BJ w w' v sz 1 5 (l.map b8)∧Bw w w':=by
 cases t with
 |mk tg b ks=>
  have hx':=hx;simp only[DN]at hx';obtain⟨bv,kv,cs,rfl,_⟩:=hx';exact Z2 w hok hx hsz h
def beN(l:List Nat):Nat:=l.foldl (fun a b=>a*256+b) 0
def xvD(l:List Nat)(i:Nat):Int:=IntKind.i64.wrap ((beN (l.take i):Nat):Int)
theorem rc{l:List Nat}{b:Nat}(h:l[i]? =some b):beN (l.take (i+1))=beN (l.take i)*256+b:=by
 rw[F8 h];unfold beN;rw[List.foldl_append];rfl
theorem W8: ∀(l:List Nat) (a k:Nat),(∀x∈l,x<256)→a<256^k→l.foldl (fun a b=>a*256+b) a<256^(k+l.length)
 | [],a,k,_,h=>h
 |b::r,a,k,hl,h=>by
  have hb:=hl b (by simp);have:a*256+b<256^(k+1):=by rw[Nat.pow_succ];omega
  have:=W8 r (a*256+b) (k+1) (fun x hx=>hl x (by simp[hx])) this;rw[List.foldl_cons,List.length_cons,show k+(r.length+1)=k+1+r.length by omega];exact this
theorem RQ{l:List Nat}(h: ∀x∈l,x<256):beN l<256^l.length:=by
 have:=W8 l 0 0 h (by decide)
 rwa [Nat.zero_add]at this
theorem SZ{l:List Nat}(h: ∀x∈l,x<256)(hi:i≤7):beN (l.take i)<72057594037927936:=by
 have h1:=RQ (l:=l.take i) (fun x hx=>h x (List.mem_of_mem_take hx));have h2:256^(l.take i).length≤256^7:=Nat.pow_le_pow_right (by decide) (by rw[List.length_take];omega);have h3:256^7=72057594037927936:=by decide
 omega
theorem S8{l:List Nat}(h: ∀x∈l,x<256)(hi:i<8):BOy .shl 3 (.int .i64 (xvD l i)) (.int .u64 8) (.int .i64 (IntKind.i64.wrap ((beN (l.take i)*256:Nat):Int))):=by
 intro p q w
 have hv:=SZ h (show i≤7 by omega);have e:xvD l i=((beN (l.take i):Nat):Int):=Af (by omega) (by omega);rw[e];generalize beN (l.take i)=v at hv
 go_simp
theorem mq(v b:Nat)(hv:v<72057594037927936)(hb:b<256):bits .or .i64 (IntKind.i64.wrap ((v*256:Nat):Int)) (b:Int)=IntKind.i64.wrap ((v*256+b:Nat):Int):=by
 have e: ∀n:Int,BitVec.ofInt 64 (IntKind.i64.wrap n)=BitVec.ofInt 64 n:=by
  intro n;apply BitVec.eq_of_toInt_eq;rw[BitVec.toInt_ofInt,BitVec.toInt_ofInt,IntKind.wrap_i64];simp only[Int.bmod_def];omega
 have h:(BitVec.ofInt 64 ((v*256:Nat):Int)|||BitVec.ofInt 64 (b:Int)).toNat=v*256+b:=by
  rw[BitVec.toNat_or,BitVec.toNat_ofInt,BitVec.toNat_ofInt];have h1:(((v*256:Nat):Int) %((2^64:Nat):Int)).toNat=v*256:=by omega
  have h2:((b:Int) %((2^64:Nat):Int)).toNat=b:=by omega
  rw[h1,h2];have:=Nat.two_pow_add_eq_or_of_lt (i:=8) (b:=b) (by omega) v;rw[Nat.mul_comm v 256];exact this.symm
 show IntKind.i64.wrap ((BitVec.ofInt 64 (IntKind.i64.wrap ((v*256:Nat):Int))|||BitVec.ofInt 64 (b:Int)).toNat:Int)=_;rw[e,h]
theorem UF{l:List Nat}{b:Nat}(h: ∀x∈l,x<256)(hi:i<8)(hb:l[i]? =some b):BOy .or 3 (.int .i64 (IntKind.i64.wrap ((beN (l.take i)*256:Nat):Int))) (.int .i64 (b:Nat)) (.int .i64 (xvD l (i+1))):=by
 intro p q w
 have hv:=SZ h (show i≤7 by omega);have hb8:=h b (List.mem_of_getElem? hb);unfold xvD;rw[rc hb];generalize beN (l.take i)=v at hv
 go_simp
 exact mq v b hv hb8
theorem YJ{b:Nat}(h:b<256)(w:World):(convert 5 3 (.int .u8 (b:Nat))).run prog w= .ok (.int .i64 (b:Nat)) w:=by
 have e:IntKind.i64.wrap (b:Int)=(b:Int):=Af (by omega) (by omega)
 go_simp
def tnN(t:Tr):Int×Int:=match CN t 8 with
 |none=>(0,2)
 |some l=>bif decide (beN l<4611686018427387904)then((beN l:Nat),0)else(0,2)
theorem xv8{l:List Nat}(h: ∀x∈l,x<256)(hl:l.length=8):xvD l 8=if beN l<9223372036854775808 then((beN l:Nat):Int)else(beN l:Nat)-18446744073709551616:=by
 have h1:=RQ h;rw[hl]at h1;have h3:256^8=18446744073709551616:=by decide
 unfold xvD;rw[List.take_of_length_le (by omega),IntKind.wrap_i64];split<;>omega
theorem Rx{l:List Nat}(h: ∀x∈l,x<256)(hl:l.length=8):decide (xvD l 8<0)=decide (beN l≥9223372036854775808):=by
 rw[xv8 h hl];have h1:=RQ h;rw[hl]at h1;have h3:256^8=18446744073709551616:=by decide
 split
 ·rw[decide_eq_false (by omega),decide_eq_false (by omega)]
 ·rw[decide_eq_true (by omega),decide_eq_true (by omega)]
theorem Ry{l:List Nat}(h: ∀x∈l,x<256)(hl:l.length=8)(hn:decide (beN l≥9223372036854775808)=false):decide ((4611686018427387904:Int)≤xvD l 8)=decide (beN l≥4611686018427387904):=by
 rw[xv8 h hl];have:=of_decide_eq_false hn;rw[if_pos (by omega)];exact decide_eq_decide.2 (by omega)
theorem aP(hok:t.ok)(hx:DN w S t [x0,x1,x2])(h:CN t 8=none):CBy 118 #[.agg #[x0,x1,x2]] w (.tuple #[.int .i64 0,.int .i64 2]):=by
 go_enter func118,ntmps118
 refine AO ?_;iterate 9 refine k_g ?_
 refine k_s (by exact Ah rfl gg rfl (eo func130) (fun w' hb=>SJ (sz:=8) w' hok (Dk hb hx) (by decide) h)) ?_;iterate 10 refine k_g ?_
 refine k_s (by exact A0 (p:=true) rfl gg rfl rfl (by decide)) ?_;iterate 8 refine k_g ?_
 exact AG (AD (Av results118 (AE rfl) (AE rfl)) fun _ _ hr=>⟨rfl,hr.1⟩)
theorem aN(hok:t.ok)(hx:DN w S t [x0,x1,x2]){l:List Nat}(h:CN t 8=some l)(hs:beN l<4611686018427387904):CBy 118 #[.agg #[x0,x1,x2]] w (.tuple #[.int .i64 ((beN l:Nat):Int),.int .i64 0]):=by
 have hlt8:=Lg hok h;have hll:=Lh h
 go_enter func118,ntmps118
 refine AO ?_;iterate 9 refine k_g ?_
 refine WZ ?_;iterate 10 refine k_g ?_
 refine k_s (by exact A0 (p:=false) rfl gg rfl rfl (by decide)) ?_;iterate 11 refine k_g ?_
 refine EM ?_;iterate 3 refine k_g ?_
 refine B7 (α:={x:Nat // x≤8}) (fun(x:{x:Nat // x≤8}) f=>⟨.v (f 0):: .p 1 0:: .v (.int .i64 0):: .v (.int .i64 0):: .v (f 4):: .v (f 5):: .v (.int .i64 (xvD l x.1))::fv f 10 7 (.d 11:: .v (.int .i64 8):: .v (.int .i64 (x.1:Nat))::fv f 16 20 []),AK [(11,.row 8 1 5 (.exact (l.map b8))),(1,.cells [.v x0,.v x1,.v x2] 108)]⟩) (fun x=>8-x.1) ?_ (⟨0,by decide⟩) ?_
 ·rintro⟨i,hi⟩ f
  obtain⟨q,h_q⟩: ∃q,decide (((i:Nat):Int)<8)=q:=⟨_,rfl⟩
  change VOk _ _ _ _ _;simp only[fv,Nat.reduceAdd];iterate 2 refine k_g ?_
  refine I0 ?_;iterate 2 refine k_g ?_
  cases q
  ·refine k_g ?_
   have h8:i=8:=by have:=of_decide_eq_false h_q;omega
   subst h8;refine Aq ?_;change VOk _ _ _ _ _;iterate 4 refine k_g ?_
   refine k_s (by exact A4 (p:=false) rfl gg rfl rfl (by rw[Rx hlt8 hll];exact decide_eq_false (by omega))) ?_;iterate 2 refine k_g ?_
   refine k_s (by first|exact Ev.skip (fun _=>rfl)|exact Dh (p:=false) rfl (fun _=>rfl) rfl rfl (by rw[Ry hlt8 hll (decide_eq_false (by omega))];exact decide_eq_false (by omega))) ?_;iterate 10 refine k_g ?_
   refine AG ?_;refine AD (Av results118 (AE rfl) (AE rfl)) ?_;intro ρ w' hr;have e8:xvD l 8=((beN l:Nat):Int):=by rw[xv8 hlt8 hll,if_pos (by omega)]
   rw[e8];exact⟨rfl,hr.1⟩
  ·refine k_g ?_
   have hlt:i<8:=by have:=of_decide_eq_true h_q;omega
   obtain⟨b,hb⟩:=Gh (l:=l) (i:=i) (by omega);iterate 5 refine k_g ?_
   refine It ?_;refine k_s (by exact B5 rfl gg rfl underlying5 rfl (BI rfl) (HS hb)) ?_;iterate 4 refine k_g ?_
   refine k_s (by exact AN rfl gg rfl rfl (fun w=>S8 hlt8 hlt _ _ w)) ?_;refine k_g ?_;refine k_s (by exact A5 rfl gg rfl (fun w=>YJ (hlt8 b (List.mem_of_getElem? hb)) w)) ?_;refine k_s (by exact AN rfl gg rfl rfl (fun w=>UF hlt8 hlt hb _ _ w)) ?_;iterate 3 refine k_g ?_
   refine FG ?_;iterate 2 refine k_g ?_
   refine⟨⟨i+1,by omega⟩,by show 8-(i+1)<8-i;omega,?_⟩;exact Al (fun i=>i==1||i==2||i==3||i==6||i==17||i==18||i==19) []
 ·exact Al (fun i=>i==1||i==2||i==3||i==6||i==17||i==18||i==19) []
theorem aQ(hok:t.ok)(hx:DN w S t [x0,x1,x2]){l:List Nat}(h:CN t 8=some l)(hs: ¬beN l<4611686018427387904):CBy 118 #[.agg #[x0,x1,x2]] w (.tuple #[.int .i64 0,.int .i64 2]):=by
 have hlt8:=Lg hok h;have hll:=Lh h;obtain⟨qn,h_n⟩: ∃q,decide (beN l≥9223372036854775808)=q:=⟨_,rfl⟩
 go_enter func118,ntmps118
 refine AO ?_;iterate 9 refine k_g ?_
 refine WZ ?_;iterate 10 refine k_g ?_
 refine k_s (by exact A0 (p:=false) rfl gg rfl rfl (by decide)) ?_;iterate 11 refine k_g ?_
 refine EM ?_;iterate 3 refine k_g ?_
 refine B7 (α:={x:Nat // x≤8}) (fun(x:{x:Nat // x≤8}) f=>⟨.v (f 0):: .p 1 0:: .v (.int .i64 0):: .v (.int .i64 0):: .v (f 4):: .v (f 5):: .v (.int .i64 (xvD l x.1))::fv f 10 7 (.d 11:: .v (.int .i64 8):: .v (.int .i64 (x.1:Nat))::fv f 16 20 []),AK [(11,.row 8 1 5 (.exact (l.map b8))),(1,.cells [.v x0,.v x1,.v x2] 108)]⟩) (fun x=>8-x.1) ?_ (⟨0,by decide⟩) ?_
 ·rintro⟨i,hi⟩ f
  obtain⟨q,h_q⟩: ∃q,decide (((i:Nat):Int)<8)=q:=⟨_,rfl⟩
  change VOk _ _ _ _ _;simp only[fv,Nat.reduceAdd];iterate 2 refine k_g ?_
  refine I0 ?_;iterate 2 refine k_g ?_
  cases q
  ·refine k_g ?_
   have h8:i=8:=by have:=of_decide_eq_false h_q;omega
   subst h8;cases qn<;>
   (
    refine Aq ?_;change VOk _ _ _ _ _;iterate 4 refine k_g ?_
    refine k_s (by exact A4 rfl gg rfl rfl ((Rx hlt8 hll).trans h_n)) ?_;iterate 2 refine k_g ?_
    refine k_s (by first|exact Ev.skip (fun _=>rfl)|exact Dh (p:=true) rfl (fun _=>rfl) rfl rfl (by rw[Ry hlt8 hll h_n];exact decide_eq_true (by omega))) ?_;iterate 8 refine k_g ?_
    exact AG (AD (Av results118 (AE rfl) (AE rfl)) fun _ _ hr=>⟨rfl,hr.1⟩)
   )
  ·refine k_g ?_
   have hlt:i<8:=by have:=of_decide_eq_true h_q;omega
   obtain⟨b,hb⟩:=Gh (l:=l) (i:=i) (by omega);iterate 5 refine k_g ?_
   refine It ?_;refine k_s (by exact B5 rfl gg rfl underlying5 rfl (BI rfl) (HS hb)) ?_;iterate 4 refine k_g ?_
   refine k_s (by exact AN rfl gg rfl rfl (fun w=>S8 hlt8 hlt _ _ w)) ?_;refine k_g ?_;refine k_s (by exact A5 rfl gg rfl (fun w=>YJ (hlt8 b (List.mem_of_getElem? hb)) w)) ?_;refine k_s (by exact AN rfl gg rfl rfl (fun w=>UF hlt8 hlt hb _ _ w)) ?_;iterate 3 refine k_g ?_
   refine FG ?_;iterate 2 refine k_g ?_
   refine⟨⟨i+1,by omega⟩,by show 8-(i+1)<8-i;omega,?_⟩;exact Al (fun i=>i==1||i==2||i==3||i==6||i==17||i==18||i==19) []
 ·exact Al (fun i=>i==1||i==2||i==3||i==6||i==17||i==18||i==19) []
theorem aO{c:List Value}(hok:t.ok)(hx:DN w S t c):CBy 118 #[.agg c.toArray] w (.tuple #[.int .i64 (tnN t).1,.int .i64 (tnN t).2]):=by
 obtain⟨x0,x1,x2,rfl⟩:=FB (CM hx);unfold tnN;cases h:CN t 8 with
 |none=>exact aP w hok hx h
 |some l=>
  by_cases hs:beN l<4611686018427387904
  ·simp only[decide_eq_true hs,cond_true];exact aN w hok hx h hs
  ·simp only[decide_eq_false hs,cond_false];exact aQ w hok hx h hs
def z32:List Nat:=List.replicate 32 0
theorem G0:z32.length=32:=rfl
theorem Zg: ∀x∈z32,x<256:=fun x hx=>by rw[(List.mem_replicate.1 hx).2];decide
def tbN(t:Tr):List Nat×Int:=match CN t 32 with
 |none=>(z32,2)
 |some l=>(l,0)
theorem SX(t:Tr):(tbN t).1.length=32:=by
 unfold tbN;cases h:CN t 32 with
 |none=>rfl
 |some l=>exact Lh h
theorem SU(hok:t.ok): ∀x∈(tbN t).1,x<256:=by
 unfold tbN;cases h:CN t 32 with
 |none=>exact Zg
 |some l=>exact Lg hok h
theorem aU(hok:t.ok)(hx:DN w S t [x0,x1,x2])(h:CN t 32=none):CBy 119 #[.agg #[x0,x1,x2]] w (.tuple #[.agg ((z32).map b8).toArray,.int .i64 2]):=by
 go_enter func119,ntmps119
 refine AO ?_;iterate 3 refine k_g ?_
 refine k_s (by exact K9 (l:=z32.map b8) rfl rfl gg zeroValue46 rfl) ?_;iterate 5 refine k_g ?_
 refine k_s (by exact Ah rfl gg rfl (eo func130) (fun w' hb=>SJ (sz:=32) w' hok (Dk hb hx) (by decide) h)) ?_;iterate 10 refine k_g ?_
 refine k_s (by exact A0 (p:=true) rfl gg rfl rfl (by decide)) ?_;iterate 4 refine k_g ?_
 refine k_s (by exact Ar (cells:=(z32.map b8).toArray) rfl gg rfl (by kernel_rfl)) ?_;refine k_g ?_;refine k_s (by exact EA (l':=(z32).map b8) rfl gg rfl rfl rfl sizeOf46 (by simp[Value.cells,G0]) (by simp[G0]) (by show((z32).map b8).toArray.toList.all _=true;exact DG _) (by simp[Value.cells,G0])) ?_;iterate 2 refine k_g ?_
 refine AG ?_;refine AD (Av results119 (IT (vs:=(z32).map b8) rfl rfl underlying46 rfl sizeOf46 (List.take_of_length_le (by simp[G0])) (by simp[G0])) (AE rfl)) ?_;intro ρ w' hr;exact⟨rfl,hr.1⟩
theorem aR(hok:t.ok)(hx:DN w S t [x0,x1,x2]){l:List Nat}(h:CN t 32=some l):CBy 119 #[.agg #[x0,x1,x2]] w (.tuple #[.agg ((l).map b8).toArray,.int .i64 0]):=by
 have hlt8:=Lg hok h;have hll:=Lh h
 go_enter func119,ntmps119
 refine AO ?_;iterate 3 refine k_g ?_
 refine k_s (by exact K9 (l:=z32.map b8) rfl rfl gg zeroValue46 rfl) ?_;iterate 5 refine k_g ?_
 refine k_s (by exact DC [] rfl rfl gg rfl (eo func130) (n:=32) (size:=1) (ty:=5) (l:=l.map b8) (y:= .int .i64 0) (by simp[hll]) (fun ρ S w' hb hR=>SI (sz:=32) w' hok (Dk hb hx) (by decide) h)) ?_;iterate 10 refine k_g ?_
 refine k_s (by exact A0 (p:=false) rfl gg rfl rfl (by decide)) ?_;iterate 6 refine k_g ?_
 refine k_s (by exact JK rfl gg rfl underlying46 (BI rfl) (by decide)) ?_;refine k_s (by exact NO (vs:=l.map b8) rfl gg rfl underlying46 rfl sizeOf46 (BI rfl) (List.take_of_length_le (by simp[hll])) (by simp[hll]) (by decide)) ?_;refine k_s (by exact EA (l':=(l).map b8) rfl gg rfl rfl rfl sizeOf46 (by simp[Value.cells,hll]) (by simp[G0]) (by show((l).map b8).toArray.toList.all _=true;exact DG _) (by simp[Value.cells,G0])) ?_;iterate 2 refine k_g ?_
 refine AG ?_;refine AD (Av results119 (IT (vs:=(l).map b8) rfl rfl underlying46 rfl sizeOf46 (List.take_of_length_le (by simp[hll])) (by simp[hll])) (AE rfl)) ?_;intro ρ w' hr;exact⟨rfl,hr.1⟩
theorem aS{c:List Value}(hok:t.ok)(hx:DN w S t c):CBy 119 #[.agg c.toArray] w (.tuple #[.agg ((tbN t).1.map b8).toArray,.int .i64 (tbN t).2]):=by
 obtain⟨x0,x1,x2,rfl⟩:=FB (CM hx);unfold tbN;cases h:CN t 32 with
 |none=>exact aU w hok hx h
 |some l=>exact aR w hok hx h
def Lb:Tr→Bool
 | .mk tg b ks=>decide (tg=12) && (Ag (.mk tg b ks) 1 && decide (b.length≤64))
def B6:Tr→List Nat
 | .mk _ b _=>b
def twN(t:Tr):List Nat×Int:=bif Lb t then(B6 t,0)else([],2)
theorem aL(hok:(Tr.mk tg b ks).ok)(hx:DN w S (.mk tg b ks) [.int .i64 tg,bv,kv]):CBy 66 #[.agg #[.int .i64 tg,bv,kv]] w (.tuple #[.string (AI (twN (.mk tg b ks)).1),.int .i64 (twN (.mk tg b ks)).2]):=by
 have e12:twN (.mk tg b ks)=bif (decide (tg=12) && (Ag (.mk tg b ks) 1 && decide (b.length≤64)))then(b,0)else([],2):=rfl;rw[e12]
 have hv:AJ w bv b.length 1 (b.map b8) S:=by
  simp only[DN]at hx;obtain⟨bv',kv',cs,e,h2,_⟩:=hx;simp only[List.cons.injEq,and_true]at e;rw[e.2.1];exact h2
 obtain⟨q1,h_q1⟩: ∃p,decide (tg=12)=p:=⟨_,rfl⟩
 obtain⟨q2,h_q2⟩: ∃p,Ag (.mk tg b ks) 1=p:=⟨_,rfl⟩
 obtain⟨q3,h_q3⟩: ∃p,decide (b.length≤64)=p:=⟨_,rfl⟩
 have h_q1':decide (tg≠12)= !q1:=by rw[←h_q1];exact decide_not
 have h_q3':decide ((b.length:Int)>((64:Nat):Int))= !q3:=by rw[←h_q3,←decide_not];exact decide_eq_decide.2 (by omega)
 rw[h_q1,h_q2,h_q3]
 go_enter func66,ntmps66
 refine AO ?_;cases q1<;>cases q2<;>cases q3<;>
 (
  iterate 11 refine k_g ?_
  refine k_s (by exact A0 rfl gg rfl rfl h_q1') ?_;iterate 2 refine k_g ?_
  refine P6 ?_;iterate 5 refine k_g ?_
  refine Eh ?_;refine k_s (by first|exact Ev.skip (fun _=>rfl)|exact Bf rfl (fun _=>rfl) rfl rfl h_q3') ?_;iterate 2 refine k_g ?_
  first
  |(
   iterate 6 refine k_g ?_
   exact AG (AD (Av results66 (AE rfl) (AE rfl)) fun _ _ hr=>⟨rfl,hr.1⟩)
   )
  |(
   iterate 6 refine k_g ?_
   refine k_s (by exact ER (bs:=b) rfl gg rfl underlying26 underlying5 underlying9 (AW hv)) ?_;iterate 3 refine k_g ?_
   exact AG (AD (Av results66 (AE rfl) (AE rfl)) fun _ _ hr=>⟨rfl,hr.1⟩)
   )
 )
theorem aM{c:List Value}(hok:t.ok)(hx:DN w S t c):CBy 66 #[.agg c.toArray] w (.tuple #[.string (AI (twN t).1),.int .i64 (twN t).2]):=by
 cases t with
 |mk tg b ks=>
  have hx':=hx;simp only[DN]at hx';obtain⟨bv,kv,cs,rfl,_⟩:=hx';exact aL w hok hx
def ML:Tr→Bool
 | .mk tg b ks=>decide (tg≠2)||(!(Ag (.mk tg b ks) 1)||decide (b.headD 0≥128))
theorem Z6(tg:Int)(b:List Nat)(ks:List Tr)(sz:Nat):CN (.mk tg b ks) sz=bif ML (.mk tg b ks)then none else bif decide ((AY b).length>sz)then none else some (List.replicate (sz-(AY b).length) 0++AY b):=by
 simp only[CN,ML];cases decide (tg≠2)<;>cases Ag (.mk tg b ks) 1<;>cases decide (b.headD 0≥128)<;>rfl
def Sb:Tr→Int
 | .mk t _ _=>t
theorem nu{w0:World}{o:Oper}{s:VS}{ty:TypeId}{id off:Nat}{l:List SV}{y:SV}{v:Value}(ho:o.op= .load ty x)(hgd:AR ops o s)(hx:AC s x= .p id off)(hm:s.mem id=some (.cells l bt))
 (hu:P.underlying ty=some d)(hd:Bc d=false)(hy:l[off]? =some y)(hv: ∀ρ S w',RelOn w0.heap.size ρ S w' (restr (id::rd) s.mem)→y.c ρ=v):Ev P ops w0 o s ⟨.v v,[],[],[],id::rd⟩:=
 Ev.run _ _ hgd fun ρ S w hb hR=>by
  have h1:=AH s ρ x;rw[hx]at h1;have hc:=ET (A6 hR hm (by simp)).2 hy;simp[execOp,ho,h1,SV.c,Instr.loadAt,Instr.sureAddr,loadVar,Bu hu,hd,hc,hv ρ S w hR]
theorem qT{w:World}{base:Nat}{S:Nat→Nat→Prop}{m:Mem}(id:Nat)(hok:t.ok)(hR:RelOn base ρ S w (restr rd m))(hid:id∈rd)(hm:m id=some (.dat (AQ t))):
 CBy 66 (SV.cs ρ [.d id]).toArray w (.tuple #[.string (AI (twN t).1),.int .i64 (twN t).2]):=by
 obtain⟨c,h1,h2⟩:=CY hR hid hm;simp only[SV.cs,SV.c,h1];exact aM w hok h2
theorem aH(l:List Nat):AY (BP l)=AY l:=by
 have h0:AY (AY l)=AY l:=by
  induction l with
  |nil=>rfl
  |cons b r ih=>
   by_cases hb:b=0
   ·have e:AY (b::r)=AY r:=by simp[AY,hb]
    rw[e];exact ih
   ·have e:AY (b::r)=b::r:=by simp[AY,hb]
    rw[e,e]
 have h1:AY (0::AY l)=AY (AY l):=by simp[AY]
 unfold BP;cases decide ((AY l).length=0)||decide ((AY l).headD 0≥128)<;>simp only[cond_true,cond_false]
 ·exact h0
 ·rw[h1,h0]
theorem aJ{l:List Nat}(h:(AY l).length≠0):(AY l).headD 0≠0:=by
 unfold AY at h⊢
 induction l with
 |nil=>exact absurd rfl h
 |cons b r ih=>
  by_cases hb:b=0
  ·subst hb;exact ih h
  ·have:List.dropWhile (fun x=>x==0) (b::r)=b::r:=by simp[hb]
   rw[this];exact hb
theorem UN{l:List Nat}:EX (BP l)=true∧(BP l).headD 0<128:=by
 unfold BP;cases h1:decide ((AY l).length=0)with
 |true=>
  have:AY l=[]:=List.eq_nil_of_length_eq_zero (of_decide_eq_true h1);rw[this];exact⟨rfl,by decide⟩
 |false=>
  have h0:=aJ (of_decide_eq_false h1);have h1':=of_decide_eq_false h1;obtain⟨b,r,hl⟩: ∃b r,AY l=b::r:=LH (by omega);cases h2:decide ((AY l).headD 0≥128)with
  |true=>
   simp only[Bool.or_true,cond_true];rw[hl]at h0 h2⊢;have h2':b≥128:=of_decide_eq_true h2;refine⟨?_,by show 0<128;decide⟩;simp only[EX];rw[decide_eq_false (p:=b<128) (by omega),decide_eq_false (p:=(0:Nat)=255) (by decide)];simp
  |false=>
   simp only[Bool.or_self,cond_false];rw[hl]at h0 h2⊢;have h2': ¬b≥128:=of_decide_eq_false h2;have h0':b≠0:=h0;refine⟨?_,by show b<128;omega⟩;cases r with
   |nil=>rfl
   |cons c r=>simp only[EX];rw[decide_eq_false (p:=b=0) h0',decide_eq_false (p:=b=255) (by omega)];rfl
def tN(l:List Nat):Tr:= .mk 2 (BP l) []
theorem SS{l:List Nat}(h: ∀x∈l,x<256): ∀x∈BP l,x<256:=by
 unfold BP;cases decide ((AY l).length=0)||decide ((AY l).headD 0≥128)<;>simp only[cond_true,cond_false]
 ·exact OW h
 ·intro x hx
  rcases List.mem_cons.1 hx with rfl|hx
  ·decide
  ·exact OW h x hx
theorem Sg{l:List Nat}(h: ∀x∈l,x<256)(hl:l.length≤64):(tN l).ok:=by
 simp only[tN,Tr.ok,oks,List.length_nil];exact⟨SS h,by have:=Ic l;omega,by omega,True.intro⟩
theorem Z4{l:List Nat}(n:Nat)(h:l.length=n):CN (tN l) n=some l:=by
 have hw:=UN (l:=l)
 have hr:Ag (.mk 2 (BP l) []) 1=true:=by
  have:Ag (.mk 2 (BP l) []) 1=(decide (([]:List Tr).length=0) && EX (BP l)):=rfl;rw[this,hw.1];rfl
 have ht:=G4 l;unfold tN;rw[Z6]
 have hb:ML (.mk 2 (BP l) [])=false:=by
  simp only[ML,hr,Bool.not_true,Bool.false_or,Bool.or_eq_false_iff];exact⟨by decide,decide_eq_false (by omega)⟩
 rw[hb,aH,decide_eq_false (by omega)];simp only[cond_false,Option.some.injEq]
 have: ∀l:List Nat,List.replicate (l.length-(AY l).length) 0++AY l=l:=by
  intro l
  induction l with
  |nil=>rfl
  |cons b r ih=>
   by_cases hb:b=0
   ·have e:AY (b::r)=AY r:=by simp[AY,hb]
    have hle:=G4 r;rw[e,List.length_cons,show r.length+1-(AY r).length=(r.length-(AY r).length)+1 by omega,List.replicate_succ,List.cons_append,ih,hb]
   ·have e:AY (b::r)=b::r:=by simp[AY,hb]
    rw[e];simp
 rw[←h];exact this l
theorem aa(h:bs.length=32):tbN (tN bs)=(bs,0):=by
 simp only[tbN,Z4 32 h]
theorem Zd(hb32:bs.length=32)(w:World):CDy 90 #[.agg (bs.map b8).toArray] w (AQ (tN bs)):=by
 go_enter func90,ntmps90
 refine AO ?_;iterate 2 refine k_g ?_
 refine k_s (by exact XU (l:=bs.map b8) rfl rfl gg rfl (by simp[Value.cells])) ?_;iterate 4 refine k_g ?_
 refine k_s (by exact Qk rfl gg rfl underlying46 sizeOf5) ?_;refine k_s (by exact BG (D:=AQ (tN bs)) [1] rfl rfl gg rfl (eo func115) (fun ρ S w' hb hR=>by obtain⟨S0,s0⟩:=da (id:=1) (off:=0) (len:=32) (cap:=32) (size:=1) (l:=bs.map b8) rfl (List.take_of_length_le (by simp[hb32])) (by simp[hb32]) (Nat.le_refl _) ρ S w' hb hR;exact UM (bs:=bs) (S:=S0) w' (by rw[hb32];exact s0) (by omega))) ?_;refine k_s (by exact Az (vl:=[.fn (AU 0) (.d 4),.fn (AU 1) (.d 4),.fn (AU 2) (.d 4)]) [2,4] rfl gg rfl rfl rfl sizeOf108 rfl (fun ρ S w' _ hR=>by obtain⟨c,h1,h2⟩:=CY (id:=4) hR (by simp) rfl;have hf:=fn3 h1 (CM h2);exact⟨hf.1,hf.2▸FR h2⟩) rfl (by simp)) ?_;refine k_g ?_;refine AG ?_;refine AD (AM results90 (BN rfl rfl underlying108 rfl sizeOf108 rfl)) ?_;intro ρ w' hr;exact⟨_,rfl,GH 4 hr rfl,hr.1⟩
end Go.Proofs.YtefpajmkaaielaaGreatDoor
