import Derived.Test.YtafbhakmkbehiaaGreatDoorZ21
open Go.Proofs.Tryz
set_option maxHeartbeats 4000000
set_option maxRecDepth 100000
namespace Go.Proofs.YtafbhakmkbehiaaGreatDoor
open Go.RowKit Go.Vx
variable(w:World){ops:Array Oper}{tg:Int}{b bs rd:List Nat}{ks:List Tr}{i sz:Nat}{ρ:Nat→Nm}{S:Nat→Prop}{x:Operand}{P:Program}{t:Tr}{d:TypeDesc}{bt ty:TypeId}{bv kv x0 x1 x2:Value}
open Go.Toll (Gw)
def BW:Tr→Nat→Option (List Nat)
 | .mk tg b ks,sz=>bif decide (tg≠2)then none else bif !(Ak (.mk tg b ks) 1)then none else bif decide (b.headD 0≥128)then none else bif decide ((AY b).length>sz)then none else some (List.replicate (sz-(AY b).length) 0++AY b)
theorem Q4{l:List Nat}(h:BW (.mk tg b ks) sz=some l):decide (tg≠2)=false∧Ak (.mk tg b ks) 1=true∧decide (b.headD 0≥128)=false∧decide ((AY b).length>sz)=false∧l=List.replicate (sz-(AY b).length) 0++AY b:=by
 simp only[BW]at h;cases h1:decide (tg≠2)<;>rw[h1]at h<;>simp only[cond_true,cond_false]at h
 ·cases h2:Ak (.mk tg b ks) 1<;>rw[h2]at h<;>simp only[Bool.not_true,Bool.not_false,cond_true,cond_false]at h
  ·cases h
  ·cases h3:decide (b.headD 0≥128)<;>rw[h3]at h<;>simp only[cond_true,cond_false]at h
   ·cases h4:decide ((AY b).length>sz)<;>rw[h4]at h<;>simp only[cond_true,cond_false]at h
    ·exact⟨rfl,rfl,rfl,rfl,(Option.some.inj h).symm⟩
    ·cases h
   ·cases h
 ·cases h
theorem dd(h:BW (.mk tg b ks) sz=none):(decide (tg≠2)||(!(Ak (.mk tg b ks) 1)||(decide (b.headD 0≥128)||decide ((AY b).length>sz))))=true:=by
 simp only[BW]at h;cases h1:decide (tg≠2)<;>rw[h1]at h<;>simp only[cond_true,cond_false]at h
 ·cases h2:Ak (.mk tg b ks) 1<;>rw[h2]at h<;>simp only[Bool.not_true,Bool.not_false,cond_true,cond_false]at h
  ·rfl
  ·cases h3:decide (b.headD 0≥128)<;>rw[h3]at h<;>simp only[cond_true,cond_false]at h
   ·cases h4:decide ((AY b).length>sz)<;>rw[h4]at h<;>simp only[cond_true,cond_false]at h
    ·cases h
    ·rfl
   ·rfl
 ·rfl
theorem Q6(h: ∀x∈bs,x<256): ∀x∈AY bs,x<256:=fun x hx=>h x ((List.dropWhile_suffix _).subset hx)
theorem Ik{l:List Nat}(h:BW t sz=some l):l.length=sz:=by
 cases t with
 |mk tg b ks=>
  obtain⟨_,_,_,h4,rfl⟩:=Q4 h;have:=of_decide_eq_false h4;rw[List.length_append,List.length_replicate];omega
theorem Ij(hok:t.ok){l:List Nat}(h:BW t sz=some l): ∀x∈l,x<256:=by
 cases t with
 |mk tg b ks=>
  obtain⟨_,_,_,h4,rfl⟩:=Q4 h;simp only[Tr.ok]at hok;intro x hx;rcases List.mem_append.1 hx with hx|hx
  ·rw[(List.mem_replicate.1 hx).2];decide
  ·exact Q6 hok.1 x hx
theorem I0(h1:decide (tg≠2)=false)(h2:Ak (.mk tg b ks) 1=true):Ez b=true:=by
 have e:tg=2:=by have:=of_decide_eq_false h1;omega
 subst e;have h:Ak (.mk 2 b ks) 1=(decide (ks.length=0) && Ez b):=rfl;rw[h,Bool.and_eq_true]at h2;exact h2.2
theorem Jv(h:Ez b=true):0<b.length:=by
 cases b with
 |nil=>cases h
 |cons x r=>simp
theorem dF(k:Nat)(l:List Nat):List.replicate k (Value.int .u8 0)++l.map b8=(List.replicate k 0++l).map b8:=by
 rw[List.map_append,List.map_replicate];rfl
theorem db(hok:(Tr.mk tg b ks).ok)(hx:DN w S (.mk tg b ks) [.int .i64 tg,bv,kv])(hsz:sz≤64)(h:BW (.mk tg b ks) sz=none):Calls prog 53 #[.agg #[.int .i64 tg,bv,kv],.int .i64 (sz:Nat)] w fun e w'=>e= .returned (.tuple #[.slice none 0 0,.int .i64 2])∧Bw w w':=by
 have hbm:b.length≤maxLen:=by simp only[Tr.ok]at hok;simp only[maxLen];omega
 have hv:AO w bv b.length 1 (b.map b8) S:=by
  simp only[DN]at hx;obtain⟨bv',kv',cs,e,h2,_⟩:=hx;simp only[List.cons.injEq,and_true]at e;rw[e.2.1];exact h2
 have htv:=N2 hv;have htl:=Hi b;have hle:decide ((AY b).length>sz)=false→(AY b).length≤sz:=fun g=>by have:=of_decide_eq_false g;omega
 have hpos:decide (tg≠2)=false→Ak (.mk tg b ks) 1=true→0<b.length:=fun g1 g2=>Jv (I0 g1 g2)
 have hq:=dd h;obtain⟨q1,h_q1⟩: ∃p,decide (tg≠2)=p:=⟨_,rfl⟩
 obtain⟨q2,h_q2⟩: ∃p,Ak (.mk tg b ks) 1=p:=⟨_,rfl⟩
 obtain⟨q3,h_q3⟩: ∃p,decide (b.headD 0≥128)=p:=⟨_,rfl⟩
 obtain⟨q4,h_q4⟩: ∃p,decide ((AY b).length>sz)=p:=⟨_,rfl⟩
 have h_q3':=(Ej (b.headD 0) 128).trans h_q3;have h_q4':=(Cr (AY b).length sz).trans h_q4;rw[h_q1,h_q2,h_q3,h_q4]at hq
 go_enter func53,ntmps53
 refine A4 ?_;cases q1<;>cases q2<;>cases q3<;>cases q4<;>
 (
  iterate 9 refine k_k ?_
  refine Kv ?_;refine DJ ?_;refine ME ?_;refine TD ?_;refine TB ?_;refine Jy ?_
  refine PZ ?_;refine PY ?_;refine ZU ?_;refine k_s (by first|exact Ev.skip (fun _=>rfl)|exact Cb rfl (fun _=>rfl) rfl underlying5 rfl (AW hv) (P3 (hpos h_q1 h_q2))) ?_;refine JR ?_;iterate 2 refine k_k ?_
  first
  |(
   iterate 6 refine k_k ?_
   refine AG ?_;refine AD (Av results53 (AF rfl) (AF rfl)) ?_;intro ρ w' hr
   (first|exact⟨rfl,hr.1⟩|(cases hq))
   )
  |(
   iterate 4 refine k_k ?_
   refine Kw ?_;refine HQ ?_;refine k_s (by exact Ad rfl gg rfl (eo func98) (fun w' hb=>Q5 w' (A5 hv hb) hbm)) ?_;iterate 6 refine k_k ?_
   refine M6 ?_;refine k_k ?_;refine k_s (by exact BV rfl gg rfl rfl h_q4') ?_;refine k_k ?_;first
   |(
    iterate 6 refine k_k ?_
    refine AG ?_;refine AD (Av results53 (AF rfl) (AF rfl)) ?_;intro ρ w' hr
    (first|exact⟨rfl,hr.1⟩|(cases hq))
    )
   |(
    iterate 6 refine k_k ?_
    refine M6 ?_;refine Ta ?_;refine Ps ?_;refine k_k ?_;refine Zi ?_;iterate 3 refine k_k ?_
    refine AG ?_;refine AD (Av results53 (AF rfl) (AF rfl)) ?_;intro ρ w' hr
    (first|exact⟨rfl,hr.1⟩|(cases hq))
    )
   )
 )
theorem da(hok:(Tr.mk tg b ks).ok)(hx:DN w S (.mk tg b ks) [.int .i64 tg,bv,kv])(hsz:sz≤64){l:List Nat}(h:BW (.mk tg b ks) sz=some l):Calls prog 53 #[.agg #[.int .i64 tg,bv,kv],.int .i64 (sz:Nat)] w fun e w'=> ∃v,e= .returned (.tuple #[v,.int .i64 0])∧BN w w' v sz 1 5 (l.map b8)∧Bw w w':=by
 have hbm:b.length≤maxLen:=by simp only[Tr.ok]at hok;simp only[maxLen];omega
 have hv:AO w bv b.length 1 (b.map b8) S:=by
  simp only[DN]at hx;obtain⟨bv',kv',cs,e,h2,_⟩:=hx;simp only[List.cons.injEq,and_true]at e;rw[e.2.1];exact h2
 have htv:=N2 hv;have htl:=Hi b;have hle:decide ((AY b).length>sz)=false→(AY b).length≤sz:=fun g=>by have:=of_decide_eq_false g;omega
 have hpos:decide (tg≠2)=false→Ak (.mk tg b ks) 1=true→0<b.length:=fun g1 g2=>Jv (I0 g1 g2)
 obtain⟨h_q1,h_q2,h_q3,h_q4,hl⟩:=Q4 h;have h_q3':=(Ej (b.headD 0) 128).trans h_q3;have h_q4':=(Cr (AY b).length sz).trans h_q4
 go_enter func53,ntmps53
 refine FW ?_
 refine Kv ?_;refine DJ ?_;refine ME ?_;refine TD ?_;refine TB ?_;refine Jy ?_
 refine PZ ?_;refine PY ?_;refine ZU ?_;refine k_s (by first|exact Ev.skip (fun _=>rfl)|exact Cb rfl (fun _=>rfl) rfl underlying5 rfl (AW hv) (P3 (hpos h_q1 h_q2))) ?_;refine JR ?_;iterate 6 refine k_k ?_
 refine Kw ?_;refine HQ ?_;refine k_s (by exact Ad rfl gg rfl (eo func98) (fun w' hb=>Q5 w' (A5 hv hb) hbm)) ?_;iterate 6 refine k_k ?_
 refine M6 ?_;refine k_k ?_;refine k_s (by exact BV rfl gg rfl rfl h_q4') ?_;iterate 7 refine k_k ?_
 refine M6 ?_;refine Ta ?_;refine Ps ?_;refine k_k ?_;refine Zi ?_;iterate 3 refine k_k ?_
 refine AG ?_;refine AD (Av results53 (AF rfl) (AF rfl)) ?_;intro ρ w' hr;refine⟨(ρ 35).val,rfl,?_,hr.1⟩;have hh:=B8 (id:=35) hr rfl;rw[dF,Nat.sub_add_cancel (hle h_q4)]at hh;rw[hl];exact hh
theorem VD{c:List Value}(hok:t.ok)(hx:DN w S t c)(hsz:sz≤64)(h:BW t sz=none):Calls prog 53 #[.agg c.toArray,.int .i64 (sz:Nat)] w fun e w'=>e= .returned (.tuple #[.slice none 0 0,.int .i64 2])∧Bw w w':=by
 cases t with
 |mk tg b ks=>
  have hx':=hx;simp only[DN]at hx';obtain⟨bv,kv,cs,rfl,_⟩:=hx';exact db w hok hx hsz h
theorem VC{c:List Value}(hok:t.ok)(hx:DN w S t c)(hsz:sz≤64){l:List Nat}(h:BW t sz=some l):Calls prog 53 #[.agg c.toArray,.int .i64 (sz:Nat)] w fun e w'=> ∃v,e= .returned (.tuple #[v,.int .i64 0])∧BN w w' v sz 1 5 (l.map b8)∧Bw w w':=by
 cases t with
 |mk tg b ks=>
  have hx':=hx;simp only[DN]at hx';obtain⟨bv,kv,cs,rfl,_⟩:=hx';exact da w hok hx hsz h
def beN(l:List Nat):Nat:=l.foldl (fun a b=>a*256+b) 0
def xvD(l:List Nat)(i:Nat):Int:=IntKind.i64.wrap ((beN (l.take i):Nat):Int)
theorem UU{l:List Nat}{b:Nat}(h:l[i]? =some b):beN (l.take (i+1))=beN (l.take i)*256+b:=by
 rw[Im h];unfold beN;rw[List.foldl_append];rfl
theorem aK: ∀(l:List Nat) (a k:Nat),(∀x∈l,x<256)→a<256^k→l.foldl (fun a b=>a*256+b) a<256^(k+l.length)
 | [],a,k,_,h=>h
 |b::r,a,k,hl,h=>by
  have hb:=hl b (by simp);have:a*256+b<256^(k+1):=by rw[Nat.pow_succ];omega
  have:=aK r (a*256+b) (k+1) (fun x hx=>hl x (by simp[hx])) this;rw[List.foldl_cons,List.length_cons,show k+(r.length+1)=k+1+r.length by omega];exact this
theorem UV{l:List Nat}(h: ∀x∈l,x<256):beN l<256^l.length:=by
 have:=aK l 0 0 h (by decide)
 rwa [Nat.zero_add]at this
theorem VV{l:List Nat}(h: ∀x∈l,x<256)(hi:i≤7):beN (l.take i)<72057594037927936:=by
 have h1:=UV (l:=l.take i) (fun x hx=>h x (List.mem_of_mem_take hx));have h2:256^(l.take i).length≤256^7:=Nat.pow_le_pow_right (by decide) (by rw[List.length_take];omega);have h3:256^7=72057594037927936:=by decide
 omega
theorem Vr{l:List Nat}(h: ∀x∈l,x<256)(hi:i<8)(p q:Operand)(w:World):(do eqGuard .shl 3 p q (.int .i64 (xvD l i)) (.int .u64 8);binOp .shl 3 (.int .i64 (xvD l i)) (.int .u64 8):Sem Value).run prog w= .ok (.int .i64 (IntKind.i64.wrap ((beN (l.take i)*256:Nat):Int))) w:=by
 have hv:=VV h (show i≤7 by omega);have e:xvD l i=((beN (l.take i):Nat):Int):=Ah (by omega) (by omega);rw[e];generalize beN (l.take i)=v at hv
 go_simp
theorem nI(v b:Nat)(hv:v<72057594037927936)(hb:b<256):bits .or .i64 (IntKind.i64.wrap ((v*256:Nat):Int)) (b:Int)=IntKind.i64.wrap ((v*256+b:Nat):Int):=by
 have e: ∀n:Int,BitVec.ofInt 64 (IntKind.i64.wrap n)=BitVec.ofInt 64 n:=by
  intro n;apply BitVec.eq_of_toInt_eq;rw[BitVec.toInt_ofInt,BitVec.toInt_ofInt,IntKind.wrap_i64];simp only[Int.bmod_def];omega
 have h:(BitVec.ofInt 64 ((v*256:Nat):Int)|||BitVec.ofInt 64 (b:Int)).toNat=v*256+b:=by
  rw[BitVec.toNat_or,BitVec.toNat_ofInt,BitVec.toNat_ofInt];have h1:(((v*256:Nat):Int) %((2^64:Nat):Int)).toNat=v*256:=by omega
  have h2:((b:Int) %((2^64:Nat):Int)).toNat=b:=by omega
  rw[h1,h2];have:=Nat.two_pow_add_eq_or_of_lt (i:=8) (b:=b) (by omega) v;rw[Nat.mul_comm v 256];exact this.symm
 show IntKind.i64.wrap ((BitVec.ofInt 64 (IntKind.i64.wrap ((v*256:Nat):Int))|||BitVec.ofInt 64 (b:Int)).toNat:Int)=_;rw[e,h]
theorem X3{l:List Nat}{b:Nat}(h: ∀x∈l,x<256)(hi:i<8)(hb:l[i]? =some b)(p q:Operand)(w:World):(do eqGuard .or 3 p q (.int .i64 (IntKind.i64.wrap ((beN (l.take i)*256:Nat):Int))) (.int .i64 (b:Nat));binOp .or 3 (.int .i64 (IntKind.i64.wrap ((beN (l.take i)*256:Nat):Int))) (.int .i64 (b:Nat)):Sem Value).run prog w= .ok (.int .i64 (xvD l (i+1))) w:=by
 have hv:=VV h (show i≤7 by omega);have hb8:=h b (List.mem_of_getElem? hb);unfold xvD;rw[UU hb];generalize beN (l.take i)=v at hv
 go_simp
 exact nI v b hv hb8
theorem T8{b:Nat}(h:b<256)(w:World):(convert 5 3 (.int .u8 (b:Nat))).run prog w= .ok (.int .i64 (b:Nat)) w:=by
 have e:IntKind.i64.wrap (b:Int)=(b:Int):=Ah (by omega) (by omega)
 go_simp
def tnN(t:Tr):Int×Int:=match BW t 8 with
 |none=>(0,2)
 |some l=>bif decide (beN l<4611686018427387904)then((beN l:Nat),0)else(0,2)
theorem xv8{l:List Nat}(h: ∀x∈l,x<256)(hl:l.length=8):xvD l 8=if beN l<9223372036854775808 then((beN l:Nat):Int)else(beN l:Nat)-18446744073709551616:=by
 have h1:=UV h;rw[hl]at h1;have h3:256^8=18446744073709551616:=by decide
 unfold xvD;rw[List.take_of_length_le (by omega),IntKind.wrap_i64];split<;>omega
theorem Uu{l:List Nat}(h: ∀x∈l,x<256)(hl:l.length=8):decide (xvD l 8<0)=decide (beN l≥9223372036854775808):=by
 rw[xv8 h hl];have h1:=UV h;rw[hl]at h1;have h3:256^8=18446744073709551616:=by decide
 split
 ·rw[decide_eq_false (by omega),decide_eq_false (by omega)]
 ·rw[decide_eq_true (by omega),decide_eq_true (by omega)]
theorem Uv{l:List Nat}(h: ∀x∈l,x<256)(hl:l.length=8)(hn:decide (beN l≥9223372036854775808)=false):decide ((4611686018427387904:Int)≤xvD l 8)=decide (beN l≥4611686018427387904):=by
 rw[xv8 h hl];have:=of_decide_eq_false hn;rw[if_pos (by omega)];exact decide_eq_decide.2 (by omega)
theorem dy(hok:t.ok)(hx:DN w S t [x0,x1,x2])(h:BW t 8=none):Calls prog 110 #[.agg #[x0,x1,x2]] w fun e w'=>e= .returned (.tuple #[.int .i64 0,.int .i64 2])∧Bw w w':=by
 go_enter func110,ntmps110
 refine C6 ?_
 refine FY ?_;refine k_s (by exact Ad rfl gg rfl (eo func53) (fun w' hb=>VD (sz:=8) w' hok (ED hb hx) (by decide) h)) ?_;iterate 10 refine k_k ?_
 refine k_s (by exact BB (p:=true) rfl gg rfl rfl (by decide)) ?_;iterate 8 refine k_k ?_
 exact AG (AD (Av results110 (AF rfl) (AF rfl)) fun _ _ hr=>⟨rfl,hr.1⟩)
theorem dv(hok:t.ok)(hx:DN w S t [x0,x1,x2]){l:List Nat}(h:BW t 8=some l)(hs:beN l<4611686018427387904):Calls prog 110 #[.agg #[x0,x1,x2]] w fun e w'=>e= .returned (.tuple #[.int .i64 ((beN l:Nat):Int),.int .i64 0])∧Bw w w':=by
 have hlt8:=Ij hok h;have hll:=Ik h
 go_enter func110,ntmps110
 refine C6 ?_
 refine FY ?_;refine Zn ?_;iterate 10 refine k_k ?_
 refine k_s (by exact BB (p:=false) rfl gg rfl rfl (by decide)) ?_;iterate 11 refine k_k ?_
 refine El ?_;iterate 3 refine k_k ?_
 refine Bo (α:={x:Nat // x≤8}) (fun(x:{x:Nat // x≤8}) f=>⟨[.v (f 0),.p 1 0,.v (.int .i64 0),.v (.int .i64 0),.v (f 4),.v (f 5),.v (.int .i64 (xvD l x.1)),.v (f 7),.v (f 8),.v (f 9),.v (f 10),.v (f 11),.v (f 12),.v (f 13),.v (f 14),.v (f 15),.v (f 16),.d 11,.v (.int .i64 8),.v (.int .i64 (x.1:Nat)),.v (f 20),.v (f 21),.v (f 22),.v (f 23),.v (f 24),.v (f 25),.v (f 26),.v (f 27),.v (f 28),.v (f 29),.v (f 30),.v (f 31),.v (f 32),.v (f 33),.v (f 34),.v (f 35)],AJ [(11,.row 8 1 5 (.exact (l.map b8))),(1,.cells [.v x0,.v x1,.v x2] 61)]⟩) (fun x=>8-x.1) ?_ (⟨0,by decide⟩) ?_
 ·rintro⟨i,hi⟩ f
  obtain⟨q,h_q⟩: ∃q,decide (((i:Nat):Int)<8)=q:=⟨_,rfl⟩
  refine Ch ?_
  refine F6 ?_
  cases q
  ·refine k_k ?_
   have h8:i=8:=by have:=of_decide_eq_false h_q;omega
   subst h8;refine As ?_;refine CN ?_
   refine k_s (by exact BM (p:=false) rfl gg rfl rfl (by rw[Uu hlt8 hll];exact decide_eq_false (by omega))) ?_;refine Cz ?_;refine k_s (by first|exact Ev.skip (fun _=>rfl)|exact B4 (p:=false) rfl (fun _=>rfl) rfl rfl (by rw[Uv hlt8 hll (decide_eq_false (by omega))];exact decide_eq_false (by omega))) ?_;iterate 10 refine k_k ?_
   refine AG ?_;refine AD (Av results110 (AF rfl) (AF rfl)) ?_;intro ρ w' hr;have e8:xvD l 8=((beN l:Nat):Int):=by rw[xv8 hlt8 hll,if_pos (by omega)]
   rw[e8];exact⟨rfl,hr.1⟩
  ·refine k_k ?_
   have hlt:i<8:=by have:=of_decide_eq_true h_q;omega
   obtain⟨b,hb⟩:=EV (l:=l) (i:=i) (by omega);iterate 5 refine k_k ?_
   refine Kp ?_;refine k_s (by exact Cb rfl gg rfl underlying5 rfl (BI rfl) (JH hb)) ?_;iterate 4 refine k_k ?_
   refine k_s (by exact AK rfl gg rfl rfl (fun w=>Vr hlt8 hlt _ _ w)) ?_;refine k_k ?_;refine k_s (by exact B1 rfl gg rfl (fun w=>T8 (hlt8 b (List.mem_of_getElem? hb)) w)) ?_;refine k_s (by exact AK rfl gg rfl rfl (fun w=>X3 hlt8 hlt hb _ _ w)) ?_;iterate 3 refine k_k ?_
   refine ER ?_;iterate 2 refine k_k ?_
   refine⟨⟨i+1,by omega⟩,by show 8-(i+1)<8-i;omega,?_⟩;exact Ar (fun i=>i==1||i==2||i==3||i==6||i==17||i==18||i==19) []
 ·exact Ar (fun i=>i==1||i==2||i==3||i==6||i==17||i==18||i==19) []
theorem d6(hok:t.ok)(hx:DN w S t [x0,x1,x2]){l:List Nat}(h:BW t 8=some l)(hs: ¬beN l<4611686018427387904):Calls prog 110 #[.agg #[x0,x1,x2]] w fun e w'=>e= .returned (.tuple #[.int .i64 0,.int .i64 2])∧Bw w w':=by
 have hlt8:=Ij hok h;have hll:=Ik h;obtain⟨qn,h_n⟩: ∃q,decide (beN l≥9223372036854775808)=q:=⟨_,rfl⟩
 go_enter func110,ntmps110
 refine C6 ?_
 refine FY ?_;refine Zn ?_;iterate 10 refine k_k ?_
 refine k_s (by exact BB (p:=false) rfl gg rfl rfl (by decide)) ?_;iterate 11 refine k_k ?_
 refine El ?_;iterate 3 refine k_k ?_
 refine Bo (α:={x:Nat // x≤8}) (fun(x:{x:Nat // x≤8}) f=>⟨[.v (f 0),.p 1 0,.v (.int .i64 0),.v (.int .i64 0),.v (f 4),.v (f 5),.v (.int .i64 (xvD l x.1)),.v (f 7),.v (f 8),.v (f 9),.v (f 10),.v (f 11),.v (f 12),.v (f 13),.v (f 14),.v (f 15),.v (f 16),.d 11,.v (.int .i64 8),.v (.int .i64 (x.1:Nat)),.v (f 20),.v (f 21),.v (f 22),.v (f 23),.v (f 24),.v (f 25),.v (f 26),.v (f 27),.v (f 28),.v (f 29),.v (f 30),.v (f 31),.v (f 32),.v (f 33),.v (f 34),.v (f 35)],AJ [(11,.row 8 1 5 (.exact (l.map b8))),(1,.cells [.v x0,.v x1,.v x2] 61)]⟩) (fun x=>8-x.1) ?_ (⟨0,by decide⟩) ?_
 ·rintro⟨i,hi⟩ f
  obtain⟨q,h_q⟩: ∃q,decide (((i:Nat):Int)<8)=q:=⟨_,rfl⟩
  refine Ch ?_
  refine F6 ?_
  cases q
  ·refine k_k ?_
   have h8:i=8:=by have:=of_decide_eq_false h_q;omega
   subst h8;cases qn<;>
   (
    refine As ?_;refine CN ?_
    refine k_s (by exact BM rfl gg rfl rfl ((Uu hlt8 hll).trans h_n)) ?_;refine Cz ?_;refine k_s (by first|exact Ev.skip (fun _=>rfl)|exact B4 (p:=true) rfl (fun _=>rfl) rfl rfl (by rw[Uv hlt8 hll h_n];exact decide_eq_true (by omega))) ?_;iterate 8 refine k_k ?_
    exact AG (AD (Av results110 (AF rfl) (AF rfl)) fun _ _ hr=>⟨rfl,hr.1⟩)
   )
  ·refine k_k ?_
   have hlt:i<8:=by have:=of_decide_eq_true h_q;omega
   obtain⟨b,hb⟩:=EV (l:=l) (i:=i) (by omega);iterate 5 refine k_k ?_
   refine Kp ?_;refine k_s (by exact Cb rfl gg rfl underlying5 rfl (BI rfl) (JH hb)) ?_;iterate 4 refine k_k ?_
   refine k_s (by exact AK rfl gg rfl rfl (fun w=>Vr hlt8 hlt _ _ w)) ?_;refine k_k ?_;refine k_s (by exact B1 rfl gg rfl (fun w=>T8 (hlt8 b (List.mem_of_getElem? hb)) w)) ?_;refine k_s (by exact AK rfl gg rfl rfl (fun w=>X3 hlt8 hlt hb _ _ w)) ?_;iterate 3 refine k_k ?_
   refine ER ?_;iterate 2 refine k_k ?_
   refine⟨⟨i+1,by omega⟩,by show 8-(i+1)<8-i;omega,?_⟩;exact Ar (fun i=>i==1||i==2||i==3||i==6||i==17||i==18||i==19) []
 ·exact Ar (fun i=>i==1||i==2||i==3||i==6||i==17||i==18||i==19) []
theorem dw{c:List Value}(hok:t.ok)(hx:DN w S t c):Calls prog 110 #[.agg c.toArray] w fun e w'=>e= .returned (.tuple #[.int .i64 (tnN t).1,.int .i64 (tnN t).2])∧Bw w w':=by
 obtain⟨x0,x1,x2,rfl⟩:=DI (CS hx);unfold tnN;cases h:BW t 8 with
 |none=>exact dy w hok hx h
 |some l=>
  by_cases hs:beN l<4611686018427387904
  ·simp only[decide_eq_true hs,cond_true];exact dv w hok hx h hs
  ·simp only[decide_eq_false hs,cond_false];exact d6 w hok hx h hs
def z32:List Nat:=List.replicate 32 0
theorem Ih:z32.length=32:=rfl
theorem dH: ∀x∈z32,x<256:=fun x hx=>by rw[(List.mem_replicate.1 hx).2];decide
def tbN(t:Tr):List Nat×Int:=match BW t 32 with
 |none=>(z32,2)
 |some l=>(l,0)
theorem VT(t:Tr):(tbN t).1.length=32:=by
 unfold tbN;cases h:BW t 32 with
 |none=>rfl
 |some l=>exact Ik h
theorem VR(hok:t.ok): ∀x∈(tbN t).1,x<256:=by
 unfold tbN;cases h:BW t 32 with
 |none=>exact dH
 |some l=>exact Ij hok h
theorem eB(hok:t.ok)(hx:DN w S t [x0,x1,x2])(h:BW t 32=none):Calls prog 26 #[.agg #[x0,x1,x2]] w fun e w'=>e= .returned (.tuple #[.agg ((z32).map b8).toArray,.int .i64 2])∧Bw w w':=by
 go_enter func26,ntmps26
 refine A4 ?_;iterate 3 refine k_k ?_
 refine k_s (by exact NW (l:=z32.map b8) rfl rfl gg zeroValue64 rfl) ?_;iterate 4 refine k_k ?_
 refine FY ?_;refine k_s (by exact Ad rfl gg rfl (eo func53) (fun w' hb=>VD (sz:=32) w' hok (ED hb hx) (by decide) h)) ?_;iterate 10 refine k_k ?_
 refine k_s (by exact BB (p:=true) rfl gg rfl rfl (by decide)) ?_;iterate 4 refine k_k ?_
 refine k_s (by exact A6 (cells:=(z32.map b8).toArray) rfl gg rfl (by kernel_rfl)) ?_;refine k_k ?_;refine k_s (by exact Et (l':=(z32).map b8) rfl gg rfl rfl rfl sizeOf64 (by simp[Value.cells,Ih]) (by simp[Ih]) (by show((z32).map b8).toArray.toList.all _=true;exact DR _) (by simp[Value.cells,Ih])) ?_;iterate 2 refine k_k ?_
 refine AG ?_;refine AD (Av results26 (KC (vs:=(z32).map b8) rfl rfl underlying64 rfl sizeOf64 (List.take_of_length_le (by simp[Ih])) (by simp[Ih])) (AF rfl)) ?_;intro ρ w' hr;exact⟨rfl,hr.1⟩
theorem d8(hok:t.ok)(hx:DN w S t [x0,x1,x2]){l:List Nat}(h:BW t 32=some l):Calls prog 26 #[.agg #[x0,x1,x2]] w fun e w'=>e= .returned (.tuple #[.agg ((l).map b8).toArray,.int .i64 0])∧Bw w w':=by
 have hlt8:=Ij hok h;have hll:=Ik h
 go_enter func26,ntmps26
 refine A4 ?_;iterate 3 refine k_k ?_
 refine k_s (by exact NW (l:=z32.map b8) rfl rfl gg zeroValue64 rfl) ?_;iterate 4 refine k_k ?_
 refine FY ?_;refine k_s (by exact IU [] rfl rfl gg rfl (eo func53) (n:=32) (size:=1) (ty:=5) (l:=l.map b8) (y:= .int .i64 0) (by simp[hll]) (fun ρ S w' hb hR=>VC (sz:=32) w' hok (ED hb hx) (by decide) h)) ?_;iterate 10 refine k_k ?_
 refine k_s (by exact BB (p:=false) rfl gg rfl rfl (by decide)) ?_;iterate 6 refine k_k ?_
 refine k_s (by exact LJ rfl gg rfl underlying64 (BI rfl) (by decide)) ?_;refine k_s (by exact P8 (vs:=l.map b8) rfl gg rfl underlying64 rfl sizeOf64 (BI rfl) (List.take_of_length_le (by simp[hll])) (by simp[hll]) (by decide)) ?_;refine k_s (by exact Et (l':=(l).map b8) rfl gg rfl rfl rfl sizeOf64 (by simp[Value.cells,hll]) (by simp[Ih]) (by show((l).map b8).toArray.toList.all _=true;exact DR _) (by simp[Value.cells,Ih])) ?_;iterate 2 refine k_k ?_
 refine AG ?_;refine AD (Av results26 (KC (vs:=(l).map b8) rfl rfl underlying64 rfl sizeOf64 (List.take_of_length_le (by simp[hll])) (by simp[hll])) (AF rfl)) ?_;intro ρ w' hr;exact⟨rfl,hr.1⟩
theorem d9{c:List Value}(hok:t.ok)(hx:DN w S t c):Calls prog 26 #[.agg c.toArray] w fun e w'=>e= .returned (.tuple #[.agg ((tbN t).1.map b8).toArray,.int .i64 (tbN t).2])∧Bw w w':=by
 obtain⟨x0,x1,x2,rfl⟩:=DI (CS hx);unfold tbN;cases h:BW t 32 with
 |none=>exact eB w hok hx h
 |some l=>exact d8 w hok hx h
def Ju:Tr→Bool
 | .mk tg b ks=>decide (tg=12) && (Ak (.mk tg b ks) 1 && decide (b.length≤64))
def Az:Tr→List Nat
 | .mk _ b _=>b
def twN(t:Tr):List Nat×Int:=bif Ju t then(Az t,0)else([],2)
theorem dr(hok:(Tr.mk tg b ks).ok)(hx:DN w S (.mk tg b ks) [.int .i64 tg,bv,kv]):Calls prog 155 #[.agg #[.int .i64 tg,bv,kv]] w fun e w'=>e= .returned (.tuple #[.string (AB (twN (.mk tg b ks)).1),.int .i64 (twN (.mk tg b ks)).2])∧Bw w w':=by
 have e12:twN (.mk tg b ks)=bif (decide (tg=12) && (Ak (.mk tg b ks) 1 && decide (b.length≤64)))then(b,0)else([],2):=rfl;rw[e12]
 have hv:AO w bv b.length 1 (b.map b8) S:=by
  simp only[DN]at hx;obtain⟨bv',kv',cs,e,h2,_⟩:=hx;simp only[List.cons.injEq,and_true]at e;rw[e.2.1];exact h2
 obtain⟨q1,h_q1⟩: ∃p,decide (tg=12)=p:=⟨_,rfl⟩
 obtain⟨q2,h_q2⟩: ∃p,Ak (.mk tg b ks) 1=p:=⟨_,rfl⟩
 obtain⟨q3,h_q3⟩: ∃p,decide (b.length≤64)=p:=⟨_,rfl⟩
 have h_q1':decide (tg≠12)= !q1:=by rw[←h_q1];exact decide_not
 have h_q3':decide ((b.length:Int)>((64:Nat):Int))= !q3:=by rw[←h_q3,←decide_not];exact decide_eq_decide.2 (by omega)
 rw[h_q1,h_q2,h_q3]
 go_enter func155,ntmps155
 refine A4 ?_;cases q1<;>cases q2<;>cases q3<;>
 (
  iterate 9 refine k_k ?_
  refine Kv ?_;refine DJ ?_;refine k_s (by exact BB rfl gg rfl rfl h_q1') ?_;refine k_k ?_;refine TD ?_;refine TB ?_;refine Jy ?_
  refine PZ ?_;refine PY ?_;refine ZM ?_;refine k_s (by first|exact Ev.skip (fun _=>rfl)|exact BV rfl (fun _=>rfl) rfl rfl h_q3') ?_;iterate 2 refine k_k ?_
  first
  |(
   iterate 6 refine k_k ?_
   exact AG (AD (Av results155 (AF rfl) (AF rfl)) fun _ _ hr=>⟨rfl,hr.1⟩)
   )
  |(
   iterate 4 refine k_k ?_
   refine Kw ?_;refine HQ ?_;refine k_s (by exact Cc (bs:=b) rfl gg rfl underlying23 underlying5 underlying9 (AW hv)) ?_;iterate 3 refine k_k ?_
   exact AG (AD (Av results155 (AF rfl) (AF rfl)) fun _ _ hr=>⟨rfl,hr.1⟩)
   )
 )
theorem du{c:List Value}(hok:t.ok)(hx:DN w S t c):Calls prog 155 #[.agg c.toArray] w fun e w'=>e= .returned (.tuple #[.string (AB (twN t).1),.int .i64 (twN t).2])∧Bw w w':=by
 cases t with
 |mk tg b ks=>
  have hx':=hx;simp only[DN]at hx';obtain⟨bv,kv,cs,rfl,_⟩:=hx';exact dr w hok hx
def Lf:Tr→Int
 | .mk t _ _=>t
theorem aS{w0:World}{o:Oper}{s:VS}{id off:Nat}{l:List SV}{y:SV}{v:Value}(ho:o.op= .load ty x)(hgd:AQ ops o s)(hx:AE s x= .p id off)(hm:s.mem id=some (.cells l bt))
 (hu:P.underlying ty=some d)(hd:Ba d=false)(hy:l[off]? =some y)(hv: ∀ρ S w',RelOn w0.heap.size ρ S w' (restr (id::rd) s.mem)→y.c ρ=v):Ev P ops w0 o s ⟨.v v,[],[],[],id::rd⟩:=
 Ev.run _ _ hgd fun ρ S w hb hR=>by
  have h1:=AI s ρ x;rw[hx]at h1;have hc:=GK (relon_get hR hm (by simp)).2 hy;simp[execOp,ho,h1,SV.c,Instr.loadAt,Instr.sureAddr,loadVar,Bp hu,hd,hc,hv ρ S w hR]
theorem p9{w:World}{base:Nat}{S:Nat→Nat→Prop}{m:Mem}(id:Nat)(hok:t.ok)(hR:RelOn base ρ S w (restr rd m))(hid:id∈rd)(hm:m id=some (.dat (AR t))):
 Calls prog 155 (SV.cs ρ [.d id]).toArray w fun e w'=>e= .returned (.tuple #[.string (AB (twN t).1),.int .i64 (twN t).2])∧Bw w w':=by
 obtain⟨c,h1,h2⟩:=Cd hR hid hm;simp only[SV.cs,SV.c,h1];exact du w hok h2
def tN(l:List Nat):Tr:= .mk 2 (B2 l) []
theorem VL{l:List Nat}(h: ∀x∈l,x<256): ∀x∈B2 l,x<256:=by
 unfold B2;cases decide ((AY l).length=0)||decide ((AY l).headD 0≥128)<;>simp only[cond_true,cond_false]
 ·exact Q6 h
 ·intro x hx
  rcases List.mem_cons.1 hx with rfl|hx
  ·decide
  ·exact Q6 h x hx
theorem Vd{l:List Nat}(h: ∀x∈l,x<256)(hl:l.length≤64):(tN l).ok:=by
 simp only[tN,Tr.ok,oks,List.length_nil];exact⟨VL h,by have:=PL l;omega,by omega,True.intro⟩
theorem dE(hb32:bs.length=32)(w:World):Calls prog 24 #[.agg (bs.map b8).toArray] w fun e w'=> ∃v,e= .returned v∧Ae w w' v (AR (tN bs))∧Bw w w':=by
 go_enter func24,ntmps24
 refine Bz ?_
 refine k_s (by exact ae (l:=bs.map b8) rfl rfl gg rfl (by simp[Value.cells])) ?_;refine Em ?_;iterate 3 refine k_k ?_
 refine k_s (by exact NS rfl gg rfl underlying64 sizeOf5) ?_;refine k_s (by exact Al (D:=AR (tN bs)) [1] rfl rfl gg rfl (eo func51) (fun ρ S w' hb hR=>by obtain⟨S0,s0⟩:=hU (id:=1) (off:=0) (len:=32) (cap:=32) (size:=1) (l:=bs.map b8) rfl (List.take_of_length_le (by simp[hb32])) (by simp[hb32]) (Nat.le_refl _) ρ S w' hb hR;exact YC (bs:=bs) (S:=S0) w' (by rw[hb32];exact s0) (by omega))) ?_;refine k_s (by exact Bh (vl:=[.fn (AN 0) (.d 4),.fn (AN 1) (.d 4),.fn (AN 2) (.d 4)]) [2,4] rfl gg rfl rfl rfl sizeOf61 rfl (fun ρ S w' _ hR=>by obtain⟨c,h1,h2⟩:=Cd (id:=4) hR (by simp) rfl;have hf:=fn3 h1 (CS h2);exact⟨hf.1,hf.2▸HB h2⟩) rfl (by simp)) ?_;refine EP ?_;refine AD (AH results24 (Am rfl rfl underlying61 rfl sizeOf61 rfl)) ?_;intro ρ w' hr;exact⟨_,rfl,Hs 4 hr rfl,hr.1⟩
end Go.Proofs.YtafbhakmkbehiaaGreatDoor
