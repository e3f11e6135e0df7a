import Derived.Test.YtafbhakmkbehiaaGreatDoorW13
open Go.Proofs.Tryz
set_option maxHeartbeats 4000000
set_option maxRecDepth 100000
namespace Go.Proofs.YtafbhakmkbehiaaGreatDoor
open Go.RowKit Go.Vx
variable(w:World){ops:Array Oper}{tg:Int}{b bs r rd:List Nat}{ks:List Tr}{a i sz:Nat}{ρ:Nat->Nm}{S:Nat->Prop}{o:Oper}{x:Operand}{P:Program}{t:Tr}{d:TypeDesc}{bt ty:TypeId}{s:VS}{bv kv x0 x1 x2:Value}{w0:World}
def BW:Tr->Nat->Option (List Nat)
 | .mk tg b ks,sz=>bif decide (tg≠2)then none else bif !(Ak (.mk tg b ks) 1)then none else bif decide (b.headD 0>=128)then none else bif decide ((AY b).length>sz)then none else some (List.replicate (sz-(AY b).length) 0++AY b)
theorem Q4{l:List Nat}(h:BW (.mk tg b ks) sz=some l):decide (tg≠2)=false/\Ak (.mk tg b ks) 1=true/\decide (b.headD 0>=128)=false/\decide ((AY b).length>sz)=false/\l=List.replicate (sz-(AY b).length) 0++AY b:=by
 simp only[BW]at h;cases c:decide (tg≠2)<;>rw[c]at h<;>simp only[cond_true,cond_false]at h
 .cases e:Ak (.mk tg b ks) 1<;>rw[e]at h<;>simp only[z5,IN,cond_true,cond_false]at h
  .cases h
  .cases f:decide (b.headD 0>=128)<;>rw[f]at h<;>simp only[cond_true,cond_false]at h
   .cases g:decide ((AY b).length>sz)<;>rw[g]at h<;>simp only[cond_true,cond_false]at h
    .exact⟨rfl,rfl,rfl,rfl,(z4 h).symm⟩
    .cases h
   .cases h
 .cases h
theorem dd(h:BW (.mk tg b ks) sz=none):(decide (tg≠2)||(!(Ak (.mk tg b ks) 1)||(decide (b.headD 0>=128)||decide ((AY b).length>sz))))=true:=by
 simp only[BW]at h;cases c:decide (tg≠2)<;>rw[c]at h<;>simp only[cond_true,cond_false]at h
 .cases e:Ak (.mk tg b ks) 1<;>rw[e]at h<;>simp only[z5,IN,cond_true,cond_false]at h
  .rfl
  .cases f:decide (b.headD 0>=128)<;>rw[f]at h<;>simp only[cond_true,cond_false]at h
   .cases g:decide ((AY b).length>sz)<;>rw[g]at h<;>simp only[cond_true,cond_false]at h
    .cases h
    .rfl
   .rfl
 .rfl
theorem Q6(h:∀x∈bs,x<256):∀x∈AY bs,x<256:=λx c=>h x ((List.dropWhile_suffix _).subset c)
theorem Ik{l:List Nat}(h:BW t sz=some l):l.length=sz:=by
 cases t with
 |mk tg b ks=>
  obtain⟨_,_,_,c,rfl⟩:=Q4 h;have:=yC c;rw[yM,uE5];omega
theorem Ij(c:t.ok){l:List Nat}(h:BW t sz=some l):∀x∈l,x<256:=by
 cases t with
 |mk tg b ks=>
  obtain⟨_,_,_,e,rfl⟩:=Q4 h;simp only[Tr.ok]at c;intro x hx;rcases uB3.1 hx with hx|hx
  .rw[(List.mem_replicate.1 hx).2];decide
  .exact Q6 c.1 x hx
theorem I0(f:decide (tg≠2)=false)(c:Ak (.mk tg b ks) 1=true):Ez b=true:=by
 have e:tg=2:=by have:=yC f;omega
 subst e;have h:Ak (.mk 2 b ks) 1=(decide (ks.length=0) && Ez b):=rfl;rw[h,yW]at c;exact c.2
theorem Jv(h:Ez b=true):0<b.length:=by
 cases b with
 |nil=>cases h
 |cons x r=>simp
theorem dF(k:Nat)(l:List Nat):List.replicate k (Value.int .u8 0)++l.map b8=(List.replicate k 0++l).map b8:=by
 rw[SW,List.map_replicate];rfl
theorem db(hok:(Tr.mk tg b ks).ok)(hx:DN w S (.mk tg b ks) [.int .i64 tg,bv,kv])(C:sz<=64)(h:BW (.mk tg b ks) sz=none):CBy 53 #[.agg #[.int .i64 tg,bv,kv],.int .i64 (sz:Nat)] w (.tuple #[.slice none 0 0,.int .i64 2]):=by
 have u:b.length<=maxLen:=by simp only[Tr.ok]at hok;simp only[maxLen];omega
 have hv:AO w bv b.length 1 (b.map b8) S:=by
  simp only[DN]at hx;obtain⟨v,E,J,e,B,_⟩:=hx;simp only[zX,zS]at e;rw[e.2.1];exact B
 have htv:=N2 hv;have D:=Hi b;have hle:decide ((AY b).length>sz)=false->(AY b).length<=sz:=λg=>by have:=yC g;omega
 have hpos:decide (tg≠2)=false->Ak (.mk tg b ks) 1=true->0<b.length:=λz A=>Jv (I0 z A)
 have n:=dd h;obtain⟨F,h_q1⟩:∃p,decide (tg≠2)=p:=⟨_,rfl⟩
 obtain⟨G,h_q2⟩:∃p,Ak (.mk tg b ks) 1=p:=⟨_,rfl⟩
 obtain⟨H,j⟩:∃p,decide (b.headD 0>=128)=p:=⟨_,rfl⟩
 obtain⟨I,h_q4⟩:∃p,decide ((AY b).length>sz)=p:=⟨_,rfl⟩
 have h_q3':=(Ej (b.headD 0) 128).trans j;have l:=(Cr (AY b).length sz).trans h_q4;rw[h_q1,h_q2,j,h_q4]at n
 go_enter func53,ntmps53
 refine A4 ?_;cases F<;>cases G<;>cases H<;>cases I<;>
 (
  iterate 11 refine aT ?_
  refine mn ?_;iterate 2 refine aT ?_
  refine TB ?_;iterate 5 refine aT ?_
  refine ZU ?_;refine iD (by first|exact Ev.skip (λ_=>rfl)|exact Cb rfl (λ_=>rfl) rfl yL rfl (AW hv) (P3 (hpos h_q1 h_q2))) ?_;refine JR ?_;iterate 2 refine aT ?_
  first
  |(
   iterate 6 refine aT ?_
   refine AG ?_;refine AD (Av results53 (AF rfl) (AF rfl)) ?_;intro ρ q m
   (first|exact⟨rfl,m.1⟩|(cases n))
   )
  |(
   iterate 6 refine aT ?_
   refine iD (by exact Ad rfl gg rfl (eo func98) (λq hb=>Q5 q (A5 hv hb) u)) ?_;iterate 6 refine aT ?_
   refine M6 ?_;refine aT ?_;refine iD (by exact BV rfl gg rfl rfl l) ?_;refine aT ?_;first
   |(
    iterate 6 refine aT ?_
    refine AG ?_;refine AD (Av results53 (AF rfl) (AF rfl)) ?_;intro ρ q m
    (first|exact⟨rfl,m.1⟩|(cases n))
    )
   |(
    iterate 6 refine aT ?_
    refine M6 ?_;refine Ta ?_;refine Ps ?_;refine aT ?_;refine Zi ?_;iterate 3 refine aT ?_
    refine AG ?_;refine AD (Av results53 (AF rfl) (AF rfl)) ?_;intro ρ q m
    (first|exact⟨rfl,m.1⟩|(cases n))
    )
   )
 )
theorem da(hok:(Tr.mk tg b ks).ok)(hx:DN w S (.mk tg b ks) [.int .i64 tg,bv,kv])(E:sz<=64){l:List Nat}(h:BW (.mk tg b ks) sz=some l):Calls prog 53 #[.agg #[.int .i64 tg,bv,kv],.int .i64 (sz:Nat)] w λe n=> ∃v,e=.returned (.tuple #[v,.int .i64 0])/\BN w n v sz 1 5 (l.map b8)/\Bw w n:=by
 have p:b.length<=maxLen:=by simp only[Tr.ok]at hok;simp only[maxLen];omega
 have hv:AO w bv b.length 1 (b.map b8) S:=by
  simp only[DN]at hx;obtain⟨z,G,H,e,C,_⟩:=hx;simp only[zX,zS]at e;rw[e.2.1];exact C
 have htv:=N2 hv;have F:=Hi b;have hle:decide ((AY b).length>sz)=false->(AY b).length<=sz:=λg=>by have:=yC g;omega
 have hpos:decide (tg≠2)=false->Ak (.mk tg b ks) 1=true->0<b.length:=λA B=>Jv (I0 A B)
 obtain⟨h_q1,h_q2,m,h_q4,D⟩:=Q4 h;have h_q3':=(Ej (b.headD 0) 128).trans m;have j:=(Cr (AY b).length sz).trans h_q4
 go_enter func53,ntmps53
 refine A4 ?_;iterate 11 refine aT ?_
 refine mn ?_;iterate 2 refine aT ?_
 refine TB ?_;iterate 5 refine aT ?_
 refine ZU ?_;refine iD (by first|exact Ev.skip (λ_=>rfl)|exact Cb rfl (λ_=>rfl) rfl yL rfl (AW hv) (P3 (hpos h_q1 h_q2))) ?_;refine JR ?_;iterate 8 refine aT ?_
 refine iD (by exact Ad rfl gg rfl (eo func98) (λn hb=>Q5 n (A5 hv hb) p)) ?_;iterate 6 refine aT ?_
 refine M6 ?_;refine aT ?_;refine iD (by exact BV rfl gg rfl rfl j) ?_;iterate 7 refine aT ?_
 refine M6 ?_;refine Ta ?_;refine Ps ?_;refine aT ?_;refine Zi ?_;iterate 3 refine aT ?_
 refine AG ?_;refine AD (Av results53 (AF rfl) (AF rfl)) ?_;intro ρ n u;refine⟨(ρ 35).val,rfl,?_,u.1⟩;have q:=B8 (id:=35) u rfl;rw[dF,Nat.sub_add_cancel (hle h_q4)]at q;rw[D];exact q
theorem VD{c:List Value}(f:t.ok)(j:DN w S t c)(g:sz<=64)(h:BW t sz=none):CBy 53 #[.agg c.toArray,.int .i64 (sz:Nat)] w (.tuple #[.slice none 0 0,.int .i64 2]):=by
 cases t with
 |mk tg b ks=>
  have e:=j;simp only[DN]at e;obtain⟨bv,kv,k,rfl,_⟩:=e;exact db w f j g h
theorem VC{c:List Value}(g:t.ok)(k:DN w S t c)(j:sz<=64){l:List Nat}(h:BW t sz=some l):Calls prog 53 #[.agg c.toArray,.int .i64 (sz:Nat)] w λe m=> ∃v,e=.returned (.tuple #[v,.int .i64 0])/\BN w m v sz 1 5 (l.map b8)/\Bw w m:=by
 cases t with
 |mk tg b ks=>
  have f:=k;simp only[DN]at f;obtain⟨bv,kv,n,rfl,_⟩:=f;exact da w g k j h
def beN(l:List Nat):Nat:=l.foldl (λa b=>a*256+b) 0
def xvD(l:List Nat)(i:Nat):Int:=IntKind.i64.wrap ((beN (l.take i):Nat):Int)
theorem UU{l:List Nat}{b:Nat}(h:l[i]? =some b):beN (l.take (i+1))=beN (l.take i)*256+b:=by
 rw[Im h];unfold beN;rw[List.foldl_append];rfl
theorem aK:∀(l:List Nat) (a k:Nat),(∀x∈l,x<256)->a<256^k->l.foldl (λa b=>a*256+b) a<256^(k+l.length)
 | [],a,k,_,h=>h
 |b::r,a,k,hl,h=>by
  have hb:=hl b (by simp);have:a*256+b<256^(k+1):=by rw[CA];omega
  have:=aK r (a*256+b) (k+1) (λx c=>hl x (by simp[c])) this;rw[List.foldl_cons,List.length_cons,show k+(r.length+1)=k+1+r.length by omega];exact this
theorem UV{l:List Nat}(h:∀x∈l,x<256):beN l<256^l.length:=by
 have:=aK l 0 0 h (by decide)
 rwa [zW]at this
theorem VV{l:List Nat}(h:∀x∈l,x<256)(j:i<=7):beN (l.take i)<72057594037927936:=by
 have e:=UV (l:=l.take i) (λx c=>h x (PA c));have f:256^(l.take i).length<=256^7:=Nat.pow_le_pow_right (by decide) (by rw[z6];omega);have g:256^7=72057594037927936:=by decide
 omega
theorem Vr{l:List Nat}(h:∀x∈l,x<256)(f:i<8):BOy .shl 3 (.int .i64 (xvD l i)) (.int .u64 8) (.int .i64 (IntKind.i64.wrap ((beN (l.take i)*256:Nat):Int))):=by
 intro p q w
 have c:=VV h (show i<=7 by omega);have e:xvD l i=((beN (l.take i):Nat):Int):=Ah (by omega) (by omega);rw[e];generalize beN (l.take i)=v at c
 go_simp
theorem nI(v b:Nat)(j:v<72057594037927936)(g:b<256):bits .or .i64 (IntKind.i64.wrap ((v*256:Nat):Int)) (b:Int)=IntKind.i64.wrap ((v*256+b:Nat):Int):=by
 have e:∀n:Int,BitVec.ofInt 64 (IntKind.i64.wrap n)=BitVec.ofInt 64 n:=by
  intro n;apply BitVec.eq_of_toInt_eq;rw[BitVec.toInt_ofInt,BitVec.toInt_ofInt,IntKind.wrap_i64];simp only[Int.bmod_def];omega
 have h:(BitVec.ofInt 64 ((v*256:Nat):Int)|||BitVec.ofInt 64 (b:Int)).toNat=v*256+b:=by
  rw[BitVec.toNat_or,uC6,uC6];have c:(((v*256:Nat):Int) %((2^64:Nat):Int)).toNat=v*256:=by omega
  have f:((b:Int) %((2^64:Nat):Int)).toNat=b:=by omega
  rw[c,f];have:=Nat.two_pow_add_eq_or_of_lt (i:=8) (b:=b) (by omega) v;rw[zE v 256];exact this.symm
 show IntKind.i64.wrap ((BitVec.ofInt 64 (IntKind.i64.wrap ((v*256:Nat):Int))|||BitVec.ofInt 64 (b:Int)).toNat:Int)=_;rw[e,h]
theorem X3{l:List Nat}{b:Nat}(h:∀x∈l,x<256)(g:i<8)(e:l[i]? =some b):BOy .or 3 (.int .i64 (IntKind.i64.wrap ((beN (l.take i)*256:Nat):Int))) (.int .i64 (b:Nat)) (.int .i64 (xvD l (i+1))):=by
 intro p q w
 have f:=VV h (show i<=7 by omega);have c:=h b (zA e);unfold xvD;rw[UU e];generalize beN (l.take i)=v at f
 go_simp
 exact nI v b f c
theorem T8{b:Nat}(h:b<256)(w:World):(convert 5 3 (.int .u8 (b:Nat))).run prog w=.ok (.int .i64 (b:Nat)) w:=by
 have e:IntKind.i64.wrap (b:Int)=(b:Int):=Ah (by omega) (by omega)
 go_simp
def tnN(t:Tr):Int×Int:=match BW t 8 with
 |none=>(0,2)
 |some l=>bif decide (beN l<4611686018427387904)then((beN l:Nat),0)else(0,2)
theorem xv8{l:List Nat}(h:∀x∈l,x<256)(e:l.length=8):xvD l 8=if beN l<9223372036854775808 then((beN l:Nat):Int)else(beN l:Nat)-18446744073709551616:=by
 have c:=UV h;rw[e]at c;have f:256^8=18446744073709551616:=by decide
 unfold xvD;rw[zT (by omega),IntKind.wrap_i64];split<;>omega
theorem Uu{l:List Nat}(h:∀x∈l,x<256)(c:l.length=8):decide (xvD l 8<0)=decide (beN l>=9223372036854775808):=by
 rw[xv8 h c];have e:=UV h;rw[c]at e;have f:256^8=18446744073709551616:=by decide
 split
 .rw[yB (by omega),yB (by omega)]
 .rw[yE (by omega),yE (by omega)]
theorem Uv{l:List Nat}(h:∀x∈l,x<256)(c:l.length=8)(e:decide (beN l>=9223372036854775808)=false):decide ((4611686018427387904:Int)<=xvD l 8)=decide (beN l>=4611686018427387904):=by
 rw[xv8 h c];have:=yC e;rw[x9 (by omega)];exact zM.2 (by omega)
theorem dy(c:t.ok)(g:DN w S t [x0,x1,x2])(h:BW t 8=none):CBy 110 #[.agg #[x0,x1,x2]] w (.tuple #[.int .i64 0,.int .i64 2]):=by
 go_enter func110,ntmps110
 refine A4 ?_;iterate 9 refine aT ?_
 refine iD (by exact Ad rfl gg rfl (eo func53) (λj hb=>VD (sz:=8) j c (ED hb g) (by decide) h)) ?_;iterate 10 refine aT ?_
 refine iD (by exact BB (p:=true) rfl gg rfl rfl (by decide)) ?_;iterate 8 refine aT ?_
 exact AG (AD (Av results110 (AF rfl) (AF rfl)) λ_ _ e=>⟨rfl,e.1⟩)
theorem dv(hok:t.ok)(hx:DN w S t [x0,x1,x2]){l:List Nat}(h:BW t 8=some l)(z:beN l<4611686018427387904):CBy 110 #[.agg #[x0,x1,x2]] w (.tuple #[.int .i64 ((beN l:Nat):Int),.int .i64 0]):=by
 have e:=Ij hok h;have hll:=Ik h
 go_enter func110,ntmps110
 refine A4 ?_;iterate 9 refine aT ?_
 refine Zn ?_;iterate 10 refine aT ?_
 refine iD (by exact BB (p:=false) rfl gg rfl rfl (by decide)) ?_;iterate 11 refine aT ?_
 refine El ?_;iterate 3 refine aT ?_
 refine Bo (α:={x:Nat // x<=8}) (fun(x:{x:Nat // x<=8}) f=>⟨.v (f 0)::.p 1 0::.v (.int .i64 0)::.v (.int .i64 0)::.v (f 4)::.v (f 5)::.v (.int .i64 (xvD l x.1))::fv f 10 7 (.d 11::.v (.int .i64 8)::.v (.int .i64 (x.1:Nat))::fv f 16 20 []),AJ [(11,.row 8 1 5 (.exact (l.map b8))),(1,.cells [.v x0,.v x1,.v x2] 61)]⟩) (λx=>8-x.1) ?_ (⟨0,by decide⟩) ?_
 .rintro⟨i,u⟩ f
  obtain⟨q,h_q⟩:∃q,decide (((i:Nat):Int)<8)=q:=⟨_,rfl⟩
  change VOk _ _ _ _ _;simp only[fv,Nat.reduceAdd];iterate 2 refine aT ?_
  refine M9 ?_;iterate 2 refine aT ?_
  cases q
  .refine aT ?_
   have j:i=8:=by have:=yC h_q;omega
   subst j;refine As ?_;change VOk _ _ _ _ _;iterate 4 refine aT ?_
   refine iD (by exact BM (p:=false) rfl gg rfl rfl (by rw[Uu e hll];exact yB (by omega))) ?_;iterate 2 refine aT ?_
   refine iD (by first|exact Ev.skip (λ_=>rfl)|exact B4 (p:=false) rfl (λ_=>rfl) rfl rfl (by rw[Uv e hll (yB (by omega))];exact yB (by omega))) ?_;iterate 10 refine aT ?_
   refine AG ?_;refine AD (Av results110 (AF rfl) (AF rfl)) ?_;intro ρ A m;have g:xvD l 8=((beN l:Nat):Int):=by rw[xv8 e hll,x9 (by omega)]
   rw[g];exact⟨rfl,m.1⟩
  .refine aT ?_
   have hlt:i<8:=by have:=yA h_q;omega
   obtain⟨b,hb⟩:=EV (l:=l) (i:=i) (by omega);iterate 5 refine aT ?_
   refine Kp ?_;refine iD (by exact Cb rfl gg rfl yL rfl (BI rfl) (JH hb)) ?_;iterate 4 refine aT ?_
   refine iD (by exact AK rfl gg rfl rfl (λw=>Vr e hlt _ _ w)) ?_;refine aT ?_;refine iD (by exact B1 rfl gg rfl (λw=>T8 (e b (zA hb)) w)) ?_;refine iD (by exact AK rfl gg rfl rfl (λw=>X3 e hlt hb _ _ w)) ?_;iterate 3 refine aT ?_
   refine ER ?_;iterate 2 refine aT ?_
   refine⟨⟨i+1,by omega⟩,by show 8-(i+1)<8-i;omega,?_⟩;exact Ar (λi=>i==1||i==2||i==3||i==6||i==17||i==18||i==19) []
 .exact Ar (λi=>i==1||i==2||i==3||i==6||i==17||i==18||i==19) []
theorem d6(hok:t.ok)(hx:DN w S t [x0,x1,x2]){l:List Nat}(h:BW t 8=some l)(A: ¬beN l<4611686018427387904):CBy 110 #[.agg #[x0,x1,x2]] w (.tuple #[.int .i64 0,.int .i64 2]):=by
 have e:=Ij hok h;have hll:=Ik h;obtain⟨u,g⟩:∃q,decide (beN l>=9223372036854775808)=q:=⟨_,rfl⟩
 go_enter func110,ntmps110
 refine A4 ?_;iterate 9 refine aT ?_
 refine Zn ?_;iterate 10 refine aT ?_
 refine iD (by exact BB (p:=false) rfl gg rfl rfl (by decide)) ?_;iterate 11 refine aT ?_
 refine El ?_;iterate 3 refine aT ?_
 refine Bo (α:={x:Nat // x<=8}) (fun(x:{x:Nat // x<=8}) f=>⟨.v (f 0)::.p 1 0::.v (.int .i64 0)::.v (.int .i64 0)::.v (f 4)::.v (f 5)::.v (.int .i64 (xvD l x.1))::fv f 10 7 (.d 11::.v (.int .i64 8)::.v (.int .i64 (x.1:Nat))::fv f 16 20 []),AJ [(11,.row 8 1 5 (.exact (l.map b8))),(1,.cells [.v x0,.v x1,.v x2] 61)]⟩) (λx=>8-x.1) ?_ (⟨0,by decide⟩) ?_
 .rintro⟨i,z⟩ f
  obtain⟨q,h_q⟩:∃q,decide (((i:Nat):Int)<8)=q:=⟨_,rfl⟩
  change VOk _ _ _ _ _;simp only[fv,Nat.reduceAdd];iterate 2 refine aT ?_
  refine M9 ?_;iterate 2 refine aT ?_
  cases q
  .refine aT ?_
   have j:i=8:=by have:=yC h_q;omega
   subst j;cases u<;>
   (
    refine As ?_;change VOk _ _ _ _ _;iterate 4 refine aT ?_
    refine iD (by exact BM rfl gg rfl rfl ((Uu e hll).trans g)) ?_;iterate 2 refine aT ?_
    refine iD (by first|exact Ev.skip (λ_=>rfl)|exact B4 (p:=true) rfl (λ_=>rfl) rfl rfl (by rw[Uv e hll g];exact yE (by omega))) ?_;iterate 8 refine aT ?_
    exact AG (AD (Av results110 (AF rfl) (AF rfl)) λ_ _ m=>⟨rfl,m.1⟩)
   )
  .refine aT ?_
   have hlt:i<8:=by have:=yA h_q;omega
   obtain⟨b,hb⟩:=EV (l:=l) (i:=i) (by omega);iterate 5 refine aT ?_
   refine Kp ?_;refine iD (by exact Cb rfl gg rfl yL rfl (BI rfl) (JH hb)) ?_;iterate 4 refine aT ?_
   refine iD (by exact AK rfl gg rfl rfl (λw=>Vr e hlt _ _ w)) ?_;refine aT ?_;refine iD (by exact B1 rfl gg rfl (λw=>T8 (e b (zA hb)) w)) ?_;refine iD (by exact AK rfl gg rfl rfl (λw=>X3 e hlt hb _ _ w)) ?_;iterate 3 refine aT ?_
   refine ER ?_;iterate 2 refine aT ?_
   refine⟨⟨i+1,by omega⟩,by show 8-(i+1)<8-i;omega,?_⟩;exact Ar (λi=>i==1||i==2||i==3||i==6||i==17||i==18||i==19) []
 .exact Ar (λi=>i==1||i==2||i==3||i==6||i==17||i==18||i==19) []
theorem dw{c:List Value}(e:t.ok)(g:DN w S t c):CBy 110 #[.agg c.toArray] w (.tuple #[.int .i64 (tnN t).1,.int .i64 (tnN t).2]):=by
 obtain⟨x0,x1,x2,rfl⟩:=DI (CS g);unfold tnN;cases h:BW t 8 with
 |none=>exact dy w e g h
 |some l=>
  by_cases f:beN l<4611686018427387904
  .simp only[yE f,cond_true];exact dv w e g h f
  .simp only[yB f,cond_false];exact d6 w e g h f
def z32:List Nat:=List.replicate 32 0
theorem Ih:z32.length=32:=rfl
theorem dH:∀x∈z32,x<256:=λx c=>by rw[(List.mem_replicate.1 c).2];decide
def tbN(t:Tr):List Nat×Int:=match BW t 32 with
 |none=>(z32,2)
 |some l=>(l,0)
theorem VT(t:Tr):(tbN t).1.length=32:=by
 unfold tbN;cases h:BW t 32 with
 |none=>rfl
 |some l=>exact Ik h
theorem VR(c:t.ok):∀x∈(tbN t).1,x<256:=by
 unfold tbN;cases h:BW t 32 with
 |none=>exact dH
 |some l=>exact Ij c h
theorem eB(c:t.ok)(j:DN w S t [x0,x1,x2])(h:BW t 32=none):CBy 26 #[.agg #[x0,x1,x2]] w (.tuple #[.agg ((z32).map b8).toArray,.int .i64 2]):=by
 go_enter func26,ntmps26
 refine A4 ?_;iterate 3 refine aT ?_
 refine iD (by exact NW (l:=z32.map b8) rfl rfl gg zeroValue64 rfl) ?_;iterate 5 refine aT ?_
 refine iD (by exact Ad rfl gg rfl (eo func53) (λe hb=>VD (sz:=32) e c (ED hb j) (by decide) h)) ?_;iterate 10 refine aT ?_
 refine iD (by exact BB (p:=true) rfl gg rfl rfl (by decide)) ?_;iterate 4 refine aT ?_
 refine iD (by exact A6 (cells:=(z32.map b8).toArray) rfl gg rfl (by kernel_rfl)) ?_;refine aT ?_;refine iD (by exact Et (l':=(z32).map b8) rfl gg rfl rfl rfl yR (by simp[Value.cells,Ih]) (by simp[Ih]) (by show((z32).map b8).toArray.toList.all _=true;exact DR _) (by simp[Value.cells,Ih])) ?_;iterate 2 refine aT ?_
 refine AG ?_;refine AD (Av results26 (KC (vs:=(z32).map b8) rfl rfl yY rfl yR (zT (by simp[Ih])) (by simp[Ih])) (AF rfl)) ?_;intro ρ e g;exact⟨rfl,g.1⟩
theorem d8(e:t.ok)(m:DN w S t [x0,x1,x2]){l:List Nat}(h:BW t 32=some l):CBy 26 #[.agg #[x0,x1,x2]] w (.tuple #[.agg ((l).map b8).toArray,.int .i64 0]):=by
 have g:=Ij e h;have c:=Ik h
 go_enter func26,ntmps26
 refine A4 ?_;iterate 3 refine aT ?_
 refine iD (by exact NW (l:=z32.map b8) rfl rfl gg zeroValue64 rfl) ?_;iterate 5 refine aT ?_
 refine iD (by exact IU [] rfl rfl gg rfl (eo func53) (n:=32) (size:=1) (ty:=5) (l:=l.map b8) (y:=.int .i64 0) (by simp[c]) (λρ S j hb q=>VC (sz:=32) j e (ED hb m) (by decide) h)) ?_;iterate 10 refine aT ?_
 refine iD (by exact BB (p:=false) rfl gg rfl rfl (by decide)) ?_;iterate 6 refine aT ?_
 refine iD (by exact LJ rfl gg rfl yY (BI rfl) (by decide)) ?_;refine iD (by exact P8 (vs:=l.map b8) rfl gg rfl yY rfl yR (BI rfl) (zT (by simp[c])) (by simp[c]) (by decide)) ?_;refine iD (by exact Et (l':=(l).map b8) rfl gg rfl rfl rfl yR (by simp[Value.cells,c]) (by simp[Ih]) (by show((l).map b8).toArray.toList.all _=true;exact DR _) (by simp[Value.cells,Ih])) ?_;iterate 2 refine aT ?_
 refine AG ?_;refine AD (Av results26 (KC (vs:=(l).map b8) rfl rfl yY rfl yR (zT (by simp[c])) (by simp[c])) (AF rfl)) ?_;intro ρ j k;exact⟨rfl,k.1⟩
theorem d9{c:List Value}(e:t.ok)(f:DN w S t c):CBy 26 #[.agg c.toArray] w (.tuple #[.agg ((tbN t).1.map b8).toArray,.int .i64 (tbN t).2]):=by
 obtain⟨x0,x1,x2,rfl⟩:=DI (CS f);unfold tbN;cases h:BW t 32 with
 |none=>exact eB w e f h
 |some l=>exact d8 w e f h
def Ju:Tr->Bool
 | .mk tg b ks=>decide (tg=12) && (Ak (.mk tg b ks) 1 && decide (b.length<=64))
def Az:Tr->List Nat
 | .mk _ b _=>b
def twN(t:Tr):List Nat×Int:=bif Ju t then(Az t,0)else([],2)
theorem dr(hok:(Tr.mk tg b ks).ok)(hx:DN w S (.mk tg b ks) [.int .i64 tg,bv,kv]):CBy 155 #[.agg #[.int .i64 tg,bv,kv]] w (.tuple #[.string (AB (twN (.mk tg b ks)).1),.int .i64 (twN (.mk tg b ks)).2]):=by
 have k:twN (.mk tg b ks)=bif (decide (tg=12) && (Ak (.mk tg b ks) 1 && decide (b.length<=64)))then(b,0)else([],2):=rfl;rw[k]
 have hv:AO w bv b.length 1 (b.map b8) S:=by
  simp only[DN]at hx;obtain⟨q,v,z,e,u,_⟩:=hx;simp only[zX,zS]at e;rw[e.2.1];exact u
 obtain⟨m,c⟩:∃p,decide (tg=12)=p:=⟨_,rfl⟩
 obtain⟨y,h_q2⟩:∃p,Ak (.mk tg b ks) 1=p:=⟨_,rfl⟩
 obtain⟨n,g⟩:∃p,decide (b.length<=64)=p:=⟨_,rfl⟩
 have h:decide (tg≠12)= !m:=by rw[<-c];exact decide_not
 have j:decide ((b.length:Int)>((64:Nat):Int))= !n:=by rw[<-g,<-decide_not];exact zM.2 (by omega)
 rw[c,h_q2,g]
 go_enter func155,ntmps155
 refine A4 ?_;cases m<;>cases y<;>cases n<;>
 (
  iterate 11 refine aT ?_
  refine iD (by exact BB rfl gg rfl rfl h) ?_;iterate 2 refine aT ?_
  refine TB ?_;iterate 5 refine aT ?_
  refine ZM ?_;refine iD (by first|exact Ev.skip (λ_=>rfl)|exact BV rfl (λ_=>rfl) rfl rfl j) ?_;iterate 2 refine aT ?_
  first
  |(
   iterate 6 refine aT ?_
   exact AG (AD (Av results155 (AF rfl) (AF rfl)) λ_ _ l=>⟨rfl,l.1⟩)
   )
  |(
   iterate 6 refine aT ?_
   refine iD (by exact Cc (bs:=b) rfl gg rfl x7 yL yF (AW hv)) ?_;iterate 3 refine aT ?_
   exact AG (AD (Av results155 (AF rfl) (AF rfl)) λ_ _ l=>⟨rfl,l.1⟩)
   )
 )
theorem du{c:List Value}(f:t.ok)(g:DN w S t c):CBy 155 #[.agg c.toArray] w (.tuple #[.string (AB (twN t).1),.int .i64 (twN t).2]):=by
 cases t with
 |mk tg b ks=>
  have e:=g;simp only[DN]at e;obtain⟨bv,kv,h,rfl,_⟩:=e;exact dr w f g
def Ge:Tr->Bool
 | .mk tg b ks=>decide (tg≠2)||(!(Ak (.mk tg b ks) 1)||decide (b.headD 0>=128))
theorem VF(tg:Int)(b:List Nat)(ks:List Tr)(sz:Nat):BW (.mk tg b ks) sz=bif Ge (.mk tg b ks)then none else bif decide ((AY b).length>sz)then none else some (List.replicate (sz-(AY b).length) 0++AY b):=by
 simp only[BW,Ge];cases decide (tg≠2)<;>cases Ak (.mk tg b ks) 1<;>cases decide (b.headD 0>=128)<;>rfl
theorem WZ(h:Ge (.mk tg b ks)=false):decide (tg≠2)=false/\Ak (.mk tg b ks) 1=true/\decide (b.headD 0>=128)=false:=by
 simp only[Ge,uC1,uE0]at h;exact h
theorem dl(e:Ez b=true)(h:b.headD 0=0):∃r,b=0::r/\AY b=r:=by
 cases b with
 |nil=>cases e
 |cons x r=>
  have f:x=0:=h;subst f;refine⟨r,rfl,?_⟩;cases r with
  |nil=>rfl
  |cons y r=>
   have c:y≠0:=by
    intro c;subst c;simp[Ez]at e
   simp[AY,c]
theorem dm(h:b.headD 0≠0):AY b=b:=by
 cases b with
 |nil=>rfl
 |cons x r=>have c:x≠0:=h;simp[AY,c]
theorem qp(b:List Nat)(k:Nat):(AB b).extract k (AB b).size=AB (b.drop k):=by
 apply ByteArray.ext;simp only[AB,ByteArray.data_extract];apply Array.ext';simp[List.extract_eq_take_drop,ByteArray.size];exact zT (by simp)
theorem IT{y:Operand}{b':List Nat}{k:Nat}(n:o.op=.slice ty x (some y) none none)(h:AQ ops o s)(q:AE s x=.v (.string (AB b)))(u:AE s y=.v (.int .i64 (k:Nat)))(p:prog.underlying ty=some .string)(A:k<=b.length)(g:b.drop k=b'):Ev prog ops w0 o s ⟨.v (.string (AB b')),[],[],[],[]⟩:=
 Ev.run _ _ h λρ S w m z=>by
  subst g;have e:=AI s ρ x;rw[q]at e;have f:=AI s ρ y;rw[u]at f;simp only[SV.c]at e f;have j:(0:Int)<=(k:Int)/\(k:Int)<=((AB b).size:Int):=by rw[Ff];omega
  have l:=qp b k;simp[execOp,n,e,f,SV.c,Instr.sliceAt,Instr.slice,Instr.sliceBounds,Instr.sliceBound,asIntOf,yU p,j];rw[x9 (by omega),l]
theorem IQ{l:List Nat}(h:0<l.length):l[0]? =some (l.headD 0):=by
 cases l with
 |nil=>simp at h
 |cons x r=>rfl
theorem Ut(k:Nat):List.replicate k (Value.int .u8 0)=(List.replicate k 0).map b8:=by rw[List.map_replicate];rfl
theorem iz(hok:(Tr.mk tg b ks).ok)(_hx:RN w S (.mk tg b ks) [.int .i64 tg,.string (AB b),kv])(_g:sz<=64)(h_q1:decide (tg≠2)=true):CBy 28 #[.agg #[.int .i64 tg,.string (AB b),kv],.int .i64 (sz:Nat)] w (.tuple #[.string (AB []),.bool false]):=by
 have h:∀x∈b,x<256:=by simp only[Tr.ok]at hok;exact hok.1
 have c:b.length<=1048576:=by simp only[Tr.ok]at hok;exact hok.2.1
 go_enter func28,ntmps28
 refine A4 ?_;iterate 11 refine aT ?_
 refine mn ?_;iterate 2 refine aT ?_
 refine M1 ?_;iterate 5 refine aT ?_
 refine NG ?_;refine JR ?_;iterate 8 refine aT ?_
 exact AG (AD (Av results28 (AF rfl) (AF rfl)) λ_ _ e=>⟨rfl,e.1⟩)
theorem iy(hok:(Tr.mk tg b ks).ok)(hx:RN w S (.mk tg b ks) [.int .i64 tg,.string (AB b),kv])(_g:sz<=64)(h_q1:decide (tg≠2)=false)(h_q2:Ak (.mk tg b ks) 1=false):CBy 28 #[.agg #[.int .i64 tg,.string (AB b),kv],.int .i64 (sz:Nat)] w (.tuple #[.string (AB []),.bool false]):=by
 have h:∀x∈b,x<256:=by simp only[Tr.ok]at hok;exact hok.1
 have c:b.length<=1048576:=by simp only[Tr.ok]at hok;exact hok.2.1
 go_enter func28,ntmps28
 refine A4 ?_;iterate 11 refine aT ?_
 refine mn ?_;iterate 2 refine aT ?_
 refine M1 ?_;iterate 5 refine aT ?_
 refine NG ?_;refine JR ?_;iterate 8 refine aT ?_
 exact AG (AD (Av results28 (AF rfl) (AF rfl)) λ_ _ e=>⟨rfl,e.1⟩)
theorem iw(hok:(Tr.mk tg b ks).ok)(hx:RN w S (.mk tg b ks) [.int .i64 tg,.string (AB b),kv])(_j:sz<=64)(h_q1:decide (tg≠2)=false)(h_q2:Ak (.mk tg b ks) 1=true)(c:decide (b.headD 0>=128)=true):CBy 28 #[.agg #[.int .i64 tg,.string (AB b),kv],.int .i64 (sz:Nat)] w (.tuple #[.string (AB []),.bool false]):=by
 have e:∀x∈b,x<256:=by simp only[Tr.ok]at hok;exact hok.1
 have g:b.length<=1048576:=by simp only[Tr.ok]at hok;exact hok.2.1
 have h_q3':=(Ej (b.headD 0) 128).trans c;have hg0:b[0]? =some (b.headD 0):=IQ (Jv (I0 h_q1 h_q2));have hh8:b.headD 0<256:=e _ (zA hg0)
 go_enter func28,ntmps28
 refine A4 ?_;iterate 11 refine aT ?_
 refine mn ?_;iterate 2 refine aT ?_
 refine M1 ?_;iterate 5 refine aT ?_
 refine NG ?_;refine JR ?_;iterate 8 refine aT ?_
 exact AG (AD (Av results28 (AF rfl) (AF rfl)) λ_ _ h=>⟨rfl,h.1⟩)
theorem i6(c:(Tr.mk tg b ks).ok)(g:RN w S (.mk tg b ks) [.int .i64 tg,.string (AB b),kv])(e:sz<=64)(h:Ge (.mk tg b ks)=true):CBy 28 #[.agg #[.int .i64 tg,.string (AB b),kv],.int .i64 (sz:Nat)] w (.tuple #[.string (AB []),.bool false]):=by
 have k:(decide (tg≠2)||(!(Ak (.mk tg b ks) 1)||decide (b.headD 0>=128)))=true:=h;cases f:decide (tg≠2)with
 |true=>exact iz w c g e f
 |false=>
  cases j:Ak (.mk tg b ks) 1 with
  |false=>exact iy w c g e f j
  |true=>
   rw[f,j]at k;exact iw w c g e f j k
theorem iu(hok:(Tr.mk tg b ks).ok)(hx:RN w S (.mk tg b ks) [.int .i64 tg,.string (AB b),kv])(v:sz<=64)(h:Ge (.mk tg b ks)=false)(z:b.headD 0=0):CBy 28 #[.agg #[.int .i64 tg,.string (AB b),kv],.int .i64 (sz:Nat)] w (.tuple #[.string (AB (bif decide ((AY b).length>sz)then []else List.replicate (sz-(AY b).length) 0++AY b)),.bool (!decide ((AY b).length>sz))]):=by
 have q:∀x∈b,x<256:=by simp only[Tr.ok]at hok;exact hok.1
 have u:b.length<=1048576:=by simp only[Tr.ok]at hok;exact hok.2.1
 obtain⟨h_q1,h_q2,g⟩:=WZ h;have h_q3':=(Ej (b.headD 0) 128).trans g;have hg0:b[0]? =some (b.headD 0):=IQ (Jv (I0 h_q1 h_q2));have hh8:b.headD 0<256:=q _ (zA hg0);have y:=Hi b;obtain⟨A,h_q4⟩:∃p,decide ((AY b).length>sz)=p:=⟨_,rfl⟩
 have e:=(Cr (AY b).length sz).trans h_q4;obtain⟨r,j,n⟩:=dl (I0 h_q1 h_q2) z;have l:b.drop 1=AY b:=by rw[n,j];rfl
 rw[h_q4]
 go_enter func28,ntmps28
 refine A4 ?_;iterate 11 refine aT ?_
 refine mn ?_;iterate 2 refine aT ?_
 refine M1 ?_;iterate 5 refine aT ?_
 refine NG ?_;refine JR ?_;iterate 14 refine aT ?_
 refine iD (by exact CF (k:=0) rfl gg rfl rfl yF (hg0) (hh8)) ?_;refine iD (by exact Ag (p:=true) rfl gg rfl rfl (yE (by omega))) ?_;iterate 4 refine aT ?_
 refine iD (by exact IT (k:=1) (b:=b) (b':=AY b) rfl gg rfl rfl yF (Jv (I0 h_q1 h_q2)) l) ?_;iterate 6 refine aT ?_
 refine Dd ?_;refine aT ?_;refine iD (by exact BV rfl gg rfl rfl e) ?_;refine aT ?_;cases A
 .iterate 6 refine aT ?_
  refine Dd ?_;refine Ta ?_;refine Ps ?_;refine iD (by exact Cc (bs:=List.replicate (sz-(AY b).length) 0) rfl gg rfl x7 yL yF (by rw[<-Ut];exact BI rfl)) ?_;refine aT ?_;refine iD (by exact AK (c:=.string (AB (List.replicate (sz-(AY b).length) 0++AY b))) rfl gg rfl rfl (λw=>Fu _ _ (by rw[uE5];omega) _ _ w)) ?_;iterate 3 refine aT ?_
  exact AG (AD (Av results28 (AF rfl) (AF rfl)) λ_ _ m=>⟨rfl,m.1⟩)
 .iterate 6 refine aT ?_
  exact AG (AD (Av results28 (AF rfl) (AF rfl)) λ_ _ m=>⟨rfl,m.1⟩)
theorem iv(hok:(Tr.mk tg b ks).ok)(hx:RN w S (.mk tg b ks) [.int .i64 tg,.string (AB b),kv])(q:sz<=64)(h:Ge (.mk tg b ks)=false)(z:b.headD 0≠0)(_u:AY b=b):CBy 28 #[.agg #[.int .i64 tg,.string (AB b),kv],.int .i64 (sz:Nat)] w (.tuple #[.string (AB (bif decide (b.length>sz)then []else List.replicate (sz-b.length) 0++b)),.bool (!decide (b.length>sz))]):=by
 have m:∀x∈b,x<256:=by simp only[Tr.ok]at hok;exact hok.1
 have n:b.length<=1048576:=by simp only[Tr.ok]at hok;exact hok.2.1
 obtain⟨h_q1,h_q2,j⟩:=WZ h;have h_q3':=(Ej (b.headD 0) 128).trans j;have hg0:b[0]? =some (b.headD 0):=IQ (Jv (I0 h_q1 h_q2));have hh8:b.headD 0<256:=m _ (zA hg0);have v:=yD b.length;obtain⟨y,e⟩:∃p,decide (b.length>sz)=p:=⟨_,rfl⟩
 have g:=(Cr b.length sz).trans e;rw[e]
 go_enter func28,ntmps28
 refine A4 ?_;iterate 11 refine aT ?_
 refine mn ?_;iterate 2 refine aT ?_
 refine M1 ?_;iterate 5 refine aT ?_
 refine NG ?_;refine JR ?_;iterate 14 refine aT ?_
 refine iD (by exact CF (k:=0) rfl gg rfl rfl yF (hg0) (hh8)) ?_;refine NA ?_;iterate 7 refine aT ?_
 refine Dd ?_;refine aT ?_;refine iD (by exact BV rfl gg rfl rfl g) ?_;refine aT ?_;cases y
 .iterate 6 refine aT ?_
  refine Dd ?_;refine iD (by exact Bu (c:=((sz-b.length:Nat):Int)) rfl gg rfl rfl (by have:=yC e;rw[Ah (by omega) (by omega)];omega)) ?_;refine Ps ?_;refine iD (by exact Cc (bs:=List.replicate (sz-b.length) 0) rfl gg rfl x7 yL yF (by rw[<-Ut];exact BI rfl)) ?_;refine aT ?_;refine iD (by exact AK (c:=.string (AB (List.replicate (sz-b.length) 0++b))) rfl gg rfl rfl (λw=>Fu _ _ (by rw[uE5];omega) _ _ w)) ?_;iterate 3 refine aT ?_
  exact AG (AD (Av results28 (AF rfl) (AF rfl)) λ_ _ l=>⟨rfl,l.1⟩)
 .iterate 6 refine aT ?_
  exact AG (AD (Av results28 (AF rfl) (AF rfl)) λ_ _ l=>⟨rfl,l.1⟩)
theorem R3{c:List Value}(e:t.ok)(k:RN w S t c)(f:sz<=64):CBy 28 #[.agg c.toArray,.int .i64 (sz:Nat)] w (.tuple #[.string (AB ((BW t sz).getD [])),.bool (BW t sz).isSome]):=by
 cases t with
 |mk tg b ks=>
  have j:=k;simp only[RN]at j;obtain⟨kv,n,rfl,_⟩:=j;rw[VF];cases h:Ge (.mk tg b ks)with
  |true=>exact i6 w e k f h
  |false=>
   by_cases m:b.headD 0=0
   .have:=iu w e k f h m
    cases l:decide ((AY b).length>sz)<;>rw[l]at this<;>exact this
   .have g:=dm m
    have:=iv w e k f h m g;rw[g];cases l:decide (b.length>sz)<;>rw[l]at this<;>exact this
theorem sY(m:Nat)(E:m<9223372036854775808)(w:World):CBy 167 #[.int .i64 (m:Nat)] w (.string (AB (CW m))):=by
 go_enter func167,ntmps167
 refine A4 ?_;iterate 14 refine aT ?_
 refine Bo (α:={x:Nat×Int // x.1<=8/\x.2=56-8*(x.1:Int)}) (fun(x:{x:Nat×Int // x.1<=8/\x.2=56-8*(x.1:Int)}) f=>⟨.v (.int .i64 (m:Nat))::.v (f 1)::.v (f 2)::.d 900::.v (.int .i64 x.1.2)::fv f 13 5 [],AJ [(900,.row x.1.1 1 5 (.exact (((CW m).take x.1.1).map b8)))]⟩) (λx=>8-x.1.1) ?_ (⟨(0,56),by decide,rfl⟩) ?_
 .rintro⟨⟨j,z⟩,A,D⟩ f
  simp only at A D;obtain⟨q,g⟩:∃q,decide (z>=0)=q:=⟨_,rfl⟩
  change VOk _ _ _ _ _;simp only[fv,Nat.reduceAdd];iterate 4 refine aT ?_
  refine iD (by exact B4 rfl gg rfl rfl g) ?_;refine aT ?_;cases q
  .refine aT ?_
   have u:j=8:=by have:=yC g;omega
   subst u;refine As ?_;change VOk _ _ _ _ _;iterate 3 refine aT ?_
   refine iD (by exact Cc (bs:=CW m) rfl gg rfl x7 yL yF (BI rfl)) ?_;iterate 2 refine aT ?_
   exact AG (AD (AH results167 (AF rfl)) λ_ _ B=>⟨rfl,B.1⟩)
  .refine aT ?_
   have h:j<8:=by have:=yA g;omega
   obtain⟨s,C⟩:∃s:Nat,s=56-8*j:=⟨_,rfl⟩
   have k:z=((s:Nat):Int):=by omega
   iterate 7 refine aT ?_
   refine iD (by exact AK (b:=.int .i64 ((s:Nat):Int)) rfl gg rfl (by simp only[nm,seval,k]) (λw=>Vq _ s (by omega) (by omega) _ _ w)) ?_;refine FQ ?_;refine iD (by exact BL rfl rfl gg rfl (e:=5) (l:=[b8 (n8 (hb m s))]) rfl (by decide) (λ_=>by kernel_rfl)) ?_;refine Za ?_;iterate 4 refine aT ?_
   refine iD (by exact Bu (c:=z-8) rfl gg rfl rfl (by rw[Ah (by omega) (by omega)])) ?_;iterate 2 refine aT ?_
   have p:((CW m).take j).map b8++[b8 (n8 (hb m s))]=((CW m).take (j+1)).map b8:=by rw[Im (YF h C),SW];rfl
   rw[p];refine⟨⟨(j+1,z-8),by show j+1<=8;omega,by show z-8=56-8*((j+1:Nat):Int);omega⟩,by show 8-(j+1)<8-j;omega,?_⟩;exact(Ar (λi=>i==0||i==3||i==4) [14]).trans2 (λf=>Dk 15 900 (by decide) rfl)
 .refine(Ar (λi=>i==0||i==3||i==4) []).trans2 (λf=> ?_)
  refine(N1 900 1 5 (.exact []) (λw=>rfl) (m':=[]) rfl rfl (λρ n=> ?_) (λρ n=> ?_))
  .simp[fv,B0,SV.cs,SV.c,n,Bg]
  .simp[JG,BQ]
def Lf:Tr->Int
 | .mk t _ _=>t
theorem L0{w:World}{c:List Value}(h:RN w S t c):∃kv,c=[.int .i64 (Lf t),.string (AB (Az t)),kv]:=by
 cases t with
 |mk tg b ks=>
  simp only[RN]at h;obtain⟨kv,e,rfl,_⟩:=h;exact⟨kv,rfl⟩
theorem aS{f e:Nat}{l:List SV}{y:SV}{v:Value}(q:o.op=.load ty x)(g:AQ ops o s)(A:AE s x=.p f e)(n:s.mem f=some (.cells l bt))
 (u:P.underlying ty=some d)(m:Ba d=false)(B:l[e]? =some y)(z:∀ρ S C,RelOn w0.heap.size ρ S C (restr (f::rd) s.mem)->y.c ρ=v):Ev P ops w0 o s ⟨.v v,[],[],[],f::rd⟩:=
 Ev.run _ _ g λρ S w hb j=>by
  have h:=AI s ρ x;rw[A]at h;have k:=GK (w4 j n (by simp)).2 B;simp[execOp,q,h,SV.c,Instr.loadAt,Instr.sureAddr,loadVar,Bp u,m,k,z ρ S w j]
theorem p9{w:World}{e:Nat}{S:Nat->Nat->Prop}{m:Mem}(h:Nat)(g:t.ok)(l:RelOn e ρ S w (restr rd m))(f:h∈rd)(n:m h=some (.dat (AR t))):
 CBy 155 (SV.cs ρ [.d h]).toArray w (.tuple #[.string (AB (twN t).1),.int .i64 (twN t).2]):=by
 obtain⟨c,j,k⟩:=Cd l f n;simp only[SV.cs,SV.c,j];exact du w g k
def tN(l:List Nat):Tr:=.mk 2 (B2 l) []
theorem VL{l:List Nat}(h:∀x∈l,x<256):∀x∈B2 l,x<256:=by
 unfold B2;cases decide ((AY l).length=0)||decide ((AY l).headD 0>=128)<;>simp only[cond_true,cond_false]
 .exact Q6 h
 .intro x hx
  rcases uA6.1 hx with rfl|hx
  .decide
  .exact Q6 h x hx
theorem Vd{l:List Nat}(h:∀x∈l,x<256)(c:l.length<=64):(tN l).ok:=by
 simp only[tN,Tr.ok,oks,List.length_nil];exact⟨VL h,by have:=PL l;omega,by omega,True.intro⟩
def Cp:List Nat->List Nat
 |a::b::r=>bif decide (a=0) && decide (b<128)then Cp (b::r)else a::b::r
 |l=>l
theorem WY:∀l:List Nat,(bif decide ((Cp l).length=0)||decide ((Cp l).headD 0>=128)then 0::Cp l else Cp l)=B2 l
 | []=>rfl
 | [a]=>by
   by_cases c:a=0
   .subst c;rfl
   .have e:AY [a]=[a]:=by simp[AY,c]
    unfold B2;rw[e];rfl
 |a::b::r=>by
  cases h:decide (a=0) && decide (b<128)with
  |true=>
   have c:a=0:=by simp only[yW,BY]at h;exact h.1
   have e:Cp (a::b::r)=Cp (b::r):=by simp only[Cp,h,cond_true]
   have n:B2 (a::b::r)=B2 (b::r):=by
    have:AY (a::b::r)=AY (b::r):=by subst c;simp[AY]
    unfold B2;rw[this]
   rw[e,n];exact WY (b::r)
  |false=>
   have e:Cp (a::b::r)=a::b::r:=by simp only[Cp,h,cond_false]
   rw[e];by_cases c:a=0
   .have hb: ¬b<128:=by intro hb;rw[yE c,yE hb]at h;cases h
    have f:AY (a::b::r)=b::r:=by (subst c;have:b≠0:=(by omega);simp[AY,this])
    unfold B2;rw[f];have g:decide ((a::b::r).length=0)=false:=yB (by simp);have j:decide ((a::b::r).headD 0>=128)=false:=yB (by show¬a>=128;omega);have k:decide ((b::r).length=0)=false:=yB (by simp);have m:decide ((b::r).headD 0>=128)=true:=yE (by show b>=128;omega);rw[g,j,k,m,c];rfl
   .have f:AY (a::b::r)=a::b::r:=by simp[AY,c]
    unfold B2;rw[f]
theorem iH{b:Nat}(h:(decide (a=0) && decide (b<128))=true):Cp (a::b::r)=Cp (b::r):=by simp only[Cp,h,cond_true]
theorem iJ{b:Nat}(h:(decide (a=0) && decide (b<128))=false):Cp (a::b::r)=a::b::r:=by simp only[Cp,h,cond_false]
theorem iI{l:List Nat}(h:decide (l.length>1)=false):Cp l=l:=by
 have:=yC h
 match l,this with
 | [],_=>rfl
 | [a],_=>rfl
 |a::b::r,h=>simp only[List.length_cons]at h;omega
theorem Dm{w:World}(t:Int)(b:List Nat):Ae w0 w (.agg #[.int .i64 t,.string (AB b),.slice none 0 0]) (AU (.mk t b [])):=by
 refine⟨λ_=>False,⟨[.int .i64 t,.string (AB b),.slice none 0 0],rfl,?_⟩,λk c=>c.elim⟩;simp only[RN,RNs];exact⟨_,[],rfl,⟨none,0,rfl,yD _,rfl,.inl rfl⟩,rfl⟩
theorem VI{l:List Nat}(h:decide (l.length>1)=true):∃a b r,l=a::b::r:=by
 have:=yA h
 match l,this with
 |a::b::r,_=>exact⟨a,b,r,rfl⟩
theorem dE(e:bs.length=32)(w:World):CDy 24 #[.agg (bs.map b8).toArray] w (AR (tN bs)):=by
 go_enter func24,ntmps24
 refine A4 ?_;iterate 2 refine aT ?_
 refine iD (by exact ae (l:=bs.map b8) rfl rfl gg rfl (by simp[Value.cells])) ?_;iterate 4 refine aT ?_
 refine iD (by exact NS rfl gg rfl yY yG) ?_;refine iD (by exact Al (D:=AR (tN bs)) [1] rfl rfl gg rfl (eo func51) (λρ S g hb h=>by obtain⟨n,q⟩:=hU (id:=1) (off:=0) (len:=32) (cap:=32) (size:=1) (l:=bs.map b8) rfl (zT (by simp[e])) (by simp[e]) (yD _) ρ S g hb h;exact YC (bs:=bs) (S:=n) g (by rw[e];exact q) (by omega))) ?_;refine iD (by exact Bh (vl:=[.fn (AN 0) (.d 4),.fn (AN 1) (.d 4),.fn (AN 2) (.d 4)]) [2,4] rfl gg rfl rfl rfl yH rfl (λρ S g _ h=>by obtain⟨c,p,j⟩:=Cd (id:=4) h (by simp) rfl;have k:=fn3 p (CS j);exact⟨k.1,k.2▸HB j⟩) rfl (by simp)) ?_;refine aT ?_;refine AG ?_;refine AD (AH results24 (Am rfl rfl yZ rfl yH rfl)) ?_;intro ρ g m;exact⟨_,rfl,Hs 4 m rfl,m.1⟩
theorem R6{l:List Nat}(T:∀x∈l,x<256)(Y:l.length<=64)(w:World):CDy 33 #[.string (AB l)] w (AU (tN l)):=by
 go_enter func33,ntmps33
 refine A4 ?_;iterate 6 refine aT ?_
 refine Bo (α:={x:List Nat // Cp x=Cp l/\(∀y∈x,y<256)/\x.length<=l.length}) (fun(x:{x:List Nat // Cp x=Cp l/\(∀y∈x,y<256)/\x.length<=l.length}) f=>⟨.v (.string (AB x.1))::.v (f 1)::.p 2 0::fv f 26 3 [],AJ [(2,.cells [.v (.int .i64 0),.v (.string (ByteArray.mk #[])),.v (.slice none 0 0)] 71)]⟩) (λx=>x.1.length) ?_ (⟨l,rfl,T,yD _⟩) ?_
 .rintro⟨x,G,n,Q⟩ f
  obtain⟨q,e⟩:∃q,decide (x.length>1)=q:=⟨_,rfl⟩
  have h_q':=(Cr x.length 1).trans e;obtain⟨V,h⟩:∃q,decide (x.headD 0=0)=q:=⟨_,rfl⟩
  have h_q2':=(CM (x.headD 0) 0).trans h;obtain⟨W,j⟩:∃q,decide (x.getD 1 0<128)=q:=⟨_,rfl⟩
  have A:=(CL (x.getD 1 0) 128).trans j;obtain⟨H,m⟩:∃q,decide (x.length=0)=q:=⟨_,rfl⟩
  obtain⟨q5,u⟩:∃q,decide (x.headD 0>=128)=q:=⟨_,rfl⟩
  have B:=(Ej (x.headD 0) 128).trans u;have D:0<x.length->x[0]? =some (x.headD 0):=IQ;have E:q=true->x[1]? =some (x.getD 1 0):=λg=>by have:=yA (e.trans g);rw[uE4,zK (by omega)];rfl
  have F:x.headD 0<256:=by cases x with|nil=>decide|cons a r=>exact n a (by simp)
  have M:q=true->x.getD 1 0<256:=λg=>n _ (zA (E g))
  have R:q=true->0<x.length:=λg=>by have:=yA (e.trans g);omega
  have N:H=false->0<x.length:=λg=>by have:=yC (m.trans g);omega
  cases q<;>cases V<;>cases W<;>
  (
   change VOk _ _ _ _ _;simp only[fv,Nat.reduceAdd];iterate 4 refine aT ?_
   refine Dd ?_;refine Kz ?_;iterate 2 refine aT ?_
   refine iD (by first|exact Ev.skip (λ_=>rfl)|exact CF (k:=0) rfl (λ_=>rfl) rfl rfl yF (D (R rfl)) (F)) ?_;refine Po ?_;iterate 3 refine aT ?_
   refine iD (by first|exact Ev.skip (λ_=>rfl)|exact CF (k:=1) rfl (λ_=>rfl) rfl rfl yF (E rfl) (M rfl)) ?_;refine iD (by first|exact Ev.skip (λ_=>rfl)|exact D8 rfl (λ_=>rfl) rfl rfl A) ?_;iterate 2 refine aT ?_
   first
   |(
    iterate 5 refine aT ?_
    refine iD (by exact IT (k:=1) (b:=x) (b':=x.drop 1) rfl gg rfl rfl yF (R rfl) rfl) ?_;iterate 2 refine aT ?_
    obtain⟨a,b,r,rfl⟩:=VI e;have K:(decide (a=0) && decide (b<128))=true:=by have I:decide (a=0)=true:=h;have J:decide (b<128)=true:=j;rw[I,J];rfl
    refine⟨⟨b::r,by rw[<-G,iH K],λy U=>n y (by simp[U]),by simp only[List.length_cons]at Q ⊢; omega⟩,by show(b::r).length<(a::b::r).length;simp,?_⟩;exact Ar (λi=>i==0||i==2) []
    )
   |(
    refine aT ?_;have C:Cp l=x:=by rw[<-G];first|exact iI e|(obtain⟨a,b,r,rfl⟩:=VI e;have I:decide (a=0)=_:=h;have J:decide (b<128)=_:=j;exact iJ (by rw[I,J];rfl))
    have z:B2 l=bif H||q5 then 0::x else x:=by rw[<-WY,C,m,u]
    have L:decide (x=[])=H:=by rw[<-m];cases x<;>simp
    cases H<;>cases q5<;>
    (
     refine As ?_;change VOk _ _ _ _ _;iterate 4 refine aT ?_
     refine iD (by exact AK rfl gg rfl rfl (λw=>E4 (b:=[]) L n (λx G=>by cases G) _ _ w)) ?_;iterate 2 refine aT ?_
     refine iD (by first|exact Ev.skip (λ_=>rfl)|exact CF (k:=0) rfl (λ_=>rfl) rfl rfl yF (D (N rfl)) (F)) ?_;refine iD (by first|exact Ev.skip (λ_=>rfl)|exact Ew rfl (λ_=>rfl) rfl rfl B) ?_;iterate 2 refine aT ?_
     first
     |(
      iterate 3 refine aT ?_
      refine iD (by exact AK (c:=.string (AB (0::x))) rfl gg rfl rfl (λw=>Fu [0] x (by simp;omega) _ _ w)) ?_;iterate 5 refine aT ?_
      refine Zo ?_;iterate 2 refine aT ?_
      refine AG ?_;refine AD (AH results33 (Am rfl rfl yS rfl yI rfl)) ?_;intro ρ X O;unfold tN;rw[z];refine⟨_,rfl,?_,O.1⟩;exact Dm 2 _
      )
     |(
      iterate 5 refine aT ?_
      refine Zo ?_;iterate 2 refine aT ?_
      refine AG ?_;refine AD (AH results33 (Am rfl rfl yS rfl yI rfl)) ?_;intro ρ X O;unfold tN;rw[z];refine⟨_,rfl,?_,O.1⟩;exact Dm 2 _
      )
    )
    )
  )
 .exact Ar (λi=>i==0||i==2) []
end Go.Proofs.YtafbhakmkbehiaaGreatDoor
